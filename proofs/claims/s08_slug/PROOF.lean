import PyProof.Rows.All
import Wide.All
import OpenK.AllK
import Wide.FinOn
import Open.SpecLaws
import HandS.ForMost
import HandS.ForSpec
import HandS.Deep
import HandS.TupAny
import HandS.Walk
import HandS.RevRange
import HandS.Rev
import HandS.Style
import KE.OsGo
import KE.OsHead
import HandS.Defaults
import HandS.Head0
import HandS.Head1
import HandS.Head2
import HandS.HeadHook1
import HandS.HeadHook2
import PySem.Challenge.RW_blocktrees_s08_slug
import Kh450Spec
import Kh450Neutral
import PyFlat
import PyKh450
set_option Elab.async false
set_option linter.all false
set_option maxRecDepth 100000
set_option maxHeartbeats 2000000
/-! Pure data under the layer: what a value stands for, what is hidden, what a frame's slots hold. -/
namespace BT
open PySem PySem.Spec PyProof.Rows L2
/-- data; arg: a request's own list of whole numbers, which is read only; opq: no data -/
inductive D where
  | non
  | bl (b : Bool)
  | int (i : Int)
  | str (x : Str)
  | lst (l : List D)
  | tup (l : List D)
  | arg (l : List Int)
  | opq
mutual
def D.py : D → PyData
  | .non => .none
  | .bl b => .bool b
  | .int i => .int i
  | .str x => .str x
  | .lst l => .list (D.pys l)
  | .tup l => .tuple (D.pys l)
  | .arg l => .list (l.map PyData.int)
  | .opq => .none
def D.pys : List D → List PyData
  | [] => []
  | d :: r => d.py :: D.pys r
end
mutual
inductive Dr (K : PySem.W.Frag) (H : Hp) : V → D → Prop
  | non : Dr K H .non .non
  | bl (b : Bool) : Dr K H (.bl b) (.bl b)
  | int (i : Int) : Dr K H (.int i) (.int i)
  | str (x : Str) : Dr K H (.str x) (.str x)
  | lst {a : Addr} {xs : List V} {ds : List D} : H a = some (.lst xs) → DrAll K H xs ds → Dr K H (.ref a) (.lst ds)
  | tup {a : Addr} {xs : List V} {ds : List D} : SqT K H a xs → DrAll K H xs ds → Dr K H (.ref a) (.tup ds)
  | arg {a : Addr} {ns : List Int} : SqL K H a (ns.map V.int) → Dr K H (.ref a) (.arg ns)
inductive DrAll (K : PySem.W.Frag) (H : Hp) : List V → List D → Prop
  | nil : DrAll K H [] []
  | cons {v : V} {vs : List V} {d : D} {ds : List D} : Dr K H v d → DrAll K H vs ds → DrAll K H (v :: vs) (d :: ds)
end
section
variable {K : PySem.W.Frag} {H H' : Hp}
theorem same_seqT {a : Addr} {xs : List V} (e : Same H H') (h : SqT K H a xs) : SqT K H' a xs := by
  rcases h with (h | ⟨o, h⟩) | h
  · exact .inl (.inl (e _ _ h))
  · exact .inl (.inr ⟨o, e _ _ h⟩)
  · exact .inr h
mutual
theorem Dr.mono (e : Same H H') : ∀ (d : D) (v : V), Dr K H v d → Dr K H' v d
  | .non, _, h => by cases h; exact .non
  | .bl b, _, h => by cases h; exact .bl b
  | .int i, _, h => by cases h; exact .int i
  | .str x, _, h => by cases h; exact .str x
  | .lst l, _, h => by
    cases h with
    | lst hs ha => exact .lst (e _ _ hs) (DrAll.mono e l _ ha)
  | .tup l, _, h => by
    cases h with
    | tup hs ha => exact .tup (same_seqT e hs) (DrAll.mono e l _ ha)
  | .arg l, _, h => by
    cases h with
    | arg hs => exact .arg (e.seq hs)
  | .opq, _, h => by cases h
theorem DrAll.mono (e : Same H H') : ∀ (ds : List D) (vs : List V), DrAll K H vs ds → DrAll K H' vs ds
  | [], _, h => by cases h; exact .nil
  | d :: ds, _, h => by
    cases h with
    | cons h1 h2 => exact .cons (Dr.mono e d _ h1) (DrAll.mono e ds _ h2)
end
theorem dp_ints : ∀ ns : List Int, DpAll K H (ns.map V.int) (ns.map PyData.int)
  | [] => .nil
  | n :: r => .cons (.int n) (dp_ints r)
mutual
theorem Dr.dp : ∀ (d : D) (v : V), Dr K H v d → Dp K H v d.py
  | .non, _, h => by cases h; exact .non
  | .bl b, _, h => by cases h; exact .bl b
  | .int i, _, h => by cases h; exact .int i
  | .str x, _, h => by cases h; exact .str x
  | .lst l, _, h => by
    cases h with
    | lst hs ha => exact .lst (.of hs) (DrAll.dp l _ ha)
  | .tup l, _, h => by
    cases h with
    | tup hs ha => exact .tup hs (DrAll.dp l _ ha)
  | .arg l, _, h => by
    cases h with
    | arg hs => exact .lst hs (dp_ints l)
  | .opq, _, h => by cases h
theorem DrAll.dp : ∀ (ds : List D) (vs : List V), DrAll K H vs ds → DpAll K H vs (D.pys ds)
  | [], _, h => by cases h; exact .nil
  | d :: ds, _, h => by
    cases h with
    | cons h1 h2 => exact .cons (Dr.dp d _ h1) (DrAll.dp ds _ h2)
end
theorem DrAll.len : ∀ {vs : List V} {ds : List D}, DrAll K H vs ds → vs.length = ds.length
  | _, _, .nil => rfl
  | _, _, .cons _ t => congrArg (· + 1) t.len
theorem DrAll.get : ∀ {vs : List V} {ds : List D} {i : Nat} {d : D}, DrAll K H vs ds → ds[i]? = some d → ∃ v, vs[i]? = some v ∧ Dr K H v d
  | _, _, _, _, .nil, e => by simp at e
  | _, _, 0, _, .cons r _, e => by
    simp at e
    subst e
    exact ⟨_, rfl, r⟩
  | _, _, i + 1, _, .cons _ t, e => by
    obtain ⟨v, h1, h2⟩ := t.get (i := i) (by simpa using e)
    exact ⟨v, by simpa using h1, h2⟩
theorem DrAll.getV : ∀ {vs : List V} {ds : List D} {i : Nat} {v : V}, DrAll K H vs ds → vs[i]? = some v → ∃ d, ds[i]? = some d ∧ Dr K H v d
  | _, _, _, _, .nil, e => by simp at e
  | _, _, 0, _, .cons r _, e => by
    simp at e
    subst e
    exact ⟨_, rfl, r⟩
  | _, _, i + 1, _, .cons _ t, e => by
    obtain ⟨d, h1, h2⟩ := t.getV (i := i) (by simpa using e)
    exact ⟨d, by simpa using h1, h2⟩
theorem DrAll.app : ∀ {vs ws : List V} {ds es : List D}, DrAll K H vs ds → DrAll K H ws es → DrAll K H (vs ++ ws) (ds ++ es)
  | _, _, _, _, .nil, s => s
  | _, _, _, _, .cons r t, s => .cons r (t.app s)
theorem DrAll.take : ∀ {vs : List V} {ds : List D} (n : Nat), DrAll K H vs ds → DrAll K H (vs.take n) (ds.take n)
  | _, _, 0, _ => .nil
  | _, _, _ + 1, .nil => .nil
  | _, _, n + 1, .cons r t => .cons r (t.take n)
theorem DrAll.drop : ∀ {vs : List V} {ds : List D} (n : Nat), DrAll K H vs ds → DrAll K H (vs.drop n) (ds.drop n)
  | _, _, 0, r => r
  | _, _, _ + 1, .nil => .nil
  | _, _, n + 1, .cons _ t => t.drop n
theorem DrAll.set {v : V} {d : D} (r : Dr K H v d) : ∀ {vs : List V} {ds : List D} (i : Nat), DrAll K H vs ds → DrAll K H (vs.set i v) (ds.set i d)
  | _, _, _, .nil => .nil
  | _, _, 0, .cons _ t => .cons r t
  | _, _, i + 1, .cons q t => .cons q (t.set r i)
theorem DrAll.ints : ∀ ns : List Int, DrAll K H (ns.map V.int) (ns.map D.int)
  | [] => .nil
  | n :: r => .cons (.int n) (DrAll.ints r)
theorem DrAll.ints_eq : ∀ {vs : List V} {ns : List Int}, DrAll K H vs (ns.map D.int) → vs = ns.map V.int
  | _, [], h => by cases h; rfl
  | _, n :: r, h => by
    cases h with
    | cons h1 h2 =>
      cases h1
      rw [DrAll.ints_eq h2]
      rfl
end
/-! ### what is hidden -/
open Classical in
noncomputable def hide (O : Addr → Prop) (H : Hp) : Hp := fun a => if O a then none else H a
section
variable {O O' : Addr → Prop} {H H' : Hp}
theorem hide_out {a : Addr} (h : ¬ O a) : hide O H a = H a := if_neg h
theorem hide_in {a : Addr} (h : O a) : hide O H a = none := if_pos h
theorem hide_some {a : Addr} {o : HO} (h : hide O H a = some o) : ¬ O a ∧ H a = some o := by
  by_cases c : O a
  · rw [hide_in c] at h
    cases h
  · exact ⟨c, by rw [← hide_out (H := H) c]; exact h⟩
theorem hide_same (e : Same H H') (k : ∀ a, O' a → O a ∨ H a = none) : Same (hide O H) (hide O' H') := fun b o h => by
  obtain ⟨h1, h2⟩ := hide_some h
  have n : ¬ O' b := fun z => by
    rcases k b z with q | q
    · exact h1 q
    · rw [h2] at q
      cases q
  rw [hide_out n]
  exact e b o h2
theorem hide_le : Same (hide O H) H := fun _ _ h => (hide_some h).2
/-- a hidden object may change -/
theorem hide_upd {p : Addr} {o : HO} (h : O p) : hide O (upd H p o) = hide O H := by
  funext b
  by_cases c : O b
  · rw [hide_in c, hide_in c]
  · rw [hide_out c, hide_out c]
    exact upd_ne fun z => c (z ▸ h)
theorem same_upd {p : Addr} {o : HO} (h : H p = none) : Same H (upd H p o) := fun b u e => by
  rw [upd_ne (ne_of_none e h)]
  exact e
theorem same_mut {H0 : Hp} {p : Addr} {o : HO} (e : Same H0 H) (h : H0 p = none) : Same H0 (upd H p o) := fun b u q => by
  rw [upd_ne (ne_of_none q h)]
  exact e b u q
end
end BT
/-! The meaning of expressions over data, and what makes a derivation sound for it. -/
namespace BT
open PySem PySem.Spec PyProof.Rows L2
/-- an answer; ex: the program's own error with its two numbers; bad: not followed -/
inductive R (α : Type) where
  | ok (a : α)
  | ex (k p : Int)
  | bad
def R.bind {α β : Type} : R α → (α → R β) → R β
  | .ok a, f => f a
  | .ex k p, _ => .ex k p
  | .bad, _ => .bad
@[simp] theorem R.bind_ok {α β : Type} (a : α) (f : α → R β) : (R.ok a).bind f = f a := rfl
@[simp] theorem R.bind_ex {α β : Type} (k p : Int) (f : α → R β) : (R.ex k p).bind f = .ex k p := rfl
@[simp] theorem R.bind_bad {α β : Type} (f : α → R β) : (R.bad).bind f = .bad := rfl
/-- a slot: without a value, data, a list of the frame's own, a list of lists of its own -/
inductive Sl where
  | un
  | sh (d : D)
  | ow (l : List D)
  | o2 (ll : List (List D))
abbrev Ev := List Sl
/-- a value at hand: data; a list that a slot owns; a new list -/
inductive PV where
  | st (d : D)
  | bo (l : List D)
  | fr (l : List D)
  | b2 (ll : List (List D))
@[simp] def PV.d : PV → D
  | .st d => d
  | .bo l => .lst l
  | .fr l => .lst l
  | .b2 _ => .opq
/-- .. for a look -/
@[simp] def PV.lk : PV → D
  | .st d => d
  | .bo l => .lst l
  | .fr l => .lst l
  | .b2 ll => .lst (ll.map D.lst)
/-- the hidden addresses: from outside, and the slots' own -/
structure Hd where
  out : Addr → Prop
  own : Nat → Addr → Prop
  gs : List (V × D) := []
def Hd.B (h : Hd) (a : Addr) : Prop := ∃ i, h.own i a
def Hd.O (h : Hd) (a : Addr) : Prop := h.out a ∨ h.B a
def Hd.of (O : Addr → Prop) : Hd := ⟨O, fun _ _ => False, []⟩
theorem Hd.of_O {O : Addr → Prop} : (Hd.of O).O = O := by
  funext a
  exact propext ⟨fun z => z.elim id fun ⟨_, q⟩ => q.elim, .inl⟩
abbrev Dom (O : Addr → Prop) (H : Hp) : Prop := ∀ a, O a → ∃ o, H a = some o
theorem Dom.mono {O : Addr → Prop} {H H' : Hp} (d : Dom O H) (e : Same H H') : Dom O H' := fun a h => let ⟨o, q⟩ := d a h; ⟨o, e a o q⟩
theorem Dom.new {O : Addr → Prop} {H : Hp} (d : Dom O H) {p : Addr} (n : H p = none) : ¬ O p := fun z => by
  obtain ⟨o, q⟩ := d p z
  rw [n] at q
  cases q
/-- the inner lists of a list of lists: each stands for itself -/
inductive Nest (K : PySem.W.Frag) (Hv H : Hp) (P : Addr → Prop) (p : Addr) : List Addr → List (List D) → Prop
  | nil : Nest K Hv H P p [] []
  | cons {q : Addr} {qs : List Addr} {vs : List V} {l : List D} {ll : List (List D)} : P q → q ≠ p → q ∉ qs → H q = some (.lst vs) → DrAll K Hv vs l → Nest K Hv H P p qs ll → Nest K Hv H P p (q :: qs) (l :: ll)
section
variable {K : PySem.W.Frag} {Hv Hv' H H' : Hp} {P P' : Addr → Prop} {p : Addr}
theorem Nest.mono : ∀ {qs : List Addr} {ll : List (List D)}, Nest K Hv H P p qs ll → Same Hv Hv' → (∀ q o, P q → q ∈ qs → H q = some o → H' q = some o) → (∀ q, P q → q ∈ qs → P' q) → Nest K Hv' H' P' p qs ll
  | _, _, .nil, _, _, _ => .nil
  | _, _, .cons a b c d e t, s, k, m => .cons (m _ a (List.mem_cons_self ..)) b c (k _ _ a (List.mem_cons_self ..) d) (DrAll.mono s _ _ e) (t.mono s (fun q o z i => k q o z (List.mem_cons_of_mem _ i)) fun q z i => m q z (List.mem_cons_of_mem _ i))
theorem Nest.dr : ∀ {qs : List Addr} {ll : List (List D)}, Nest K Hv H P p qs ll → Same Hv Hv' → (∀ q o, P q → q ∈ qs → H q = some o → Hv' q = some o) → DrAll K Hv' (qs.map V.ref) (ll.map D.lst)
  | _, _, .nil, _, _ => .nil
  | _, _, .cons a b c d e t, s, k => .cons (.lst (k _ _ a (List.mem_cons_self ..) d) (DrAll.mono s _ _ e)) (t.dr s fun q o z i => k q o z (List.mem_cons_of_mem _ i))
theorem Nest.len : ∀ {qs : List Addr} {ll : List (List D)}, Nest K Hv H P p qs ll → qs.length = ll.length
  | _, _, .nil => rfl
  | _, _, .cons _ _ _ _ _ t => congrArg (· + 1) t.len
theorem Nest.get : ∀ {qs : List Addr} {ll : List (List D)} {i : Nat} {l : List D}, Nest K Hv H P p qs ll → ll[i]? = some l → ∃ q vs, qs[i]? = some q ∧ P q ∧ q ≠ p ∧ H q = some (.lst vs) ∧ DrAll K Hv vs l
  | _, _, _, _, .nil, e => by simp at e
  | _, _, 0, _, .cons a b c d f _, e => by
    simp at e
    subst e
    exact ⟨_, _, rfl, a, b, d, f⟩
  | _, _, i + 1, _, .cons _ _ _ _ _ t, e => by
    obtain ⟨q, vs, h1, h2⟩ := t.get (i := i) (by simpa using e)
    exact ⟨q, vs, by simpa using h1, h2⟩
/-- one of them changes -/
theorem Nest.set {ws : List V} {m : List D} : ∀ {qs : List Addr} {ll : List (List D)} {i : Nat} {q : Addr}, Nest K Hv H P p qs ll → qs[i]? = some q → DrAll K Hv ws m → Nest K Hv (upd H q (.lst ws)) P p qs (ll.set i m)
  | _, _, _, _, .nil, e, _ => by simp at e
  | _, _, 0, _, .cons (q := q0) a b c d f t, e, r => by
    simp at e
    subst e
    refine .cons a b c upd_same r (t.mono (Same.refl _) (fun q2 o _ i y => ?_) fun _ z _ => z)
    have ne : q2 ≠ q0 := fun z => c (by rw [← z]; exact i)
    rw [upd_ne ne]
    exact y
  | _, _, i + 1, q, .cons (q := q0) a b c d f t, e, r => by
    have e' := (show _ = some q by simpa using e)
    have ne : q0 ≠ q := fun z => c (by rw [z]; exact List.mem_of_getElem? e')
    exact .cons a b c (by rw [upd_ne ne]; exact d) f (t.set e' r)
theorem Nest.snoc {q : Addr} {vs : List V} {l : List D} : ∀ {qs : List Addr} {ll : List (List D)}, Nest K Hv H P p qs ll → P q → q ≠ p → q ∉ qs → H q = some (.lst vs) → DrAll K Hv vs l → Nest K Hv H P p (qs ++ [q]) (ll ++ [l])
  | _, _, .nil, a, b, c, d, e => .cons a b (by simp) d e .nil
  | _, _, .cons (q := q0) a' b' c' d' e' t, a, b, c, d, e => by
    refine .cons a' b' (fun z => ?_) d' e' (t.snoc a b (fun z => c (List.mem_cons_of_mem _ z)) d e)
    rcases List.mem_append.mp z with z | z
    · exact c' z
    · have : q0 = q := by simpa using z
      exact c (by rw [this]; exact List.mem_cons_self ..)
theorem Nest.mem {qs : List Addr} {ll : List (List D)} (n : Nest K Hv H P p qs ll) : ∀ q ∈ qs, P q ∧ q ≠ p ∧ ∃ vs, H q = some (.lst vs) := by
  induction n with
  | nil => intro q h; cases h
  | cons a b c d e t ih =>
    intro q h
    rcases List.mem_cons.mp h with z | z
    · subst z
      exact ⟨a, b, _, d⟩
    · exact ih q z
end
def PvR (K : PySem.W.Frag) (h : Hd) (Hb H : Hp) : PV → V → Prop
  | .st d, v => Dr K (hide h.O H) v d
  | .bo l, v => ∃ p vs, v = .ref p ∧ h.B p ∧ H p = some (.lst vs) ∧ DrAll K (hide h.O H) vs l
  | .fr l, v => ∃ p vs, v = .ref p ∧ Hb p = none ∧ ¬ h.O p ∧ H p = some (.lst vs) ∧ DrAll K (hide (fun a => a = p ∨ h.O a) H) vs l
  | .b2 ll, v => ∃ p qs, v = .ref p ∧ h.B p ∧ H p = some (.lst (qs.map V.ref)) ∧ Nest K (hide h.O H) H h.B p qs ll
section
variable {K : PySem.W.Frag} {h : Hd} {Hb H H1 H' : Hp}
theorem PvR.grow {pv : PV} {v : V} (r : PvR K h Hb H pv v) (e : Same H H') : PvR K h Hb H' pv v := by
  cases pv with
  | st d => exact Dr.mono (hide_same e fun a z => .inl z) d v r
  | bo l =>
    obtain ⟨p, vs, e1, b, e2, r⟩ := r
    exact ⟨p, vs, e1, b, e p _ e2, DrAll.mono (hide_same e fun a z => .inl z) l vs r⟩
  | fr l =>
    obtain ⟨p, vs, e1, n, no, e2, r⟩ := r
    exact ⟨p, vs, e1, n, no, e p _ e2, DrAll.mono (hide_same e fun a z => .inl z) l vs r⟩
  | b2 ll =>
    obtain ⟨p, qs, e1, b, e2, r⟩ := r
    exact ⟨p, qs, e1, b, e p _ e2, r.mono (hide_same e fun a z => .inl z) (fun q o _ _ y => e q o y) fun _ z _ => z⟩
theorem PvR.back {pv : PV} {v : V} (r : PvR K h H1 H pv v) (e : Same Hb H1) : PvR K h Hb H pv v := by
  cases pv with
  | st d => exact r
  | bo l => exact r
  | fr l =>
    obtain ⟨p, vs, e1, n, no, e2, r⟩ := r
    exact ⟨p, vs, e1, e.free n, no, e2, r⟩
  | b2 ll => exact r
theorem hide_more {O O' : Addr → Prop} (k : ∀ a, O' a → O a) : Same (hide O H) (hide O' H) := hide_same (Same.refl H) fun a z => .inl (k a z)
/-- a value as a list of items -/
def PV.items : PV → Option (List D)
  | .st (.lst l) => some l
  | .st (.tup l) => some l
  | .st (.arg ns) => some (ns.map D.int)
  | .bo l => some l
  | .fr l => some l
  | _ => none
theorem PvR.seq {pv : PV} {v : V} {l : List D} (r : PvR K h Hb H pv v) (e : pv.items = some l) : ∃ p vs, v = .ref p ∧ (SqL K H p vs ∨ SqT K H p vs) ∧ DrAll K (hide h.O H) vs l := by
  cases pv with
  | st d =>
    cases d with
    | lst m =>
      cases e
      cases r with
      | lst hs ha => exact ⟨_, _, rfl, .inl (.of (hide_le _ _ hs)), ha⟩
    | tup m =>
      cases e
      cases r with
      | tup hs ha => exact ⟨_, _, rfl, .inr (same_seqT hide_le hs), ha⟩
    | arg m =>
      cases e
      cases r with
      | arg hs => exact ⟨_, _, rfl, .inl (hide_le.seq hs), DrAll.ints m⟩
    | _ => cases e
  | bo m =>
    cases e
    obtain ⟨p, vs, e1, b, e2, r⟩ := r
    exact ⟨p, vs, e1, .inl (.of e2), r⟩
  | fr m =>
    cases e
    obtain ⟨p, vs, e1, n, no, e2, r⟩ := r
    exact ⟨p, vs, e1, .inl (.of e2), DrAll.mono (hide_more fun a z => .inr z) _ vs r⟩
  | b2 m => cases e
/-- .. but for a tuple's -/
def PV.litems : PV → Option (List D)
  | .st (.lst l) => some l
  | .st (.arg ns) => some (ns.map D.int)
  | .bo l => some l
  | .fr l => some l
  | _ => none
theorem PvR.seqL {pv : PV} {v : V} {l : List D} (r : PvR K h Hb H pv v) (e : pv.litems = some l) : ∃ p vs, v = .ref p ∧ SqL K H p vs ∧ DrAll K (hide h.O H) vs l := by
  cases pv with
  | st d =>
    cases d with
    | lst m =>
      cases e
      cases r with
      | lst hs ha => exact ⟨_, _, rfl, .of (hide_le _ _ hs), ha⟩
    | arg m =>
      cases e
      cases r with
      | arg hs => exact ⟨_, _, rfl, hide_le.seq hs, DrAll.ints m⟩
    | _ => cases e
  | bo m =>
    cases e
    obtain ⟨p, vs, e1, b, e2, r⟩ := r
    exact ⟨p, vs, e1, .of e2, r⟩
  | fr m =>
    cases e
    obtain ⟨p, vs, e1, n, no, e2, r⟩ := r
    exact ⟨p, vs, e1, .of e2, DrAll.mono (hide_more fun a z => .inr z) _ vs r⟩
  | b2 m => cases e
/-- .. that is a list indeed, tracked -/
def PV.lstOf : PV → Option (List D)
  | .st (.lst l) => some l
  | .bo l => some l
  | .fr l => some l
  | _ => none
theorem PvR.lst {pv : PV} {v : V} {l : List D} (r : PvR K h Hb H pv v) (e : pv.lstOf = some l) : ∃ p vs, v = .ref p ∧ H p = some (.lst vs) ∧ DrAll K (hide h.O H) vs l := by
  cases pv with
  | st d =>
    cases d with
    | lst m =>
      cases e
      cases r with
      | lst hs ha => exact ⟨_, _, rfl, hide_le _ _ hs, ha⟩
    | _ => cases e
  | bo m =>
    cases e
    obtain ⟨p, vs, e1, b, e2, r⟩ := r
    exact ⟨p, vs, e1, e2, r⟩
  | fr m =>
    cases e
    obtain ⟨p, vs, e1, n, no, e2, r⟩ := r
    exact ⟨p, vs, e1, e2, DrAll.mono (hide_more fun a z => .inr z) _ vs r⟩
  | b2 m => cases e
/-- data that lasts -/
def PV.toD : PV → R D
  | .st d => .ok d
  | .fr l => .ok (.lst l)
  | .bo _ => .bad
  | .b2 _ => .bad
theorem PvR.toD {pv : PV} {v : V} {d : D} (r : PvR K h Hb H pv v) (e : pv.toD = .ok d) : Dr K (hide h.O H) v d := by
  cases pv with
  | st d =>
    cases e
    exact r
  | bo l => cases e
  | b2 l => cases e
  | fr l =>
    cases e
    obtain ⟨p, vs, e1, n, no, e2, r⟩ := r
    rw [e1]
    exact .lst (by rw [hide_out no]; exact e2) (DrAll.mono (hide_more fun a z => .inr z) _ vs r)
/-- data at hand for a look -/
theorem PvR.look {pv : PV} {v : V} (r : PvR K h Hb H pv v) : Dr K H v pv.lk := by
  cases pv with
  | st d => exact Dr.mono hide_le d v r
  | bo l =>
    obtain ⟨p, vs, e1, b, e2, r⟩ := r
    rw [e1]
    exact .lst e2 (DrAll.mono hide_le _ vs r)
  | fr l =>
    obtain ⟨p, vs, e1, n, no, e2, r⟩ := r
    rw [e1]
    exact .lst e2 (DrAll.mono hide_le _ vs r)
  | b2 ll =>
    obtain ⟨p, qs, e1, b, e2, r⟩ := r
    rw [e1]
    exact .lst e2 (r.dr hide_le fun q o _ _ y => y)
/-- a new list -/
theorem PvR.new {p : Addr} {vs : List V} {l : List D} (dm : Dom h.O H) (n : H p = none) (r : DrAll K (hide h.O H) vs l) : PvR K h H (upd H p (.lst vs)) (.fr l) (.ref p) :=
  ⟨p, vs, rfl, n, dm.new n, upd_same, DrAll.mono (hide_same (same_upd n) fun a z => z.elim (fun e => .inr (by rw [e]; exact n)) .inl) _ vs r⟩
theorem PvR.newT {p : Addr} {vs : List V} {l : List D} (dm : Dom h.O H) (n : H p = none) (r : DrAll K (hide h.O H) vs l) : PvR K h H (upd H p (.tup vs)) (.st (.tup l)) (.ref p) := by
  have s : Same (hide h.O H) (hide h.O (upd H p (.tup vs))) := hide_same (same_upd n) fun a z => .inl z
  exact .tup (.of (by rw [hide_out (dm.new n)]; exact upd_same)) (DrAll.mono s _ vs r)
end
/-! ### what a slot holds, what a frame holds -/
def HoldR (K : PySem.W.Frag) (Hv H : Hp) (P : Addr → Prop) : Sl → Option V → Prop
  | .un, _ => True
  | .sh d, ov => ∃ v, ov = some v ∧ Dr K Hv v d
  | .ow l, ov => ∃ p vs, ov = some (.ref p) ∧ P p ∧ H p = some (.lst vs) ∧ DrAll K Hv vs l
  | .o2 ll, ov => ∃ p qs, ov = some (.ref p) ∧ P p ∧ H p = some (.lst (qs.map V.ref)) ∧ Nest K Hv H P p qs ll
structure Rep (K : PySem.W.Frag) (H0 : Hp) (h : Hd) (H : Hp) (G : Ev) (σ : L2.St) : Prop where
  same : Same H0 H
  sub : Dom h.out H0
  fresh : ∀ i a, h.own i a → H0 a = none
  dom : ∀ i a, h.own i a → ∃ o, H a = some o
  dis : ∀ i j a, h.own i a → h.own j a → i = j
  len : σ.length = G.length
  slot : ∀ i s, G[i]? = some s → ∃ ov, σ[i]? = some ov ∧ HoldR K (hide h.O H) H (h.own i) s ov
  gh : ∀ g ∈ h.gs, Dr K (hide h.O H) g.1 g.2
section
variable {K : PySem.W.Frag} {H0 : Hp} {h : Hd} {H H' : Hp} {G : Ev} {σ : L2.St}
theorem HoldR.mono {Hv Hv' : Hp} {P : Addr → Prop} {s : Sl} {ov : Option V} (r : HoldR K Hv H P s ov) (e : Same Hv Hv') (e2 : ∀ p o, P p → H p = some o → H' p = some o) : HoldR K Hv' H' P s ov := by
  cases s with
  | un => trivial
  | sh d =>
    obtain ⟨v, e1, r⟩ := r
    exact ⟨v, e1, Dr.mono e d v r⟩
  | ow l =>
    obtain ⟨p, vs, e1, hp, eh, r⟩ := r
    exact ⟨p, vs, e1, hp, e2 p _ hp eh, DrAll.mono e l vs r⟩
  | o2 ll =>
    obtain ⟨p, qs, e1, hp, eh, r⟩ := r
    exact ⟨p, qs, e1, hp, e2 p _ hp eh, r.mono e (fun q o z _ y => e2 q o z y) fun _ z _ => z⟩
theorem Rep.odom (r : Rep K H0 h H G σ) : Dom h.O H := fun a z => by
  rcases z with z | ⟨i, z⟩
  · exact r.sub.mono r.same a z
  · exact r.dom i a z
theorem Rep.grow (r : Rep K H0 h H G σ) (e : Same H H') : Rep K H0 h H' G σ :=
  ⟨r.same.trans e, r.sub, r.fresh, fun i a z => let ⟨o, q⟩ := r.dom i a z; ⟨o, e a o q⟩, r.dis, r.len, fun i s q => by
    obtain ⟨ov, e1, z⟩ := r.slot i s q
    exact ⟨ov, e1, z.mono (hide_same e fun a y => .inl y) fun p o _ y => e p o y⟩, fun g m => Dr.mono (hide_same e fun a y => .inl y) _ _ (r.gh g m)⟩
end
/-! ### an own error: its class at C, its own dict, new, with the two numbers -/
def FlawAt (H : Hp) (d : Addr) (k p : Int) : Prop := H d = some (.xd [(("place" : Str), .int p), (("kind" : Str), .int k)])
def FX (C : Addr) (H : Hp) (E : XK) (k p : Int) : Prop := ∀ d H', Same H H' → FlawAt H' d k p → E (.ref C) (some d) H'
theorem FX.grow {C : Addr} {H H1 : Hp} {E : XK} {k p : Int} (f : FX C H E k p) (e : Same H H1) : FX C H1 E k p := fun d H' s => f d H' (e.trans s)
/-! ### expressions -/
def PostE (K : PySem.W.Frag) (C : Addr) (E : XK) (H0 : Hp) (h : Hd) (H : Hp) (Q : VK) : R PV → Prop
  | .ok pv => ∀ v H', Same H H' → PvR K h H H' pv v → Q v H'
  | .ex k p => FX C H0 E k p
  | .bad => False
abbrev CE := Ev → R PV
def Snd (K : PySem.W.Frag) (C : Addr) (E : XK) (te : TE) (c : CE) : Prop := ∀ H0 h G σ H Q, Rep K H0 h H G σ → PostE K C E H0 h H Q (c G) → te σ H Q
structure DE (X : Cx) (C : Addr) (E : XK) (te : TE) (c : CE) (e : Expr) : Prop where
  pe : PE X e te
  snd : Snd X.K C E te c
/-- an answer by values alone -/
def OkP (K : PySem.W.Frag) (h : Hd) (H : Hp) (Q : VK) : R PV → Prop
  | .ok pv => ∀ v H', Same H H' → PvR K h H H' pv v → Q v H'
  | _ => False
section
variable {K : PySem.W.Frag} {C : Addr} {E : XK} {H0 : Hp} {h : Hd} {H H1 : Hp} {Q : VK} {G : Ev} {σ : L2.St}
theorem OkP.st {d : D} {v : V} (q : OkP K h H Q (.ok (.st d))) (r : Dr K (hide h.O H) v d) : Q v H := q v H (Same.refl H) r
theorem OkP.grow {r : R PV} (q : OkP K h H Q r) (e : Same H H1) : OkP K h H1 Q r := by
  cases r with
  | ok pv => exact fun v H' s r => q v H' (e.trans s) (r.back e)
  | ex k p => exact q
  | bad => exact q
theorem PostE.grow {r : R PV} (q : PostE K C E H0 h H Q r) (e : Same H H1) : PostE K C E H0 h H1 Q r := by
  cases r with
  | ok pv => exact fun v H' s r => q v H' (e.trans s) (r.back e)
  | ex k p => exact q
  | bad => exact q
theorem Snd.imp {te : TE} {c : CE} (s : Snd K C E te c) (r : Rep K H0 h H G σ) {f : PV → R PV} (q : PostE K C E H0 h H Q ((c G).bind f))
    {k : V → Hp → Prop} (hk : ∀ pv v H1, Same H H1 → Rep K H0 h H1 G σ → PvR K h H H1 pv v → PostE K C E H0 h H1 Q (f pv) → k v H1) : te σ H k := by
  refine s H0 h G σ H k r ?_
  cases e : c G with
  | ok pv =>
    rw [e] at q
    exact fun v H1 sm rp => hk pv v H1 sm (r.grow sm) rp (PostE.grow q sm)
  | ex a b =>
    rw [e] at q
    exact q
  | bad =>
    rw [e] at q
    exact q
end
/-! names and constants -/
def cVar (i : Nat) : CE := fun G => match G[i]? with
  | some (.sh d) => .ok (.st d)
  | some (.ow l) => .ok (.bo l)
  | some (.o2 ll) => .ok (.b2 ll)
  | _ => .bad
def cLit (d : D) : CE := fun _ => .ok (.st d)
/-- what a module's name stands for -/
def tGlob (mg : Str → Option Value) (x : Str) : TE := fun _ H Q => ∀ u v, mg x = some u → RelV v u → Q v H
structure GlobD (K : PySem.W.Frag) (mg : Str → Option Value) (x : Str) (d : D) : Prop where
  ex : ∃ u v, mg x = some u ∧ RelV v u ∧ ∀ H, Dr K H v d
section
variable {X : Cx} {C : Addr} {E : XK}
theorem de_var (i : Nat) {x : Str} {pos : Pos} (hN : X.N[i]? = some x := by rfl) (hv : Vis X.env.scope x := by first | exact Or.inl rfl | exact Or.inr (Or.inl rfl) | exact Or.inr (Or.inr rfl)) (hd : (x == ("__debug__" : Str)) = false := by decide)
    (hc : (x == ("__classdict__" : Str)) = false := by decide) : DE X C E (tVar i) (cVar i) (.Name x pos) := by
  refine ⟨pe_var hN hv hd hc, fun H0 h G σ H Q r q => ?_⟩
  unfold cVar at q
  cases e : G[i]? with
  | none =>
    rw [e] at q
    exact q.elim
  | some s =>
    obtain ⟨ov, e1, z⟩ := r.slot i s e
    rw [e] at q
    cases s with
    | un => exact q.elim
    | sh d =>
      obtain ⟨v, rfl, z⟩ := z
      exact ⟨v, e1, q v H (Same.refl H) z⟩
    | ow l =>
      obtain ⟨p, vs, rfl, z1, z2, z3⟩ := z
      exact ⟨_, e1, q _ H (Same.refl H) ⟨p, vs, rfl, ⟨i, z1⟩, z2, z3⟩⟩
    | o2 ll =>
      obtain ⟨p, qs, rfl, z1, z2, z3⟩ := z
      exact ⟨_, e1, q _ H (Same.refl H) ⟨p, qs, rfl, ⟨i, z1⟩, z2, z3.mono (Same.refl _) (fun _ _ _ _ y => y) fun _ y _ => ⟨i, y⟩⟩⟩
theorem snd_lit {v : V} {d : D} (k : ∀ H, Dr X.K H v d) : Snd X.K C E (tC v) (cLit d) := fun H0 h G σ H Q r q => q v H (Same.refl H) (k _)
theorem de_int {i : Int} {j pos} : DE X C E (tC (.int i)) (cLit (.int i)) (.Constant (.int i) j pos) := ⟨pe_int, snd_lit fun _ => .int i⟩
theorem de_bl {b j pos} : DE X C E (tC (.bl b)) (cLit (.bl b)) (.Constant (.bool b) j pos) := ⟨pe_bl, snd_lit fun _ => .bl b⟩
theorem de_non {j pos} : DE X C E (tC .non) (cLit .non) (.Constant .none j pos) := ⟨pe_non, snd_lit fun _ => .non⟩
theorem de_str {x j pos} : DE X C E (tC (.str x)) (cLit (.str x)) (.Constant (.str x) j pos) := ⟨pe_str, snd_lit fun _ => .str x⟩
theorem de_glob {x : Str} {d : D} {pos : Pos} (g : GlobD X.K X.mg x d) (hg : Gl X x := by rfl) (hd : (x == ("__debug__" : Str)) = false := by decide) : DE X C E (tGlob X.mg x) (cLit d) (.Name x pos) := by
  obtain ⟨u, v, hm, r, k⟩ := g.ex
  refine ⟨⟨fun pins s σ H Q I q => ld_glob I hg hm ⟨v, H, I, r, q u v hm r⟩ hd⟩, fun H0 h G σ H Q _ q u' v' hm' r' => ?_⟩
  rw [hm] at hm'
  cases hm'
  rw [r'.inj r]
  exact q v H (Same.refl H) (k _)
end
/-! arguments -/
def PostA (K : PySem.W.Frag) (C : Addr) (E : XK) (H0 : Hp) (h : Hd) (H : Hp) (Q : List V → Hp → Prop) : R (List PV) → Prop
  | .ok ps => ∀ vs H', Same H H' → Paired (PvR K h H H') ps vs → Q vs H'
  | .ex k p => FX C H0 E k p
  | .bad => False
abbrev CA := Ev → R (List PV)
def SndA (K : PySem.W.Frag) (C : Addr) (E : XK) (ta : TA) (c : CA) : Prop := ∀ H0 h G σ H Q, Rep K H0 h H G σ → PostA K C E H0 h H Q (c G) → ta σ H Q
structure DA (X : Cx) (C : Addr) (E : XK) (ta : TA) (c : CA) (es : List Expr) : Prop where
  pa : PA X es ta
  snd : SndA X.K C E ta c
def cNil : CA := fun _ => .ok []
def cCons (c : CE) (r : CA) : CA := fun G => (c G).bind fun p => (r G).bind fun ps => .ok (p :: ps)
section
variable {K : PySem.W.Frag} {C : Addr} {E : XK} {H0 : Hp} {h : Hd} {H H1 : Hp} {Q : List V → Hp → Prop} {G : Ev} {σ : L2.St}
theorem Paired.mapR {α β : Type} {F F' : α → β → Prop} (k : ∀ a b, F a b → F' a b) : ∀ {as : List α} {bs : List β}, Paired F as bs → Paired F' as bs
  | _, _, .nil => .nil
  | _, _, .cons r t => .cons (k _ _ r) (Paired.mapR k t)
theorem PostA.grow {r : R (List PV)} (q : PostA K C E H0 h H Q r) (e : Same H H1) : PostA K C E H0 h H1 Q r := by
  cases r with
  | ok pv => exact fun v H' s r => q v H' (e.trans s) (Paired.mapR (fun _ _ z => z.back e) r)
  | ex k p => exact q
  | bad => exact q
theorem sndA_nil : SndA K C E tNil cNil := fun H0 h G σ H Q r q => q [] H (Same.refl H) .nil
theorem sndA_cons {te : TE} {ta : TA} {c : CE} {ca : CA} (a : Snd K C E te c) (b : SndA K C E ta ca) : SndA K C E (tCons te ta) (cCons c ca) := fun H0 h G σ H Q r q => by
  refine a H0 h G σ H _ r ?_
  unfold cCons at q
  cases e : c G with
  | ex x y =>
    rw [e] at q
    exact q
  | bad =>
    rw [e] at q
    exact q
  | ok pv =>
    rw [e] at q
    intro v H1 sm rp
    refine b H0 h G σ H1 _ (r.grow sm) ?_
    cases e2 : ca G with
    | ex x y =>
      rw [e2] at q
      exact q
    | bad =>
      rw [e2] at q
      exact q
    | ok ps =>
      rw [e2] at q
      intro vs H2 sm2 rps
      exact q (v :: vs) H2 (sm.trans sm2) (.cons (rp.grow sm2) (Paired.mapR (fun _ _ z => z.back sm) rps))
end
end BT
/-! Operators, comparisons, subscripts, slices, displays, built-ins: by values. -/
namespace BT
open PySem PySem.Spec PyProof.Rows L2
def lim {α : Type} (n : Nat) (r : R α) : R α := if n ≤ 16777216 then r else .bad
theorem lim_ok {α : Type} {n : Nat} {r : R α} (h : n ≤ 16777216) : lim n r = r := if_pos h
theorem line_eq : sizeLine = 16777216 := by decide
/-! ### two-place operations -/
def Op2 (K : PySem.W.Frag) (r : R2) (g : PV → PV → R PV) : Prop := ∀ h Hb Hc H Q x y px py, Dom h.O H → PvR K h Hb H px x → PvR K h Hc H py y → OkP K h H Q (g px py) → r x y H Q
def cOp2 (g : PV → PV → R PV) (a b : CE) : CE := fun G => (a G).bind fun p => (b G).bind fun q => g p q
section
variable {K : PySem.W.Frag} {C : Addr} {E : XK}
theorem ok_post {H0 : Hp} {h : Hd} {H : Hp} {Q : VK} {r : R PV} (q : PostE K C E H0 h H Q r) (n : ∀ k p, r ≠ .ex k p) : OkP K h H Q r := by
  cases r with
  | ok pv => exact q
  | ex k p => exact absurd rfl (n k p)
  | bad => exact q
/-- an operation never gives the program's own error -/
def NoEx {α : Type} (r : R α) : Prop := ∀ k p, r ≠ .ex k p
theorem noex_ok {α : Type} {a : α} : NoEx (R.ok a) := fun _ _ z => by cases z
theorem noex_bad {α : Type} : NoEx (R.bad : R α) := fun _ _ z => by cases z
theorem noex_lim {α : Type} {n : Nat} {r : R α} (h : NoEx r) : NoEx (lim n r) := by
  unfold lim
  split
  · exact h
  · exact noex_bad
theorem snd_op2 {r : R2} {g : PV → PV → R PV} {ta tb : TE} {ca cb : CE} (o : Op2 K r g) (n : ∀ p q, NoEx (g p q)) (a : Snd K C E ta ca) (b : Snd K C E tb cb) : Snd K C E (tOp r ta tb) (cOp2 g ca cb) := fun H0 h G σ H Q rp q => by
  refine a.imp rp q fun pv v H1 s1 rp1 r1 q1 => ?_
  refine b.imp rp1 q1 fun pw w H2 s2 rp2 r2 q2 => ?_
  exact o h H H1 H2 Q v w pv pw rp2.odom (r1.grow s2) r2 (ok_post q2 (n pv pw))
end
section
variable {X : Cx} {C : Addr} {E : XK} {a b : Expr} {ta tb : TE} {ca cb : CE} {pos : Pos}
theorem de_op {op : Operator} {r : R2} {g : PV → PV → R PV} (ho : OpR X (binaryOp op) r) (o : Op2 X.K r g) (n : ∀ p q, NoEx (g p q)) (ha : DE X C E ta ca a) (hb : DE X C E tb cb b) : DE X C E (tOp r ta tb) (cOp2 g ca cb) (.BinOp a op b pos) :=
  ⟨pe_op ho ha.pe hb.pe, snd_op2 o n ha.snd hb.snd⟩
theorem de_cmp {op : CmpOp} {r : R2} {g : PV → PV → R PV} (ho : OpR X (compareOp op) r) (hm : behindInMarks op b = false) (o : Op2 X.K r g) (n : ∀ p q, NoEx (g p q)) (ha : DE X C E ta ca a) (hb : DE X C E tb cb b) : DE X C E (tOp r ta tb) (cOp2 g ca cb) (.Compare a [op] [b] pos) :=
  ⟨pe_cmpR ho ha.pe hb.pe hm, snd_op2 o n ha.snd hb.snd⟩
theorem de_ix {r : R2} {g : PV → PV → R PV} (hr : IxR X r) (hs : PlainIx b) (o : Op2 X.K r g) (n : ∀ p q, NoEx (g p q)) (ha : DE X C E ta ca a) (hb : DE X C E tb cb b) : DE X C E (tOp r ta tb) (cOp2 g ca cb) (.Subscript a b pos) :=
  ⟨pe_ix hr ha.pe hb.pe hs, snd_op2 o n ha.snd hb.snd⟩
end
/-! values at hand, by their data -/
section
variable {K : PySem.W.Frag} {h : Hd} {Hb H : Hp} {px : PV} {x : V}
theorem lk_d {d : D} (e : px.d = d) (n : d ≠ .opq) : px.lk = d := by
  cases px with
  | b2 ll =>
    cases e
    exact absurd rfl n
  | _ => exact e
theorem PvR.int {i : Int} (r : PvR K h Hb H px x) (e : px.d = .int i) : x = .int i := by
  have z := r.look
  rw [lk_d e (by intro y; cases y)] at z
  cases z
  rfl
theorem PvR.str {s : Str} (r : PvR K h Hb H px x) (e : px.d = .str s) : x = .str s := by
  have z := r.look
  rw [lk_d e (by intro y; cases y)] at z
  cases z
  rfl
theorem PvR.bl {s : Bool} (r : PvR K h Hb H px x) (e : px.d = .bl s) : x = .bl s := by
  have z := r.look
  rw [lk_d e (by intro y; cases y)] at z
  cases z
  rfl
theorem lstOf_of {l : List D} (e : px.d = .lst l) : px.lstOf = some l := by
  cases px with
  | st d =>
    cases d with
    | lst m =>
      cases e
      rfl
    | _ => cases e
  | bo m =>
    cases e
    rfl
  | fr m =>
    cases e
    rfl
  | b2 m => cases e
theorem st_of_tup {l : List D} (e : px.d = .tup l) : px = .st (.tup l) := by
  cases px with
  | st d =>
    cases e
    rfl
  | bo m => cases e
  | fr m => cases e
  | b2 m => cases e
theorem PvR.tup {l : List D} (r : PvR K h Hb H px x) (e : px.d = .tup l) : ∃ a vs, x = .ref a ∧ SqT K H a vs ∧ DrAll K (hide h.O H) vs l ∧ Dr K (hide h.O H) x (.tup l) := by
  rw [st_of_tup e] at r
  have r' : Dr K (hide h.O H) x (.tup l) := r
  cases r with
  | tup hs ha => exact ⟨_, _, rfl, same_seqT hide_le hs, ha, r'⟩
end
/-! ### a + b -/
def addD : D → D → R PV
  | .int i, .int j => .ok (.st (.int (i + j)))
  | .str a, .str b => lim (a.length + b.length) (.ok (.st (.str (a ++ b))))
  | .lst a, .lst b => lim (a.length + b.length) (.ok (.fr (a ++ b)))
  | .tup a, .tup b => lim (a.length + b.length) (.ok (.st (.tup (a ++ b))))
  | _, _ => .bad
def vAdd (p q : PV) : R PV := addD p.d q.d
def rAdd (K : PySem.W.Frag) : R2 := fun x y H Q => rI0 (fun i j => .int (i + j)) x y H Q ∨ (∃ i j, x = .str i ∧ y = .str j ∧ i.length + j.length ≤ sizeLine ∧ Q (.str (i ++ j)) H) ∨ rCat x y H Q ∨ rCatA K x y H Q
theorem op_addA {X : Cx} : OpR X (binaryOp .Add) (rAdd X.K) := op_add.or (op_add_str.or (op_cat.or op_catA))
theorem noex_add (p q : PV) : NoEx (vAdd p q) := by
  unfold vAdd addD
  split <;> first | exact noex_ok | exact noex_bad | exact noex_lim noex_ok
theorem okp_lim {K : PySem.W.Frag} {h : Hd} {H : Hp} {Q : VK} {n : Nat} {r : R PV} (q : OkP K h H Q (lim n r)) : n ≤ 16777216 ∧ OkP K h H Q r := by
  unfold lim at q
  split at q
  · exact ⟨by assumption, q⟩
  · exact q.elim
theorem o_add {K : PySem.W.Frag} : Op2 K (rAdd K) vAdd := by
  intro h Hb Hc H Q x y px py dm r1 r2 q
  unfold vAdd at q
  unfold addD at q
  split at q
  · rename_i i j e1 e2
    exact .inl ⟨i, j, r1.int e1, r2.int e2, q.st (.int _)⟩
  · rename_i a b e1 e2
    obtain ⟨z, q⟩ := okp_lim q
    exact .inr (.inl ⟨a, b, r1.str e1, r2.str e2, by rw [line_eq]; exact z, q.st (.str _)⟩)
  · rename_i a b e1 e2
    obtain ⟨z, q⟩ := okp_lim q
    obtain ⟨p1, v1, rfl, h1, d1⟩ := r1.lst (lstOf_of e1)
    obtain ⟨p2, v2, rfl, h2, d2⟩ := r2.lst (lstOf_of e2)
    refine .inr (.inr (.inl ⟨p1, p2, v1, v2, rfl, rfl, h1, h2, by rw [line_eq, d1.len, d2.len]; exact z, fun p n => ?_⟩))
    exact q _ _ (same_upd n) (.new dm n (d1.app d2))
  · rename_i a b e1 e2
    obtain ⟨z, q⟩ := okp_lim q
    obtain ⟨p1, v1, rfl, h1, d1, t1⟩ := r1.tup e1
    obtain ⟨p2, v2, rfl, h2, d2, t2⟩ := r2.tup e2
    refine .inr (.inr (.inr ⟨p1, p2, v1, v2, rfl, rfl, h1, h2, by rw [line_eq, d1.len, d2.len]; exact z, fun e => ?_, fun _ e => ?_, fun _ _ p n => ?_⟩))
    · subst e
      cases d1
      exact q.st t2
    · subst e
      cases d2
      rw [List.append_nil] at q
      exact q.st t1
    · exact q _ _ (same_upd n) (.newT dm n (d1.app d2))
  · exact q.elim
/-! ### whole numbers -/
def intOp (g : Int → Int → R PV) (p q : PV) : R PV := match p.d, q.d with
  | .int i, .int j => g i j
  | _, _ => .bad
theorem noex_int {g : Int → Int → R PV} (n : ∀ i j, NoEx (g i j)) (p q : PV) : NoEx (intOp g p q) := by
  unfold intOp
  split
  · exact n _ _
  · exact noex_bad
theorem o_int0 {K : PySem.W.Frag} {f : Int → Int → V} {g : Int → Int → D} (k : ∀ H i j, Dr K H (f i j) (g i j)) : Op2 K (rI0 f) (intOp fun i j => .ok (.st (g i j))) := by
  intro h Hb Hc H Q x y px py dm r1 r2 q
  unfold intOp at q
  split at q
  · rename_i i j e1 e2
    exact ⟨i, j, r1.int e1, r2.int e2, q.st (k _ _ _)⟩
  · exact q.elim
theorem o_intC {K : PySem.W.Frag} {c : Int → Int → Prop} [∀ i j, Decidable (c i j)] {f : Int → Int → V} {g : Int → Int → D} (k : ∀ H i j, Dr K H (f i j) (g i j)) : Op2 K (rI c f) (intOp fun i j => if c i j then .ok (.st (g i j)) else .bad) := by
  intro h Hb Hc H Q x y px py dm r1 r2 q
  unfold intOp at q
  split at q
  · rename_i i j e1 e2
    dsimp only at q
    by_cases z : c i j
    · rw [if_pos z] at q
      exact ⟨i, j, r1.int e1, r2.int e2, z, q.st (k _ _ _)⟩
    · rw [if_neg z] at q
      exact q.elim
  · exact q.elim
abbrev vInt (g : Int → Int → Int) : PV → PV → R PV := intOp fun i j => .ok (.st (.int (g i j)))
abbrev vCmp (g : Int → Int → Bool) : PV → PV → R PV := intOp fun i j => .ok (.st (.bl (g i j)))
abbrev vSub := vInt fun i j => i - j
abbrev vMod : PV → PV → R PV := intOp fun i j => if 0 < j then .ok (.st (.int (i % j))) else .bad
instance : ∀ i j, Decidable (CDiv i j) := fun i j => inferInstanceAs (Decidable (0 < j ∧ j < 1073741824))
abbrev vDiv : PV → PV → R PV := intOp fun i j => if CDiv i j then .ok (.st (.int (i / j))) else .bad
theorem noex_ite {α : Type} {c : Prop} [Decidable c] {r : R α} (h : NoEx r) : NoEx (if c then r else .bad) := by
  split
  · exact h
  · exact noex_bad
instance : ∀ i j, Decidable (CMul i j) := fun i j => inferInstanceAs (Decidable ((-(2 ^ 64) < i ∧ i < 2 ^ 64) ∨ (-(2 ^ 64) < j ∧ j < 2 ^ 64)))
/-- a * b: whole numbers; a list so many times -/
def vMul (p q : PV) : R PV := match p.d, q.d with
  | .int i, .int j => if CMul i j then .ok (.st (.int (i * j))) else .bad
  | .lst l, .int k => if 0 ≤ k ∧ k ≤ 1000000 ∧ l.length * k.toNat ≤ 16777216 then .ok (.fr (List.replicate k.toNat l).flatten) else .bad
  | _, _ => .bad
def rMul : R2 := fun x y H Q => rI CMul (fun i j => .int (i * j)) x y H Q ∨ rRep x y H Q
theorem op_mulA {X : Cx} : OpR X (binaryOp .Mult) rMul := op_mul.or op_rep
theorem noex_mul (p q : PV) : NoEx (vMul p q) := by
  unfold vMul
  split <;> first | exact noex_ite noex_ok | exact noex_bad
theorem DrAll.rep {K : PySem.W.Frag} {H : Hp} {vs : List V} {l : List D} (r : DrAll K H vs l) : ∀ k : Nat, DrAll K H (List.replicate k vs).flatten (List.replicate k l).flatten
  | 0 => .nil
  | k + 1 => by
    rw [List.replicate_succ, List.replicate_succ, List.flatten_cons, List.flatten_cons]
    exact r.app (DrAll.rep r k)
theorem o_mul {K : PySem.W.Frag} : Op2 K rMul vMul := by
  intro h Hb Hc H Q x y px py dm r1 r2 q
  unfold vMul at q
  split at q
  · rename_i i j e1 e2
    by_cases z : CMul i j
    · rw [if_pos z] at q
      exact .inl ⟨i, j, r1.int e1, r2.int e2, z, q.st (.int _)⟩
    · rw [if_neg z] at q
      exact q.elim
  · rename_i l k e1 e2
    by_cases z : 0 ≤ k ∧ k ≤ 1000000 ∧ l.length * k.toNat ≤ 16777216
    · rw [if_pos z] at q
      obtain ⟨p1, v1, rfl, h1, d1⟩ := r1.lst (lstOf_of e1)
      refine .inr ⟨p1, k, v1, rfl, r2.int e2, h1, by omega, by omega, by rw [line_eq, d1.len]; exact z.2.2, fun p n => ?_⟩
      exact q _ _ (same_upd n) (.new dm n (d1.rep _))
    · rw [if_neg z] at q
      exact q.elim
  · exact q.elim
/-! ### ==, != of any data; is None -/
def eqD (x y : D) : R Bool := if (SeqAt.shaped x.py && SeqAt.shaped y.py) = true then .ok (PyData.eqv x.py y.py) else .bad
def vEq (p q : PV) : R PV := (eqD p.lk q.lk).bind fun b => .ok (.st (.bl b))
def vNe (p q : PV) : R PV := (eqD p.lk q.lk).bind fun b => .ok (.st (.bl (!b)))
theorem noex_bind {α β : Type} {r : R α} {f : α → R β} (h : NoEx r) (k : ∀ a, NoEx (f a)) : NoEx (r.bind f) := by
  cases r with
  | ok a => exact k a
  | ex x y => exact absurd rfl (h x y)
  | bad => exact noex_bad
theorem noex_eq (p q : PV) : NoEx (vEq p q) := noex_bind (noex_ite noex_ok) fun _ => noex_ok
theorem noex_ne (p q : PV) : NoEx (vNe p q) := noex_bind (noex_ite noex_ok) fun _ => noex_ok
theorem o_eq {K : PySem.W.Frag} : Op2 K (rEqD K) vEq := by
  intro h Hb Hc H Q x y px py dm r1 r2 q
  unfold vEq eqD at q
  by_cases z : (SeqAt.shaped px.lk.py && SeqAt.shaped py.lk.py) = true
  · rw [if_pos z] at q
    obtain ⟨z1, z2⟩ := Bool.and_eq_true_iff.mp z
    exact ⟨_, _, Dr.dp _ _ r1.look, Dr.dp _ _ r2.look, z1, z2, q.st (.bl _)⟩
  · rw [if_neg z] at q
    exact q.elim
theorem o_ne {K : PySem.W.Frag} : Op2 K (rNeD K) vNe := by
  intro h Hb Hc H Q x y px py dm r1 r2 q
  unfold vNe eqD at q
  by_cases z : (SeqAt.shaped px.lk.py && SeqAt.shaped py.lk.py) = true
  · rw [if_pos z] at q
    obtain ⟨z1, z2⟩ := Bool.and_eq_true_iff.mp z
    exact ⟨_, _, Dr.dp _ _ r1.look, Dr.dp _ _ r2.look, z1, z2, q.st (.bl _)⟩
  · rw [if_neg z] at q
    exact q.elim
def D.isNon : D → Bool
  | .non => true
  | _ => false
def vIsN (p q : PV) : R PV := match q.d with
  | .non => .ok (.st (.bl p.lk.isNon))
  | _ => .bad
theorem noex_isN (p q : PV) : NoEx (vIsN p q) := by
  unfold vIsN
  split
  · exact noex_ok
  · exact noex_bad
theorem o_isN {K : PySem.W.Frag} : Op2 K (fun x y H Q => y = .non ∧ Q (.bl (decide (x = .non))) H) vIsN := by
  intro h Hb Hc H Q x y px py dm r1 r2 q
  unfold vIsN at q
  split at q
  · rename_i e
    have z := r2.look
    rw [lk_d e (by intro y; cases y)] at z
    cases z
    refine ⟨rfl, ?_⟩
    have z1 := r1.look
    have ek : decide (x = V.non) = px.lk.isNon := by
      generalize px.lk = dx at z1
      cases z1 <;> rfl
    rw [ek]
    exact q.st (.bl _)
  · exact q.elim
/-! ### x in a sequence -/
def D.flat : D → Bool
  | .non => true
  | .bl _ => true
  | .int _ => true
  | .str _ => true
  | _ => false
def memD (x : D) (l : List D) : Bool := l.any fun z => PyData.eqv z.py x.py
def inD (x : D) (q : PV) : R Bool := match q.items with
  | some l => if (x.flat && l.all D.flat) = true then .ok (memD x l) else if (q.lstOf.isSome && (SeqAt.shaped x.py && SeqAt.shaped (.list (D.pys l)))) = true then .ok (memD x l) else .bad
  | none => .bad
def vIn (p q : PV) : R PV := (inD p.lk q).bind fun b => .ok (.st (.bl b))
def vNotIn (p q : PV) : R PV := (inD p.lk q).bind fun b => .ok (.st (.bl (!b)))
theorem noex_inD (x : D) (q : PV) : NoEx (inD x q) := by
  unfold inD
  split
  · split
    · exact noex_ok
    · exact noex_ite noex_ok
  · exact noex_bad
theorem noex_in (p q : PV) : NoEx (vIn p q) := noex_bind (noex_inD _ _) fun _ => noex_ok
theorem noex_notIn (p q : PV) : NoEx (vNotIn p q) := noex_bind (noex_inD _ _) fun _ => noex_ok
section
variable {K : PySem.W.Frag} {H : Hp}
theorem flat_v {x : V} {d : D} (r : Dr K H x d) (f : d.flat = true) : flatV x = true := by
  cases r <;> first | rfl | (simp [D.flat] at f)
theorem flat_vs : ∀ {vs : List V} {l : List D}, DrAll K H vs l → l.all D.flat = true → vs.all flatV = true
  | _, _, .nil, _ => rfl
  | _, _, .cons r t, f => by
    rw [List.all_cons, Bool.and_eq_true] at f ⊢
    exact ⟨flat_v r f.1, flat_vs t f.2⟩
theorem eqv_v {x z : V} {d e : D} (r : Dr K H x d) (r2 : Dr K H z e) (f : d.flat = true) (f2 : e.flat = true) : eqV z x = PyData.eqv e.py d.py := by
  cases r <;> cases r2 <;> simp_all [D.flat, eqV, D.py, PyData.eqv]
theorem mem_v {x : V} {d : D} (r : Dr K H x d) (f : d.flat = true) : ∀ {vs : List V} {l : List D}, DrAll K H vs l → l.all D.flat = true → inV x vs = memD d l
  | _, _, .nil, _ => rfl
  | _, _, .cons r2 t, f2 => by
    rw [List.all_cons, Bool.and_eq_true] at f2
    have ih := mem_v r f t f2.2
    unfold inV memD at ih ⊢
    rw [List.any_cons, List.any_cons, ih, eqv_v r r2 f f2.1]
theorem pys_any (x : D) : ∀ l : List D, (D.pys l).any (fun z => PyData.eqv z x.py) = memD x l
  | [] => rfl
  | d :: r => by
    show (PyData.eqv d.py x.py || (D.pys r).any fun z => PyData.eqv z x.py) = _
    rw [pys_any x r]
    rfl
end
def rInA (K : PySem.W.Frag) : R2 := fun x y H Q => rIn K false x y H Q ∨ rInD K x y H Q
def rNotInA (K : PySem.W.Frag) : R2 := fun x y H Q => rIn K true x y H Q ∨ rNotInD K x y H Q
theorem op_inA {X : Cx} (hu : X.A.units + 65 < cLine) : OpR X (compareOp .In) (rInA X.K) := op_in_seq.or (op_inD hu)
theorem op_notInA {X : Cx} (hu : X.A.units + 65 < cLine) : OpR X (compareOp .NotIn) (rNotInA X.K) := op_notIn_seq.or (op_notInD hu)
theorem o_in_core {K : PySem.W.Frag} {h : Hd} {Hb Hc H : Hp} {x y : V} {px py : PV} {b : Bool} (r1 : PvR K h Hb H px x) (r2 : PvR K h Hc H py y) (q : inD px.lk py = .ok b) :
    (∃ p xs, y = .ref p ∧ (SqL K H p xs ∨ SqT K H p xs) ∧ flatV x = true ∧ xs.all flatV = true ∧ inV x xs = b) ∨
    (∃ d ds, Dp K H x d ∧ Dp K H y (.list ds) ∧ SeqAt.shaped d = true ∧ SeqAt.shaped (.list ds) = true ∧ (ds.any fun z => PyData.eqv z d) = b) := by
  unfold inD at q
  split at q
  · rename_i l e
    obtain ⟨p, vs, rfl, hs, da⟩ := r2.seq e
    by_cases z : (px.lk.flat && l.all D.flat) = true
    · rw [if_pos z] at q
      cases q
      obtain ⟨z1, z2⟩ := Bool.and_eq_true_iff.mp z
      have da' := DrAll.mono hide_le _ _ da
      exact .inl ⟨p, vs, rfl, hs, flat_v r1.look z1, flat_vs da' z2, mem_v r1.look z1 da' z2⟩
    · rw [if_neg z] at q
      by_cases z2 : (py.lstOf.isSome && (SeqAt.shaped px.lk.py && SeqAt.shaped (.list (D.pys l)))) = true
      · rw [if_pos z2] at q
        cases q
        obtain ⟨y1, y2⟩ := Bool.and_eq_true_iff.mp z2
        obtain ⟨y2', y3⟩ := Bool.and_eq_true_iff.mp y2
        obtain ⟨m, em⟩ := Option.isSome_iff_exists.mp y1
        have eml : m = l := by
          cases py with
          | st d => cases d <;> first | (cases em; cases e; rfl) | cases em
          | bo k => cases em; cases e; rfl
          | fr k => cases em; cases e; rfl
          | b2 k => cases em
        subst eml
        obtain ⟨p2, ws, e2, hh, db⟩ := r2.lst em
        have dl : Dr K H (.ref p) (.lst m) := by
          rw [e2]
          exact .lst hh (DrAll.mono hide_le _ _ db)
        exact .inr ⟨_, D.pys m, Dr.dp _ _ r1.look, Dr.dp _ _ dl, y2', y3, pys_any _ _⟩
      · rw [if_neg z2] at q
        cases q
  · cases q
theorem okp_bind {K : PySem.W.Frag} {h : Hd} {H : Hp} {Q : VK} {α : Type} {r : R α} {f : α → R PV} (q : OkP K h H Q (r.bind f)) : ∃ a, r = .ok a ∧ OkP K h H Q (f a) := by
  cases r with
  | ok a => exact ⟨a, rfl, q⟩
  | ex k p => exact q.elim
  | bad => exact q.elim
theorem o_in {K : PySem.W.Frag} : Op2 K (rInA K) vIn := by
  intro h Hb Hc H Q x y px py dm r1 r2 q
  obtain ⟨b, e, q⟩ := okp_bind q
  rcases o_in_core r1 r2 e with ⟨p, xs, e1, e2, e3, e4, e5⟩ | ⟨d, ds, e1, e2, e3, e4, e5⟩
  · exact .inl ⟨p, xs, e1, e2, e3, e4, by rw [if_neg Bool.false_ne_true, e5]; exact q.st (.bl _)⟩
  · exact .inr ⟨d, ds, e1, e2, e3, e4, by rw [e5]; exact q.st (.bl _)⟩
theorem o_notIn {K : PySem.W.Frag} : Op2 K (rNotInA K) vNotIn := by
  intro h Hb Hc H Q x y px py dm r1 r2 q
  obtain ⟨b, e, q⟩ := okp_bind q
  rcases o_in_core r1 r2 e with ⟨p, xs, e1, e2, e3, e4, e5⟩ | ⟨d, ds, e1, e2, e3, e4, e5⟩
  · exact .inl ⟨p, xs, e1, e2, e3, e4, by rw [if_pos rfl, e5]; exact q.st (.bl _)⟩
  · exact .inr ⟨d, ds, e1, e2, e3, e4, by rw [e5]; exact q.st (.bl _)⟩
end BT
/-! Subscripts, slices, displays, built-ins, tests, calls. -/
namespace BT
open PySem PySem.Spec PyProof.Rows L2
/-! ### a[i] -/
def idxN (p q : PV) : R PV := match q.d with
  | .int i => (match p.items with
    | some l => (match atI l i with
      | some d => .ok (.st d)
      | none => .bad)
    | none => (match p.d with
      | .str s => if s.length ≤ 16777216 then (match atI s.cps.toList i with
        | some c => .ok (.st (.str ⟨#[c]⟩))
        | none => .bad) else .bad
      | _ => .bad))
  | _ => .bad
def idxD (p q : PV) : R PV := match p with
  | .b2 ll => (match q.d with
    | .int i => (match atI ll i with
      | some l => .ok (.bo l)
      | none => .bad)
    | _ => .bad)
  | p => idxN p q
@[simp] theorem idxD_st (d : D) (q : PV) : idxD (.st d) q = idxN (.st d) q := rfl
@[simp] theorem idxD_bo (l : List D) (q : PV) : idxD (.bo l) q = idxN (.bo l) q := rfl
@[simp] theorem idxD_fr (l : List D) (q : PV) : idxD (.fr l) q = idxN (.fr l) q := rfl
theorem noex_idxN (p q : PV) : NoEx (idxN p q) := by
  unfold idxN
  repeat' split
  all_goals first | exact noex_ok | exact noex_bad
theorem noex_idx (p q : PV) : NoEx (idxD p q) := by
  unfold idxD
  repeat' split
  all_goals first | exact noex_ok | exact noex_bad | exact noex_idxN _ _
theorem o_idxN {K : PySem.W.Frag} : Op2 K (rIx K) idxN := by
  intro h Hb Hc H Q x y px py dm r1 r2 q
  unfold idxN at q
  split at q
  · rename_i i e2
    have ey := r2.int e2
    split at q
    · rename_i l el
      split at q
      · rename_i d ed
        obtain ⟨p, vs, rfl, hs, da⟩ := r1.seq el
        have hv : ∃ v, atI vs i = some v ∧ Dr K (hide h.O H) v d := by
          unfold atI at ed ⊢
          rw [da.len]
          cases ej : ixN l.length i with
          | none =>
            rw [ej] at ed
            cases ed
          | some j =>
            rw [ej] at ed
            exact da.get ed
        obtain ⟨v, e3, rv⟩ := hv
        rcases hs with hs | hs
        · exact .inl ⟨p, vs, i, v, rfl, ey, hs, e3, q.st rv⟩
        · exact .inr (.inl ⟨p, vs, i, v, rfl, ey, hs, e3, q.st rv⟩)
      · exact q.elim
    · split at q
      · rename_i s es
        split at q
        · rename_i hz
          split at q
          · rename_i c ec
            exact .inr (.inr ⟨s, i, c, r1.str es, ey, by rw [line_eq]; exact hz, ec, q.st (.str _)⟩)
          · exact q.elim
        · exact q.elim
      · exact q.elim
  · exact q.elim
theorem o_idx {K : PySem.W.Frag} : Op2 K (rIx K) idxD := by
  intro h Hb Hc H Q x y px py dm r1 r2 q
  unfold idxD at q
  split at q
  · rename_i ll
    split at q
    · rename_i i e2
      split at q
      · rename_i l el
        obtain ⟨p, qs, rfl, hb, hp, ns⟩ := r1
        have hv : ∃ a vs, atI (qs.map V.ref) i = some (.ref a) ∧ h.B a ∧ H a = some (.lst vs) ∧ DrAll K (hide h.O H) vs l := by
          unfold atI at el ⊢
          rw [List.length_map, ns.len]
          cases ej : ixN ll.length i with
          | none =>
            rw [ej] at el
            cases el
          | some j =>
            rw [ej] at el
            obtain ⟨a, vs, f1, f2, f3, f4, f5⟩ := ns.get el
            exact ⟨a, vs, by show (qs.map V.ref)[j]? = _; rw [List.getElem?_map, f1]; rfl, f2, f4, f5⟩
        obtain ⟨a, vs, f1, f2, f3, f4⟩ := hv
        exact .inl ⟨p, _, i, _, rfl, r2.int e2, .of hp, f1, q _ H (Same.refl H) ⟨a, vs, rfl, f2, f3, f4⟩⟩
      · exact q.elim
    · exact q.elim
  · exact o_idxN h Hb Hc H Q x y _ py dm r1 r2 q
/-! ### a[lo:hi] -/
def cutD {α : Type} (l : List α) (lo hi : Option Int) : List α := (l.drop (HT.sIx l.length 0 lo)).take (HT.sIx l.length l.length hi - HT.sIx l.length 0 lo)
/-- a part of a slice -/
abbrev CO := Ev → R (Option Int)
def PostO (K : PySem.W.Frag) (C : Addr) (E : XK) (H0 : Hp) (h : Hd) (H : Hp) (Q : Option Int → Hp → Prop) : R (Option Int) → Prop
  | .ok o => ∀ H', Same H H' → Q o H'
  | .ex k p => FX C H0 E k p
  | .bad => False
def SndO (K : PySem.W.Frag) (C : Addr) (E : XK) (to : TO) (c : CO) : Prop := ∀ H0 h G σ H Q, Rep K H0 h H G σ → PostO K C E H0 h H Q (c G) → to σ H Q
structure DO (X : Cx) (C : Addr) (E : XK) (to : TO) (c : CO) (e : Option Expr) : Prop where
  po : PO X e to
  snd : SndO X.K C E to c
def cNoPart : CO := fun _ => .ok none
def intOf (p : PV) : R (Option Int) := match p.d with
  | .int i => .ok (some i)
  | _ => .bad
def cPart (c : CE) : CO := fun G => (c G).bind intOf
def cSl (g : PV → Option Int → Option Int → R PV) (c : CE) (lo hi : CO) : CE := fun G => (c G).bind fun p => (lo G).bind fun l => (hi G).bind fun u => g p l u
/-- list or tuple -/
def vCut (p : PV) (lo hi : Option Int) : R PV := match p.d with
  | .tup l => .ok (.st (.tup (cutD l lo hi)))
  | _ => (match p.litems with
    | some l => .ok (.fr (cutD l lo hi))
    | none => .bad)
section
variable {X : Cx} {C : Addr} {E : XK}
theorem do_none : DO X C E tNoPart cNoPart none := ⟨po_none, fun H0 h G σ H Q r q => q H (Same.refl H)⟩
theorem do_some {te : TE} {c : CE} {e : Expr} (a : DE X C E te c e) : DO X C E (tPart te) (cPart c) (some e) := by
  refine ⟨po_some a.pe, fun H0 h G σ H Q r q => ?_⟩
  refine a.snd H0 h G σ H _ r ?_
  unfold cPart at q
  cases e1 : c G with
  | ok pv =>
    rw [e1] at q
    intro v H1 s rp
    have q2 : PostO X.K C E H0 h H Q (intOf pv) := q
    unfold intOf at q2
    split at q2
    · rename_i i ei
      exact ⟨i, rp.int ei, q2 H1 s⟩
    · exact q2.elim
  | ex k p =>
    rw [e1] at q
    exact q
  | bad =>
    rw [e1] at q
    exact q
def rSlAll (K : PySem.W.Frag) : V → Option Int → Option Int → Hp → VK → Prop := fun x lo hi H Q => rSlL K x lo hi H Q ∨ rSlA K x lo hi H Q
theorem sl_all : SlR X (rSlAll X.K) := sl_list.or sl_tupA
theorem DrAll.cut {K : PySem.W.Frag} {H : Hp} {vs : List V} {l : List D} (r : DrAll K H vs l) (lo hi : Option Int) : DrAll K H (cutV vs lo hi) (cutD l lo hi) := by
  unfold cutV cutD
  rw [r.len]
  exact (r.drop _).take _
theorem PostO.grow {K : PySem.W.Frag} {H0 H H1 : Hp} {h : Hd} {Q : Option Int → Hp → Prop} {r : R (Option Int)} (q : PostO K C E H0 h H Q r) (e : Same H H1) : PostO K C E H0 h H1 Q r := by
  cases r with
  | ok pv => exact fun H' s => q H' (e.trans s)
  | ex k p => exact q
  | bad => exact q
theorem noex_cut (p : PV) (lo hi : Option Int) : NoEx (vCut p lo hi) := by
  unfold vCut
  repeat' split
  all_goals first | exact noex_ok | exact noex_bad
theorem cut_whole {α : Type} {l : List α} {lo hi : Option Int} (w : HT.sIx l.length 0 lo = 0 ∧ HT.sIx l.length l.length hi = l.length) : cutD l lo hi = l := by
  unfold cutD
  rw [w.1, w.2]
  simp
theorem SndO.imp {K : PySem.W.Frag} {H0 H : Hp} {h : Hd} {G : Ev} {σ : L2.St} {Q : VK} {to : TO} {c : CO} (s : SndO K C E to c) (r : Rep K H0 h H G σ) {f : Option Int → R PV} (q : PostE K C E H0 h H Q ((c G).bind f)) {k : Option Int → Hp → Prop}
    (hk : ∀ o H1, Same H H1 → Rep K H0 h H1 G σ → PostE K C E H0 h H1 Q (f o) → k o H1) : to σ H k := by
  refine s H0 h G σ H k r ?_
  cases e : c G with
  | ok o =>
    rw [e] at q
    exact fun H1 sm => hk o H1 sm (r.grow sm) (PostE.grow q sm)
  | ex a b =>
    rw [e] at q
    exact q
  | bad =>
    rw [e] at q
    exact q
theorem de_slice {te : TE} {tl th : TO} {c : CE} {cl cu : CO} {e : Expr} {lo hi : Option Expr} {p2 pos : Pos} (a : DE X C E te c e) (l : DO X C E tl cl lo) (u : DO X C E th cu hi) : DE X C E (tSl (rSlAll X.K) te tl th) (cSl vCut c cl cu) (.Subscript e (.Slice lo hi none p2) pos) := by
  refine ⟨pe_slice sl_all a.pe l.po u.po, fun H0 h G σ H Q r q => ?_⟩
  refine a.snd.imp r q fun pv v H1 s1 rp1 r1 q1 => ?_
  refine l.snd.imp rp1 q1 fun lo H2 s2 rp2 q2 => ?_
  refine u.snd.imp rp2 q2 fun hi H3 s3 rp3 q3 => ?_
  have r3 := (r1.grow s2).grow s3
  have dm := rp3.odom
  have q4 := ok_post q3 (noex_cut pv lo hi)
  unfold vCut at q4
  split at q4
  · rename_i m em
    obtain ⟨a, vs, rfl, hs, da, rt⟩ := r3.tup em
    refine .inr ⟨a, vs, rfl, hs, fun w => ?_, fun w p n => ?_⟩
    · rw [da.len] at w
      rw [cut_whole w] at q4
      exact q4.st rt
    · exact q4 _ _ (same_upd n) (.newT dm n (da.cut lo hi))
  · split at q4
    · rename_i m em
      obtain ⟨p, vs, rfl, hl, da⟩ := r3.seqL em
      exact .inl ⟨p, vs, rfl, hl, fun p n => q4 _ _ (same_upd n) (.new dm n (da.cut lo hi))⟩
    · exact q4.elim
end
end BT
/-! Displays, built-ins, tests, calls. -/
namespace BT
open PySem PySem.Spec PyProof.Rows L2
def toDs : List PV → R (List D)
  | [] => .ok []
  | p :: r => p.toD.bind fun d => (toDs r).bind fun ds => .ok (d :: ds)
@[simp] theorem toDs_nil : toDs [] = .ok [] := rfl
@[simp] theorem toDs_cons (p : PV) (r : List PV) : toDs (p :: r) = p.toD.bind fun d => (toDs r).bind fun ds => .ok (d :: ds) := rfl
@[simp] theorem toD_st (d : D) : (PV.st d).toD = .ok d := rfl
@[simp] theorem toD_fr (l : List D) : (PV.fr l).toD = .ok (.lst l) := rfl
section
variable {K : PySem.W.Frag} {h : Hd} {Hb H : Hp}
theorem toDs_dr : ∀ {ps : List PV} {vs : List V} {ds : List D}, Paired (PvR K h Hb H) ps vs → toDs ps = .ok ds → DrAll K (hide h.O H) vs ds
  | _, _, _, .nil, e => by
    cases e
    exact .nil
  | _, _, _, .cons (a := p) (l₁ := r) rp t, e => by
    rw [toDs_cons] at e
    cases e1 : p.toD with
    | ok d =>
      rw [e1, R.bind_ok] at e
      cases e2 : toDs r with
      | ok ds =>
        rw [e2, R.bind_ok] at e
        cases e
        exact .cons (rp.toD e1) (toDs_dr t e2)
      | ex a b =>
        rw [e2] at e
        cases e
      | bad =>
        rw [e2] at e
        cases e
    | ex a b =>
      rw [e1] at e
      cases e
    | bad =>
      rw [e1] at e
      cases e
theorem noex_toD (p : PV) : NoEx p.toD := by
  cases p <;> first | exact noex_ok | exact noex_bad
theorem noex_toDs : ∀ ps : List PV, NoEx (toDs ps)
  | [] => noex_ok
  | p :: r => noex_bind (noex_toD p) fun _ => noex_bind (noex_toDs r) fun _ => noex_ok
end
/-! ### by the arguments' values -/
def OpN (K : PySem.W.Frag) (r : List V → Hp → VK → Prop) (g : List PV → R PV) : Prop := ∀ h Hb H Q vs ps, Dom h.O H → Paired (PvR K h Hb H) ps vs → OkP K h H Q (g ps) → r vs H Q
def cB (g : List PV → R PV) (ca : CA) : CE := fun G => (ca G).bind g
section
variable {K : PySem.W.Frag} {C : Addr} {E : XK} {H0 : Hp} {h : Hd} {H : Hp} {Q : VK} {G : Ev} {σ : L2.St}
theorem SndA.imp {ta : TA} {ca : CA} (s : SndA K C E ta ca) (r : Rep K H0 h H G σ) {f : List PV → R PV} (q : PostE K C E H0 h H Q ((ca G).bind f)) {k : List V → Hp → Prop}
    (hk : ∀ ps vs H1, Same H H1 → Rep K H0 h H1 G σ → Paired (PvR K h H H1) ps vs → PostE K C E H0 h H1 Q (f ps) → k vs H1) : ta σ H k := by
  refine s H0 h G σ H k r ?_
  cases e : ca G with
  | ok ps =>
    rw [e] at q
    exact fun vs H1 sm rp => hk ps vs H1 sm (r.grow sm) rp (PostE.grow q sm)
  | ex a b =>
    rw [e] at q
    exact q
  | bad =>
    rw [e] at q
    exact q
theorem snd_B {r : List V → Hp → VK → Prop} {g : List PV → R PV} {ta : TA} {ca : CA} (o : OpN K r g) (n : ∀ ps, NoEx (g ps)) (a : SndA K C E ta ca) : Snd K C E (tCB r ta) (cB g ca) := fun H0 h G σ H Q rp q => by
  refine a.imp rp q fun ps vs H1 s1 rp1 r1 q1 => ?_
  exact o h H H1 Q vs ps rp1.odom r1 (ok_post q1 (n ps))
end
section
variable {X : Cx} {C : Addr} {E : XK} {e : Expr} {es : List Expr} {ta : TA} {ca : CA} {te : TE} {c : CE} {x : Str} {p pos : Pos}
theorem da_nil : DA X C E tNil cNil [] := ⟨pa_nil, sndA_nil⟩
theorem da_cons (a : DE X C E te c e) (b : DA X C E ta ca es) (hs : starEach (e :: es) X.env = (false, eval e X.env) :: starEach es X.env := by rfl) : DA X C E (tCons te ta) (cCons c ca) (e :: es) := ⟨pa_cons a.pe b.pa hs, sndA_cons a.snd b.snd⟩
theorem de_callB {id : String} {r : List V → Hp → VK → Prop} {g : List PV → R PV} (hc : CallR X (.builtin id) r) (o : OpN X.K r g) (n : ∀ ps, NoEx (g ps)) (hm : X.mg x = none) (hv : bootBuiltins x = some (.builtin id)) (a : DA X C E ta ca (e :: es)) (hg : Gl X x := by rfl)
    (hn : x ≠ "__name__" := by decide) (hdb : (x == ("__debug__" : Str)) = false := by decide) (he : starEach (e :: es) X.env = (false, eval e X.env) :: starEach es X.env := by rfl) (hpl : (backTo pos (starEach es X.env)).any (·.1) = false := by rfl) :
    DE X C E (tCB r ta) (cB g ca) (.Call (.Name x p) (e :: es) [] pos) := ⟨pe_callB hc hg hm hv a.pa hn hdb he hpl, snd_B o n a.snd⟩
theorem de_callTy {T : String} {r : List V → Hp → VK → Prop} {g : List PV → R PV} (hc : CallR X (.type T) r) (o : OpN X.K r g) (n : ∀ ps, NoEx (g ps)) (hm : X.mg x = none) (hv : bootBuiltins x = some (.type T)) (a : DA X C E ta ca (e :: es)) (hg : Gl X x := by rfl)
    (hn : x ≠ "__name__" := by decide) (hdb : (x == ("__debug__" : Str)) = false := by decide) (he : starEach (e :: es) X.env = (false, eval e X.env) :: starEach es X.env := by rfl) (hpl : (backTo pos (starEach es X.env)).any (·.1) = false := by rfl) :
    DE X C E (tCB r ta) (cB g ca) (.Call (.Name x p) (e :: es) [] pos) := ⟨pe_callTy hc hg hm hv a.pa hn hdb he hpl, snd_B o n a.snd⟩
end
/-! displays -/
def gTupl (ps : List PV) : R PV := (toDs ps).bind fun ds => lim ds.length (.ok (.st (.tup ds)))
def gLis (ps : List PV) : R PV := (toDs ps).bind fun ds => lim ds.length (.ok (.fr ds))
theorem noex_tupl (ps : List PV) : NoEx (gTupl ps) := noex_bind (noex_toDs ps) fun _ => noex_lim noex_ok
theorem noex_lis (ps : List PV) : NoEx (gLis ps) := noex_bind (noex_toDs ps) fun _ => noex_lim noex_ok
theorem o_tupl {K : PySem.W.Frag} : OpN K (fun xs H Q => xs.length ≤ sizeLine ∧ ∀ p, H p = none → Q (.ref p) (upd H p (.tup xs))) gTupl := by
  intro h Hb H Q vs ps dm r q
  obtain ⟨ds, e, q⟩ := okp_bind q
  obtain ⟨z, q⟩ := okp_lim q
  have da := toDs_dr r e
  exact ⟨by rw [line_eq, da.len]; exact z, fun p n => q _ _ (same_upd n) (.newT dm n da)⟩
theorem o_lis {K : PySem.W.Frag} : OpN K (fun xs H Q => xs.length ≤ sizeLine ∧ ∀ p, H p = none → Q (.ref p) (upd H p (.lst xs))) gLis := by
  intro h Hb H Q vs ps dm r q
  obtain ⟨ds, e, q⟩ := okp_bind q
  obtain ⟨z, q⟩ := okp_lim q
  have da := toDs_dr r e
  exact ⟨by rw [line_eq, da.len]; exact z, fun p n => q _ _ (same_upd n) (.new dm n da)⟩
section
variable {X : Cx} {C : Addr} {E : XK} {es : List Expr} {ta : TA} {ca : CA} {pos : Pos}
theorem de_tup {k : Nat} (a : DA X C E ta ca es) : DE X C E (tTup ta) (cB gTupl ca) (.Tuple es k pos) := ⟨pe_tup a.pa, snd_B o_tupl noex_tupl a.snd⟩
theorem de_lst (a : DA X C E ta ca es) : DE X C E (tLst ta) (cB gLis ca) (.List es pos) := ⟨pe_lst a.pa, snd_B o_lis noex_lis a.snd⟩
theorem de_neg {te : TE} {c : CE} {e : Expr} (a : DE X C E te c e) : DE X C E (tUn (rU fun i => .int (-i)) te) (fun G => (c G).bind fun p => match p.d with | .int i => .ok (.st (.int (-i))) | _ => .bad) (.UnaryOp .USub e pos) := by
  refine ⟨pe_un un_neg a.pe, fun H0 h G σ H Q rp q => ?_⟩
  refine a.snd.imp rp q fun pv v H1 s1 rp1 r1 q1 => ?_
  split at q1
  · rename_i i ei
    exact ⟨i, r1.int ei, q1 _ H1 (Same.refl H1) (Dr.int _)⟩
  · exact q1.elim
end
/-! built-ins -/
def gLen (ps : List PV) : R PV := match ps with
  | [p] => (match p.items with
    | some l => .ok (.st (.int (l.length : Nat)))
    | none => (match p.d with
      | .str s => lim s.length (.ok (.st (.int (s.length : Nat))))
      | _ => .bad))
  | _ => .bad
theorem noex_len (ps : List PV) : NoEx (gLen ps) := by
  unfold gLen
  repeat' split
  all_goals first | exact noex_ok | exact noex_bad | exact noex_lim noex_ok
theorem one_of {α β : Type} {F : α → β → Prop} {a : α} {bs : List β} (r : Paired F [a] bs) : ∃ b, bs = [b] ∧ F a b := by
  cases r with
  | cons r t =>
    cases t
    exact ⟨_, rfl, r⟩
theorem two_of {α β : Type} {F : α → β → Prop} {a a' : α} {bs : List β} (r : Paired F [a, a'] bs) : ∃ b b', bs = [b, b'] ∧ F a b ∧ F a' b' := by
  cases r with
  | cons r t =>
    obtain ⟨b, rfl, r2⟩ := one_of t
    exact ⟨_, b, rfl, r, r2⟩
theorem o_len {K : PySem.W.Frag} : OpN K (fun xs H Q => ∃ x n, xs = [x] ∧ LenV K x H n ∧ Q (.int n) H) gLen := by
  intro h Hb H Q vs ps dm r q
  unfold gLen at q
  split at q
  · obtain ⟨v, rfl, u⟩ := one_of r
    split at q
    · rename_i l el
      obtain ⟨p, ws, rfl, hs, da⟩ := u.seq el
      refine ⟨_, ws.length, rfl, ?_, ?_⟩
      · rcases hs with hs | hs
        · exact .inl ⟨ws, hs, rfl⟩
        · exact .inr ⟨ws, hs, rfl⟩
      · rw [da.len]
        exact q.st (.int _)
    · split at q
      · rename_i s es
        obtain ⟨z, q⟩ := okp_lim q
        rw [u.str es]
        exact ⟨_, s.length, rfl, ⟨by rw [line_eq]; exact z, rfl⟩, q.st (.int _)⟩
      · exact q.elim
  · exact q.elim
def gInt2 (g : Int → Int → Int) (ps : List PV) : R PV := match ps with
  | [p, q] => vInt g p q
  | _ => .bad
theorem noex_int2 {g : Int → Int → Int} (ps : List PV) : NoEx (gInt2 g ps) := by
  unfold gInt2
  split
  · exact noex_int (fun _ _ => noex_ok) _ _
  · exact noex_bad
theorem o_int2 {K : PySem.W.Frag} {g : Int → Int → Int} : OpN K (fun xs H Q => ∃ i j, xs = [.int i, .int j] ∧ Q (.int (g i j)) H) (gInt2 g) := by
  intro h Hb H Q vs ps dm r q
  unfold gInt2 at q
  split at q
  · obtain ⟨v, w, rfl, r1, r2⟩ := two_of r
    unfold vInt intOp at q
    split at q
    · rename_i i j e1 e2
      exact ⟨i, j, by rw [r1.int e1, r2.int e2], q.st (.int _)⟩
    · exact q.elim
  · exact q.elim
abbrev gMax := gInt2 fun i j => if j > i then j else i
abbrev gMin := gInt2 fun i j => if j < i then j else i
def intsOf : List D → Option (List Int)
  | [] => some []
  | .int i :: r => (intsOf r).map (i :: ·)
  | _ :: _ => none
theorem intsOf_map : ∀ {l : List D} {ns : List Int}, intsOf l = some ns → l = ns.map D.int
  | [], ns, e => by
    cases e
    rfl
  | d :: r, ns, e => by
    cases d with
    | int i =>
      have e' : (intsOf r).map (i :: ·) = some ns := e
      obtain ⟨m, e1, e2⟩ := Option.map_eq_some_iff.mp e'
      subst e2
      rw [intsOf_map e1]
      rfl
    | _ => cases e
@[simp] theorem intsOf_ints : ∀ ns : List Int, intsOf (ns.map D.int) = some ns
  | [] => rfl
  | n :: r => by
    show (intsOf (r.map D.int)).map (n :: ·) = _
    rw [intsOf_ints r]
    rfl
def gSum (ps : List PV) : R PV := match ps with
  | [p] => (match p.litems.bind intsOf with
    | some ns => .ok (.st (.int ns.sum))
    | none => .bad)
  | _ => .bad
theorem noex_sum (ps : List PV) : NoEx (gSum ps) := by
  unfold gSum
  repeat' split
  all_goals first | exact noex_ok | exact noex_bad
theorem o_sum {K : PySem.W.Frag} : OpN K (rSum K) gSum := by
  intro h Hb H Q vs ps dm r q
  unfold gSum at q
  split at q
  · obtain ⟨v, rfl, u⟩ := one_of r
    split at q
    · rename_i ns en
      obtain ⟨l, e1, e2⟩ := Option.bind_eq_some_iff.mp en
      obtain ⟨p, ws, rfl, hs, da⟩ := u.seqL e1
      rw [intsOf_map e2] at da
      rw [DrAll.ints_eq da] at hs
      exact ⟨p, ns, rfl, hs, q.st (.int _)⟩
    · exact q.elim
  · exact q.elim
def blsOf : List D → Option (List Bool)
  | [] => some []
  | .bl i :: r => (blsOf r).map (i :: ·)
  | _ :: _ => none
theorem blsOf_eq {K : PySem.W.Frag} {H : Hp} : ∀ {l : List D} {vs : List V} {bs : List Bool}, blsOf l = some bs → DrAll K H vs l → vs = bs.map V.bl
  | [], _, bs, e, r => by
    cases e
    cases r
    rfl
  | d :: r, _, bs, e, x => by
    cases d with
    | bl i =>
      have e' : (blsOf r).map (i :: ·) = some bs := e
      obtain ⟨m, e1, e2⟩ := Option.map_eq_some_iff.mp e'
      subst e2
      cases x with
      | cons h1 h2 =>
        cases h1
        rw [blsOf_eq e1 h2]
        rfl
    | _ => cases e
@[simp] theorem blsOf_bls : ∀ ns : List Bool, blsOf (ns.map D.bl) = some ns
  | [] => rfl
  | n :: r => by
    show (blsOf (r.map D.bl)).map (n :: ·) = _
    rw [blsOf_bls r]
    rfl
def gAll (ps : List PV) : R PV := match ps with
  | [p] => (match p.litems.bind blsOf with
    | some bs => .ok (.st (.bl (bs.all id)))
    | none => .bad)
  | _ => .bad
theorem noex_all (ps : List PV) : NoEx (gAll ps) := by
  unfold gAll
  repeat' split
  all_goals first | exact noex_ok | exact noex_bad
theorem o_all {K : PySem.W.Frag} : OpN K (rAll K) gAll := by
  intro h Hb H Q vs ps dm r q
  unfold gAll at q
  split at q
  · obtain ⟨v, rfl, u⟩ := one_of r
    split at q
    · rename_i ns en
      obtain ⟨l, e1, e2⟩ := Option.bind_eq_some_iff.mp en
      obtain ⟨p, ws, rfl, hs, da⟩ := u.seqL e1
      rw [blsOf_eq e2 da] at hs
      exact ⟨p, ns, rfl, hs, q.st (.bl _)⟩
    · exact q.elim
  · exact q.elim
/-- tuple(x) -/
def gTuple (ps : List PV) : R PV := match ps with
  | [p] => (match p.d with
    | .tup l => .ok (.st (.tup l))
    | _ => (match p.litems with
      | some l => .ok (.st (.tup l))
      | none => .bad))
  | _ => .bad
theorem noex_tuple (ps : List PV) : NoEx (gTuple ps) := by
  unfold gTuple
  repeat' split
  all_goals first | exact noex_ok | exact noex_bad
theorem o_tuple {K : PySem.W.Frag} : OpN K (fun xs H Q => ∃ p ys, xs = [.ref p] ∧ ((SqL K H p ys ∧ ∀ l, H l = none → Q (.ref l) (upd H l (.tup ys))) ∨ (SqT K H p ys ∧ Q (.ref p) H))) gTuple := by
  intro h Hb H Q vs ps dm r q
  unfold gTuple at q
  split at q
  · obtain ⟨v, rfl, u⟩ := one_of r
    split at q
    · rename_i l el
      obtain ⟨a, ws, rfl, hs, da, rt⟩ := u.tup el
      exact ⟨a, ws, rfl, .inr ⟨hs, q.st rt⟩⟩
    · split at q
      · rename_i l el
        obtain ⟨p, ws, rfl, hs, da⟩ := u.seqL el
        exact ⟨p, ws, rfl, .inl ⟨hs, fun l n => q _ _ (same_upd n) (.newT dm n da)⟩⟩
      · exact q.elim
  · exact q.elim
/-- list(x) -/
def gList (ps : List PV) : R PV := match ps with
  | [p] => (match p.items with
    | some l => .ok (.fr l)
    | none => .bad)
  | _ => .bad
theorem noex_list (ps : List PV) : NoEx (gList ps) := by
  unfold gList
  repeat' split
  all_goals first | exact noex_ok | exact noex_bad
theorem o_list {K : PySem.W.Frag} : OpN K (fun xs H Q => ∃ p ys, xs = [.ref p] ∧ (SqL K H p ys ∨ SqT K H p ys) ∧ ∀ l, H l = none → Q (.ref l) (upd H l (.lst ys))) gList := by
  intro h Hb H Q vs ps dm r q
  unfold gList at q
  split at q
  · obtain ⟨v, rfl, u⟩ := one_of r
    split at q
    · rename_i l el
      obtain ⟨p, ws, rfl, hs, da⟩ := u.seq el
      exact ⟨p, ws, rfl, hs, fun l n => q _ _ (same_upd n) (.new dm n da)⟩
    · exact q.elim
  · exact q.elim
def gStr (ps : List PV) : R PV := match ps with
  | [p] => (match p.d with
    | .int i => if i.natAbs.log2 < 1920 then .ok (.st (.str (toString i))) else .bad
    | _ => .bad)
  | _ => .bad
theorem noex_str (ps : List PV) : NoEx (gStr ps) := by
  unfold gStr
  repeat' split
  all_goals first | exact noex_ok | exact noex_bad
theorem o_str {K : PySem.W.Frag} : OpN K (fun xs H Q => ∃ i, xs = [.int i] ∧ i.natAbs.log2 < 1920 ∧ Q (.str (toString i)) H) gStr := by
  intro h Hb H Q vs ps dm r q
  unfold gStr at q
  split at q
  · obtain ⟨v, rfl, u⟩ := one_of r
    split at q
    · rename_i i ei
      split at q
      · exact ⟨i, by rw [u.int ei], by assumption, q.st (.str _)⟩
      · exact q.elim
    · exact q.elim
  · exact q.elim
def gOrd (ps : List PV) : R PV := match ps with
  | [p] => (match p.d with
    | .str x => if x.length = 1 then .ok (.st (.int (x.cps.getD 0 0 : Nat))) else .bad
    | _ => .bad)
  | _ => .bad
theorem noex_ord (ps : List PV) : NoEx (gOrd ps) := by
  unfold gOrd
  repeat' split
  all_goals first | exact noex_ok | exact noex_bad
theorem o_ord {K : PySem.W.Frag} : OpN K (fun xs H Q => ∃ x, xs = [.str x] ∧ x.length = 1 ∧ Q (.int (x.cps.getD 0 0 : Nat)) H) gOrd := by
  intro h Hb H Q vs ps dm r q
  unfold gOrd at q
  split at q
  · obtain ⟨v, rfl, u⟩ := one_of r
    split at q
    · rename_i i ei
      split at q
      · exact ⟨i, by rw [u.str ei], by assumption, q.st (.int _)⟩
      · exact q.elim
    · exact q.elim
  · exact q.elim
end BT
/-! Tests, choices, calls of defs. -/
namespace BT
open PySem PySem.Spec PyProof.Rows L2
abbrev CT := Ev → R Bool
def PostT (K : PySem.W.Frag) (C : Addr) (E : XK) (H0 : Hp) (h : Hd) (H : Hp) (Q : Bool → Hp → Prop) : R Bool → Prop
  | .ok b => ∀ H', Same H H' → Q b H'
  | .ex k p => FX C H0 E k p
  | .bad => False
def SndT (K : PySem.W.Frag) (C : Addr) (E : XK) (tt : TT) (c : CT) : Prop := ∀ H0 h G σ H Q, Rep K H0 h H G σ → PostT K C E H0 h H Q (c G) → tt σ H Q
structure DT (X : Cx) (C : Addr) (E : XK) (tt : TT) (c : CT) (e : Expr) : Prop where
  pt : PT X e tt
  snd : SndT X.K C E tt c
structure DW (X : Cx) (C : Addr) (E : XK) (tt : TT) (c : CT) (e : Expr) : Prop where
  pw : PW X e tt
  snd : SndT X.K C E tt c
def boolOf (p : PV) : R Bool := match p.d with
  | .bl b => .ok b
  | _ => .bad
def cT (c : CE) : CT := fun G => (c G).bind boolOf
def cAndT (a b : CT) : CT := fun G => (a G).bind fun x => if x = true then b G else .ok false
def cOrT (a b : CT) : CT := fun G => (a G).bind fun x => if x = true then .ok true else b G
def cNotT (a : CT) : CT := fun G => (a G).bind fun x => .ok (!x)
section
variable {K : PySem.W.Frag} {C : Addr} {E : XK} {H0 : Hp} {h : Hd} {H H1 : Hp} {G : Ev} {σ : L2.St}
theorem PostT.grow {Q : Bool → Hp → Prop} {r : R Bool} (q : PostT K C E H0 h H Q r) (e : Same H H1) : PostT K C E H0 h H1 Q r := by
  cases r with
  | ok pv => exact fun H' s => q H' (e.trans s)
  | ex k p => exact q
  | bad => exact q
theorem snd_test {te : TE} {c : CE} (s : Snd K C E te c) : SndT K C E (tTest te) (cT c) := fun H0 h G σ H Q r q => by
  refine s H0 h G σ H _ r ?_
  unfold cT at q
  cases e : c G with
  | ok pv =>
    rw [e] at q
    intro v H1 sm rp
    have q2 : PostT K C E H0 h H Q (boolOf pv) := q
    unfold boolOf at q2
    split at q2
    · rename_i b eb
      exact ⟨b, rp.bl eb, q2 H1 sm⟩
    · exact q2.elim
  | ex a b =>
    rw [e] at q
    exact q
  | bad =>
    rw [e] at q
    exact q
theorem SndT.imp {tt : TT} {c : CT} (s : SndT K C E tt c) (r : Rep K H0 h H G σ) {α : Type} {P : Hp → R α → Prop} (pe : ∀ k p, P H (.ex k p) → FX C H0 E k p) (pb : P H .bad → False) {f : Bool → R α} (q : P H ((c G).bind f)) {k : Bool → Hp → Prop}
    (hk : ∀ b H1, Same H H1 → Rep K H0 h H1 G σ → P H (f b) → k b H1) : tt σ H k := by
  refine s H0 h G σ H k r ?_
  cases e : c G with
  | ok b =>
    rw [e] at q
    exact fun H1 sm => hk b H1 sm (r.grow sm) q
  | ex a b =>
    rw [e] at q
    exact pe _ _ q
  | bad =>
    rw [e] at q
    exact pb q
theorem snd_and {t u : TT} {a b : CT} (sa : SndT K C E t a) (sb : SndT K C E u b) : SndT K C E (tAnd t u) (cAndT a b) := fun H0 h G σ H Q r q => by
  refine sa.imp (P := fun H r => PostT K C E H0 h H Q r) r (fun _ _ z => z) (fun z => z) q fun x H1 sm r1 q1 => ?_
  cases x with
  | true => exact sb H0 h G σ H1 Q r1 (PostT.grow q1 sm)
  | false => exact q1 H1 sm
theorem snd_or {t u : TT} {a b : CT} (sa : SndT K C E t a) (sb : SndT K C E u b) : SndT K C E (tOr t u) (cOrT a b) := fun H0 h G σ H Q r q => by
  refine sa.imp (P := fun H r => PostT K C E H0 h H Q r) r (fun _ _ z => z) (fun z => z) q fun x H1 sm r1 q1 => ?_
  cases x with
  | true => exact q1 H1 sm
  | false => exact sb H0 h G σ H1 Q r1 (PostT.grow q1 sm)
theorem snd_not {t : TT} {a : CT} (sa : SndT K C E t a) : SndT K C E (tNot t) (cNotT a) := fun H0 h G σ H Q r q => by
  refine sa.imp (P := fun H r => PostT K C E H0 h H Q r) r (fun _ _ z => z) (fun z => z) q fun x H1 sm r1 q1 => ?_
  exact q1 H1 sm
end
section
variable {X : Cx} {C : Addr} {E : XK} {a b c : Expr} {rest : List Expr} {ta tb tc : TE} {ca cb cc : CE} {t u : TT} {x y : CT} {pos : Pos}
theorem dt_cmp {op : CmpOp} {r : R2} {g : PV → PV → R PV} (ho : OpR X (compareOp op) r) (hm : behindInMarks op b = false) (o : Op2 X.K r g) (n : ∀ p q, NoEx (g p q)) (ha : DE X C E ta ca a) (hb : DE X C E tb cb b) : DT X C E (tTest (tOp r ta tb)) (cT (cOp2 g ca cb)) (.Compare a [op] [b] pos) :=
  ⟨pt_cmpR ho ha.pe hb.pe hm, snd_test (snd_op2 o n ha.snd hb.snd)⟩
theorem dt_val (ha : DE X C E ta ca a) (he : ∀ whole, isTrue a X.env whole = (do let v ← whole; standAt a.pos; holding [v] (truthy v)) := by intro _; rfl) : DT X C E (tTest ta) (cT ca) a := ⟨pt_val ha.pe he, snd_test ha.snd⟩
theorem dw_and1 (h : DT X C E t x a) : DW X C E t x (.BoolOp .And [a] pos) := ⟨pw_and1 h.pt, h.snd⟩
theorem dw_or1 (h : DT X C E t x a) : DW X C E t x (.BoolOp .Or [a] pos) := ⟨pw_or1 h.pt, h.snd⟩
theorem dw_and (h : DT X C E t x a) (k : DW X C E u y (.BoolOp .And (b :: rest) pos)) : DW X C E (tAnd t u) (cAndT x y) (.BoolOp .And (a :: b :: rest) pos) := ⟨pw_and h.pt k.pw, snd_and h.snd k.snd⟩
theorem dw_or (h : DT X C E t x a) (k : DW X C E u y (.BoolOp .Or (b :: rest) pos)) : DW X C E (tOr t u) (cOrT x y) (.BoolOp .Or (a :: b :: rest) pos) := ⟨pw_or h.pt k.pw, snd_or h.snd k.snd⟩
theorem dt_w (h : DW X C E t x a) : DT X C E t x a := ⟨h.pw.pt, h.snd⟩
theorem dt_not (h : DT X C E t x a) : DT X C E (tNot t) (cNotT x) (.UnaryOp .Not a pos) := ⟨pt_not h.pt, snd_not h.snd⟩
/-! a chain a < b < c -/
def cChain (g g' : PV → PV → R PV) (a b c : CE) : CE := fun G => (a G).bind fun p => (b G).bind fun q => (g p q).bind fun z => (boolOf z).bind fun k => if k = true then (c G).bind fun w => g' q w else .ok (.st (.bl false))
theorem snd_chain {r r' : R2} {g g' : PV → PV → R PV} (o : Op2 X.K r g) (n : ∀ p q, NoEx (g p q)) (o' : Op2 X.K r' g') (n' : ∀ p q, NoEx (g' p q)) (ha : Snd X.K C E ta ca) (hb : Snd X.K C E tb cb) (hc : Snd X.K C E tc cc) :
    Snd X.K C E (tChain r r' ta tb tc) (cChain g g' ca cb cc) := fun H0 h G σ H Q rp q => by
  refine ha.imp rp q fun pv v H1 s1 rp1 r1 q1 => ?_
  refine hb.imp rp1 q1 fun pw w H2 s2 rp2 r2 q2 => ?_
  refine o h H H1 H2 _ v w pv pw rp2.odom (r1.grow s2) r2 ?_
  cases e : g pv pw with
  | ex i j => exact absurd e (n pv pw i j)
  | bad =>
    rw [e] at q2
    exact q2
  | ok pz =>
    rw [e] at q2
    intro z H3 s3 rz
    have q3 : PostE X.K C E H0 h H2 Q ((boolOf pz).bind fun k => if k = true then (cc G).bind fun w => g' pw w else .ok (.st (.bl false))) := q2
    cases e2 : boolOf pz with
    | ex i j =>
      unfold boolOf at e2
      split at e2 <;> cases e2
    | bad =>
      rw [e2] at q3
      exact q3.elim
    | ok k =>
      rw [e2] at q3
      have ez : z = .bl k := by
        unfold boolOf at e2
        split at e2
        · rename_i b eb
          cases e2
          exact rz.bl eb
        · cases e2
      refine ⟨k, ez, ?_⟩
      have q4 := PostE.grow q3 s3
      cases k with
      | true =>
        rw [if_pos rfl]
        have q5 : PostE X.K C E H0 h H3 Q ((cc G).bind fun w => g' pw w) := q4
        refine hc.imp (rp2.grow s3) q5 fun px x H4 s4 rp4 r4 q6 => ?_
        exact o' h H1 H3 H4 Q w x pw px rp4.odom ((r2.grow s3).grow s4) r4 (ok_post q6 (n' pw px))
      | false =>
        rw [if_neg Bool.false_ne_true]
        exact q4 _ H3 (Same.refl H3) (Dr.bl false)
theorem de_chain {op op' : CmpOp} {r r' : R2} {g g' : PV → PV → R PV} (ho : OpR X (compareOp op) r) (ho' : OpR X (compareOp op') r') (o : Op2 X.K r g) (n : ∀ p q, NoEx (g p q)) (o' : Op2 X.K r' g') (n' : ∀ p q, NoEx (g' p q)) (ha : DE X C E ta ca a) (hb : DE X C E tb cb b) (hc : DE X C E tc cc c)
    (hm : lastMarks [op, op'] [b, c] = false := by with_unfolding_all rfl) : DE X C E (tChain r r' ta tb tc) (cChain g g' ca cb cc) (.Compare a [op, op'] [b, c] pos) := ⟨pe_chain ho ho' ha.pe hb.pe hc.pe hm, snd_chain o n o' n' ha.snd hb.snd hc.snd⟩
theorem dt_chain {op op' : CmpOp} {r r' : R2} {g g' : PV → PV → R PV} (ho : OpR X (compareOp op) r) (ho' : OpR X (compareOp op') r') (o : Op2 X.K r g) (n : ∀ p q, NoEx (g p q)) (o' : Op2 X.K r' g') (n' : ∀ p q, NoEx (g' p q)) (ha : DE X C E ta ca a) (hb : DE X C E tb cb b) (hc : DE X C E tc cc c)
    (hm : lastMarks [op, op'] [b, c] = false := by with_unfolding_all rfl) : DT X C E (tTest (tChain r r' ta tb tc)) (cT (cChain g g' ca cb cc)) (.Compare a [op, op'] [b, c] pos) := ⟨pt_chain ho ho' ha.pe hb.pe hc.pe hm, snd_test (snd_chain o n o' n' ha.snd hb.snd hc.snd)⟩
/-! a if t else b; and, or, not as values -/
def cIfE (t : CT) (a b : CE) : CE := fun G => (t G).bind fun x => if x = true then a G else b G
theorem de_if {tt : TT} {ct : CT} (hc : DT X C E tt ct c) (ha : DE X C E ta ca a) (hb : DE X C E tb cb b) : DE X C E (tIf tt ta tb) (cIfE ct ca cb) (.IfExp c a b pos) := by
  refine ⟨pe_ifExp hc.pt ha.pe hb.pe, fun H0 h G σ H Q r q => ?_⟩
  refine hc.snd.imp (P := fun H r => PostE X.K C E H0 h H Q r) r (fun _ _ z => z) (fun z => z) q fun x H1 sm r1 q1 => ?_
  cases x with
  | true => exact ha.snd H0 h G σ H1 Q r1 (PostE.grow q1 sm)
  | false => exact hb.snd H0 h G σ H1 Q r1 (PostE.grow q1 sm)
theorem boolOf_eq {K : PySem.W.Frag} {h : Hd} {Hb H : Hp} {p : PV} {v : V} {k : Bool} (r : PvR K h Hb H p v) (e : boolOf p = .ok k) : v = .bl k := by
  unfold boolOf at e
  split at e
  · rename_i b eb
    cases e
    exact r.bl eb
  · cases e
def cAndE (a b : CE) : CE := fun G => (a G).bind fun p => (boolOf p).bind fun x => if x = true then b G else .ok (.st (.bl false))
def cOrE (a b : CE) : CE := fun G => (a G).bind fun p => (boolOf p).bind fun x => if x = true then .ok (.st (.bl true)) else b G
def cNotE (a : CE) : CE := fun G => (a G).bind fun p => (boolOf p).bind fun x => .ok (.st (.bl (!x)))
theorem de_one {op} (ha : DE X C E ta ca a) : DE X C E ta ca (.BoolOp op [a] pos) := ⟨pe_one ha.pe, ha.snd⟩
theorem noex_boolOf (p : PV) : NoEx (boolOf p) := by
  unfold boolOf
  split
  · exact noex_ok
  · exact noex_bad
theorem bool_step {K : PySem.W.Frag} {H0 : Hp} {h : Hd} {H : Hp} {Q : VK} {p : PV} {f : Bool → R PV} (q : PostE K C E H0 h H Q ((boolOf p).bind f)) : ∃ k, boolOf p = .ok k ∧ PostE K C E H0 h H Q (f k) := by
  cases e : boolOf p with
  | ok k =>
    rw [e] at q
    exact ⟨k, rfl, q⟩
  | ex i j => exact absurd e (noex_boolOf p i j)
  | bad =>
    rw [e] at q
    exact q.elim
theorem de_and (ha : DE X C E ta ca a) (hb : DE X C E tb cb (.BoolOp .And (b :: rest) pos)) : DE X C E (tAndV ta tb) (cAndE ca cb) (.BoolOp .And (a :: b :: rest) pos) := by
  refine ⟨L2.pe_and ha.pe hb.pe, fun H0 h G σ H Q r q => ?_⟩
  refine ha.snd.imp r q fun pv v H1 s1 rp1 r1 q1 => ?_
  obtain ⟨k, e, q2⟩ := bool_step q1
  refine ⟨k, boolOf_eq r1 e, ?_⟩
  cases k with
  | true => exact hb.snd H0 h G σ H1 Q rp1 q2
  | false => exact q2 _ H1 (Same.refl H1) (Dr.bl false)
theorem de_or (ha : DE X C E ta ca a) (hb : DE X C E tb cb (.BoolOp .Or (b :: rest) pos)) : DE X C E (tOrV ta tb) (cOrE ca cb) (.BoolOp .Or (a :: b :: rest) pos) := by
  refine ⟨L2.pe_or ha.pe hb.pe, fun H0 h G σ H Q r q => ?_⟩
  refine ha.snd.imp r q fun pv v H1 s1 rp1 r1 q1 => ?_
  obtain ⟨k, e, q2⟩ := bool_step q1
  refine ⟨k, boolOf_eq r1 e, ?_⟩
  cases k with
  | true => exact q2 _ H1 (Same.refl H1) (Dr.bl true)
  | false => exact hb.snd H0 h G σ H1 Q rp1 q2
theorem de_not (ha : DE X C E ta ca a) : DE X C E (tNotV ta) (cNotE ca) (.UnaryOp .Not a pos) := by
  refine ⟨L2.pe_not ha.pe, fun H0 h G σ H Q r q => ?_⟩
  refine ha.snd.imp r q fun pv v H1 s1 rp1 r1 q1 => ?_
  obtain ⟨k, e, q2⟩ := bool_step q1
  exact ⟨k, boolOf_eq r1 e, q2 _ H1 (Same.refl H1) (Dr.bl _)⟩
end
/-! ### a def's promise over data, its calls -/
def RetP (K : PySem.W.Frag) (C : Addr) (O : Addr → Prop) (H : Hp) (Q : VK) (E : XK) : R PV → Prop
  | .ok pv => ∀ v H', Same H H' → PvR K (Hd.of O) H H' pv v → Q v H'
  | .ex k p => FX C H E k p
  | .bad => False
def spD (K : PySem.W.Frag) (C : Addr) (n : Nat) (f : List D → R PV) : Sp := fun vs H Q E => ∃ ds O, ds.length = n ∧ Dom O H ∧ DrAll K (hide O H) vs ds ∧ RetP K C O H Q E (f ds)
/-- the def of this name keeps what f says, by k levels -/
structure FnA (P : Program) (w : World) (K : PySem.W.Frag) (mg : Str → Option Value) (base : Heap) (C : Addr) (k : Nat) (x : Str) (ps : List Str) (f : List D → R PV) : Prop where
  ex : ∃ a fd, FnOk P w K mg base (L2.CX P w) k a fd ps (spD K C ps.length f) ∧ mg x = some (.ref a) ∧ PySem.W.keepIn K (.ref a) = true ∧ Binds K fd ps [] ∧ (∀ us : List Value, us.length = ps.length → bindArgs fd ⟨us, []⟩ = pure (ps.zip us)) ∧ ∃ oc od osl, K.lookup a = some ⟨oc, od, .func fd, osl⟩
def cCall (f : List D → R PV) (ca : CA) : CE := fun G => (ca G).bind fun ps => (toDs ps).bind f
/-- .. where no error may come -/
def calm (r : R PV) : R PV := match r with
  | .ok a => .ok a
  | _ => .bad
def cCall0 (f : List D → R PV) (ca : CA) : CE := fun G => (ca G).bind fun ps => (toDs ps).bind fun ds => calm (f ds)
def cRes (n : Nat) (f : List D → R PV) : List D → R PV := fun ds => if ds.length = n then f ds else .bad
def tCallA (mg : Str → Option Value) (K : PySem.W.Frag) (C : Addr) (n : Nat) (f : List D → R PV) (E : XK) (t : TA) : TE := tCall (spD K C n f) [] E t
section
variable {X : Cx} {C : Addr} {E : XK} {k : Nat} {x : Str} {ps : List Str} {f : List D → R PV} {e : Expr} {es : List Expr} {ta : TA} {ca : CA} {p pos : Pos}
theorem call_post {K : PySem.W.Frag} {H0 : Hp} {h : Hd} {H : Hp} {Q : VK} {ds : List D} {E' : XK} (r : ∃ G σ, Rep K H0 h H G σ) {res : R PV} (q : PostE K C E H0 h H Q res) (he : ∀ k p, res = .ex k p → FX C H E' k p) : RetP K C h.O H Q E' res := by
  cases res with
  | bad => exact q
  | ex k p => exact he k p rfl
  | ok pv =>
    intro v H' s rv
    refine q v H' s ?_
    cases pv with
    | st d =>
      have z : Dr K (hide (Hd.of h.O).O H') v d := rv
      rw [Hd.of_O] at z
      exact z
    | bo l =>
      obtain ⟨p, vs, _, ⟨_, b⟩, _⟩ := rv
      exact b.elim
    | fr l =>
      obtain ⟨p, vs, e1, n, no, e2, r⟩ := rv
      rw [Hd.of_O] at no r
      exact ⟨p, vs, e1, n, no, e2, r⟩
    | b2 l =>
      obtain ⟨p, vs, _, ⟨_, b⟩, _⟩ := rv
      exact b.elim
theorem de_call (F : FnA X.prog X.w X.K X.mg X.base C k x ps f) (hr : Room k X.A) (hx : Passes (L2.CX X.prog X.w) X E) (a : DA X C E ta ca (e :: es)) (hg : Gl X x := by rfl)
    (hl : (e :: es).length = ps.length := by rfl) (hd : (x == ("__debug__" : Str)) = false := by decide) (he : starEach (e :: es) X.env = (false, eval e X.env) :: starEach es X.env := by rfl) (hpl : (backTo pos (starEach es X.env)).any (·.1) = false := by rfl) :
    DE X C E (tCall (spD X.K C ps.length f) [] E ta) (cCall (cRes ps.length f) ca) (.Call (.Name x p) (e :: es) [] pos) := by
  obtain ⟨ad, fd, F, gm, kp, hb, _⟩ := F.ex
  refine ⟨pe_call F hr hg gm kp hb .nil hx a.pa hd he hpl, fun H0 h G σ H Q r q => ?_⟩
  refine a.snd.imp r q fun pv vs H1 s1 r1 rv q1 => ?_
  rw [List.append_nil]
  cases e1 : toDs pv with
  | ok ds =>
    rw [e1] at q1
    have q2 : PostE X.K C E H0 h H1 Q (if ds.length = ps.length then f ds else .bad) := q1
    by_cases hn : ds.length = ps.length
    · rw [if_pos hn] at q2
      refine ⟨ds, h.O, hn, r1.odom, toDs_dr rv e1, call_post ⟨G, σ, r1⟩ (ds := ds) q2 fun k p ek => ?_⟩
      rw [ek] at q2
      exact FX.grow q2 r1.same
    · rw [if_neg hn] at q2
      exact q2.elim
  | ex i j => exact absurd e1 (noex_toDs pv i j)
  | bad =>
    rw [e1] at q1
    exact q1.elim
theorem de_call0 (F : FnA X.prog X.w X.K X.mg X.base C k x ps f) (hr : Room k X.A) (a : DA X C E ta ca (e :: es)) (hg : Gl X x := by rfl)
    (hd : (x == ("__debug__" : Str)) = false := by decide) (he : starEach (e :: es) X.env = (false, eval e X.env) :: starEach es X.env := by rfl) (hpl : (backTo pos (starEach es X.env)).any (·.1) = false := by rfl) :
    DE X C E (tCall (spD X.K C ps.length f) [] E0 ta) (cCall0 (cRes ps.length f) ca) (.Call (.Name x p) (e :: es) [] pos) := by
  obtain ⟨ad, fd, F, gm, kp, hb, _⟩ := F.ex
  refine ⟨pe_call F hr hg gm kp hb .nil passL a.pa hd he hpl, fun H0 h G σ H Q r q => ?_⟩
  refine a.snd.imp r q fun pv vs H1 s1 r1 rv q1 => ?_
  rw [List.append_nil]
  cases e1 : toDs pv with
  | ok ds =>
    rw [e1] at q1
    have q2 : PostE X.K C E H0 h H1 Q (calm (if ds.length = ps.length then f ds else .bad)) := q1
    by_cases hn : ds.length = ps.length
    · rw [if_pos hn] at q2
      refine ⟨ds, h.O, hn, r1.odom, toDs_dr rv e1, ?_⟩
      cases ef : f ds with
      | ok pv =>
        rw [ef] at q2
        exact call_post (E := E) ⟨G, σ, r1⟩ (ds := ds) (res := .ok pv) q2 fun k p ek => by cases ek
      | ex i j =>
        rw [ef] at q2
        exact q2.elim
      | bad =>
        rw [ef] at q2
        exact q2.elim
    · rw [if_neg hn] at q2
      exact q2.elim
  | ex i j => exact absurd e1 (noex_toDs pv i j)
  | bad =>
    rw [e1] at q1
    exact q1.elim
end
end BT
/-! Statements. -/
namespace BT
open PySem PySem.Spec PyProof.Rows L2
inductive Fl where
  | nx
  | ret (p : PV)
abbrev CS := Ev → R (Fl × Ev)
def PostS (K : PySem.W.Frag) (C : Addr) (E : XK) (H0 : Hp) (O0 : Addr → Prop) (gs : List (V × D)) (D : Ends) : R (Fl × Ev) → Prop
  | .ok (.nx, G) => ∀ own σ H, Rep K H0 ⟨O0, own, gs⟩ H G σ → D.nx σ H
  | .ok (.ret pv, _) => ∀ v H, Same H0 H → PvR K (Hd.of O0) H0 H pv v → D.rt v H
  | .ex k p => FX C H0 E k p
  | .bad => False
def SndS (K : PySem.W.Frag) (C : Addr) (E : XK) (ts : TS) (c : CS) : Prop := ∀ H0 O0 own gs G σ H D, Rep K H0 ⟨O0, own, gs⟩ H G σ → PostS K C E H0 O0 gs D (c G) → ts D σ H
structure DS (X : Cx) (C : Addr) (E : XK) (ts : TS) (c : CS) (s : Stmt) : Prop where
  ps : PS X s ts
  snd : SndS X.K C E ts c
structure DB (X : Cx) (C : Addr) (E : XK) (ts : TS) (c : CS) (s : List Stmt) : Prop where
  ps : PSs X s ts
  snd : SndS X.K C E ts c
/-! ### stores into slots -/
section
variable {K : PySem.W.Frag} {H0 : Hp} {O0 : Addr → Prop} {own : Nat → Addr → Prop} {gs : List (V × D)} {H H1 : Hp} {G : Ev} {σ : L2.St}
theorem get_set {α : Type} {l : List α} {i j : Nat} {x y : α} (h : (l.set i x)[j]? = some y) : (i = j ∧ y = x ∧ i < l.length) ∨ (i ≠ j ∧ l[j]? = some y) := by
  by_cases e : i = j
  · subst e
    by_cases hl : i < l.length
    · rw [List.getElem?_set_self hl] at h
      exact .inl ⟨rfl, (Option.some.inj h).symm, hl⟩
    · rw [List.getElem?_eq_none (by simpa using hl)] at h
      cases h
  · rw [List.getElem?_set_ne e] at h
    exact .inr ⟨e, h⟩
theorem Rep.share (r : Rep K H0 ⟨O0, own, gs⟩ H G σ) {i : Nat} {v : V} {d : D} (rd : Dr K (hide (Hd.O ⟨O0, own, gs⟩) H) v d) : Rep K H0 ⟨O0, own, gs⟩ H (G.set i (.sh d)) (σ.set i (some v)) :=
  ⟨r.same, r.sub, r.fresh, r.dom, r.dis, by rw [List.length_set, List.length_set]; exact r.len, fun j s e => by
    rcases get_set e with ⟨e1, e2, e3⟩ | ⟨e1, e2⟩
    · subst e1 e2
      exact ⟨some v, List.getElem?_set_self (by rw [r.len]; exact e3), v, rfl, rd⟩
    · obtain ⟨ov, q1, q2⟩ := r.slot j s e2
      exact ⟨ov, by rw [List.getElem?_set_ne e1]; exact q1, q2⟩, r.gh⟩
/-- a slot takes a new list -/
theorem Rep.take (r : Rep K H0 ⟨O0, own, gs⟩ H G σ) (sm : Same H H1) {i : Nat} {v : V} {l : List D} (rd : PvR K ⟨O0, own, gs⟩ H H1 (.fr l) v) :
    ∃ own', Rep K H0 ⟨O0, own', gs⟩ H1 (G.set i (.ow l)) (σ.set i (some v)) := by
  obtain ⟨p, vs, rfl, n, no, hp, da⟩ := rd
  have n0 : H0 p = none := r.same.free n
  refine ⟨fun j a => if j = i then a = p else own j a, ?_⟩
  have sub : ∀ a, Hd.O ⟨O0, fun j a => if j = i then a = p else own j a, gs⟩ a → a = p ∨ Hd.O ⟨O0, own, gs⟩ a := fun a z => by
    rcases z with z | ⟨j, z⟩
    · exact .inr (.inl z)
    · have z' : if j = i then a = p else own j a := z
      by_cases e : j = i
      · rw [if_pos e] at z'
        exact .inl z'
      · rw [if_neg e] at z'
        exact .inr (.inr ⟨j, z'⟩)
  have vis : Same (hide (Hd.O ⟨O0, own, gs⟩) H) (hide (Hd.O ⟨O0, fun j a => if j = i then a = p else own j a, gs⟩) H1) := hide_same sm fun a z => by
    rcases sub a z with e | e
    · rw [e]
      exact .inr n
    · exact .inl e
  refine ⟨r.same.trans sm, r.sub, fun j a z => ?_, fun j a z => ?_, fun j k a z1 z2 => ?_, by rw [List.length_set, List.length_set]; exact r.len, fun j s e => ?_, fun g m => Dr.mono vis _ _ (r.gh g m)⟩
  · have z' : if j = i then a = p else own j a := z
    split at z'
    · rw [z']
      exact n0
    · exact r.fresh j a z'
  · have z' : if j = i then a = p else own j a := z
    split at z'
    · rw [z']
      exact ⟨_, hp⟩
    · obtain ⟨o, q⟩ := r.dom j a z'
      exact ⟨o, sm a o q⟩
  · have y1 : if j = i then a = p else own j a := z1
    have y2 : if k = i then a = p else own k a := z2
    by_cases e1 : j = i
    · by_cases e2 : k = i
      · rw [e1, e2]
      · rw [if_pos e1] at y1
        rw [if_neg e2] at y2
        exact absurd (show Hd.O ⟨O0, own, gs⟩ p from .inr ⟨k, y1 ▸ y2⟩) no
    · by_cases e2 : k = i
      · rw [if_neg e1] at y1
        rw [if_pos e2] at y2
        exact absurd (show Hd.O ⟨O0, own, gs⟩ p from .inr ⟨j, y2 ▸ y1⟩) no
      · rw [if_neg e1] at y1
        rw [if_neg e2] at y2
        exact r.dis j k a y1 y2
  · rcases get_set e with ⟨e1, e2, e3⟩ | ⟨e1, e2⟩
    · subst e1 e2
      refine ⟨_, List.getElem?_set_self (by rw [r.len]; exact e3), p, vs, rfl, ?_, hp, DrAll.mono (hide_more sub) _ vs da⟩
      show if i = i then p = p else own i p
      rw [if_pos rfl]
    · obtain ⟨ov, q1, q2⟩ := r.slot j s e2
      refine ⟨ov, by rw [List.getElem?_set_ne e1]; exact q1, ?_⟩
      have q3 := q2.mono vis fun p o _ y => sm p o y
      cases s with
      | un => trivial
      | sh d => exact q3
      | ow m =>
        obtain ⟨a, ws, f1, f2, f3, f4⟩ := q3
        refine ⟨a, ws, f1, ?_, f3, f4⟩
        show if j = i then a = p else own j a
        rw [if_neg (Ne.symm e1)]
        exact f2
      | o2 m =>
        obtain ⟨a, ws, f1, f2, f3, f4⟩ := q3
        refine ⟨a, ws, f1, ?_, f3, f4.mono (Same.refl _) (fun _ _ _ _ y => y) fun b y _ => ?_⟩
        · show if j = i then a = p else own j a
          rw [if_neg (Ne.symm e1)]
          exact f2
        · show if j = i then b = p else own j b
          rw [if_neg (Ne.symm e1)]
          exact y
/-- a slot's own list changes -/
theorem Rep.mut (r : Rep K H0 ⟨O0, own, gs⟩ H G σ) {i : Nat} {p : Addr} {l l' : List D} {ws : List V} (hs : G[i]? = some (.ow l)) (hp : own i p) (hσ : σ[i]? = some (some (.ref p))) (da : DrAll K (hide (Hd.O ⟨O0, own, gs⟩) H) ws l') :
    Rep K H0 ⟨O0, own, gs⟩ (upd H p (.lst ws)) (G.set i (.ow l')) σ := by
  have hO : Hd.O ⟨O0, own, gs⟩ p := .inr ⟨i, hp⟩
  have vis : hide (Hd.O ⟨O0, own, gs⟩) (upd H p (.lst ws)) = hide (Hd.O ⟨O0, own, gs⟩) H := hide_upd hO
  refine ⟨same_mut r.same (r.fresh i p hp), r.sub, r.fresh, fun j a z => ?_, r.dis, by rw [List.length_set]; exact r.len, fun j s e => ?_, fun g m => by rw [vis]; exact r.gh g m⟩
  · by_cases e : a = p
    · rw [e]
      exact ⟨_, upd_same⟩
    · rw [upd_ne e]
      exact r.dom j a z
  · rw [vis]
    rcases get_set e with ⟨e1, e2, e3⟩ | ⟨e1, e2⟩
    · subst e1 e2
      exact ⟨_, hσ, p, ws, rfl, hp, upd_same, da⟩
    · obtain ⟨ov, q1, q2⟩ := r.slot j s e2
      refine ⟨ov, q1, q2.mono (Same.refl _) fun a o ha y => ?_⟩
      have ne : a ≠ p := fun z => e1 (r.dis i j p hp (by rw [← z]; exact ha))
      rw [upd_ne ne]
      exact y
/-- what a slot owned is data from now on -/
theorem Rep.freeze (r : Rep K H0 ⟨O0, own, gs⟩ H G σ) {i : Nat} {l : List D} (hs : G[i]? = some (.ow l)) : ∃ own', Rep K H0 ⟨O0, own', gs⟩ H (G.set i (.sh (.lst l))) σ := by
  obtain ⟨ov, q1, p, vs, rfl, hp, hh, da⟩ := r.slot i _ hs
  refine ⟨fun j a => j ≠ i ∧ own j a, ?_⟩
  have sub : ∀ a, Hd.O ⟨O0, fun j a => j ≠ i ∧ own j a, gs⟩ a → Hd.O ⟨O0, own, gs⟩ a := fun a z => by
    rcases z with z | ⟨j, _, z⟩
    · exact .inl z
    · exact .inr ⟨j, z⟩
  have no : ¬ Hd.O ⟨O0, fun j a => j ≠ i ∧ own j a, gs⟩ p := fun z => by
    rcases z with z | ⟨j, h1, z⟩
    · obtain ⟨o, q⟩ := r.sub p z
      rw [r.fresh i p hp] at q
      cases q
    · exact h1 (r.dis j i p z hp)
  refine ⟨r.same, r.sub, fun j a z => r.fresh j a z.2, fun j a z => r.dom j a z.2, fun j k a z1 z2 => r.dis j k a z1.2 z2.2, by rw [List.length_set]; exact r.len, fun j s e => ?_, fun g m => Dr.mono (hide_more sub) _ _ (r.gh g m)⟩
  rcases get_set e with ⟨e1, e2, e3⟩ | ⟨e1, e2⟩
  · subst e1 e2
    exact ⟨_, q1, _, rfl, .lst (by rw [hide_out no]; exact hh) (DrAll.mono (hide_more sub) _ vs da)⟩
  · obtain ⟨ov, q1, q2⟩ := r.slot j s e2
    refine ⟨ov, q1, ?_⟩
    have q3 := q2.mono (H' := H) (hide_more sub) fun p o _ y => y
    cases s with
    | un => trivial
    | sh d => exact q3
    | ow m =>
      obtain ⟨a, ws, f1, f2, f3, f4⟩ := q3
      exact ⟨a, ws, f1, ⟨Ne.symm e1, f2⟩, f3, f4⟩
    | o2 m =>
      obtain ⟨a, ws, f1, f2, f3, f4⟩ := q3
      exact ⟨a, ws, f1, ⟨Ne.symm e1, f2⟩, f3, f4.mono (Same.refl _) (fun _ _ _ _ y => y) fun b y _ => ⟨Ne.symm e1, y⟩⟩
/-- .. its lists too -/
theorem Rep.freeze2 (r : Rep K H0 ⟨O0, own, gs⟩ H G σ) {i : Nat} {ll : List (List D)} (hs : G[i]? = some (.o2 ll)) : ∃ own', Rep K H0 ⟨O0, own', gs⟩ H (G.set i (.sh (.lst (ll.map D.lst)))) σ := by
  obtain ⟨ov, q1, p, qs, rfl, hp, hh, ns⟩ := r.slot i _ hs
  refine ⟨fun j a => j ≠ i ∧ own j a, ?_⟩
  have sub : ∀ a, Hd.O ⟨O0, fun j a => j ≠ i ∧ own j a, gs⟩ a → Hd.O ⟨O0, own, gs⟩ a := fun a z => by
    rcases z with z | ⟨j, _, z⟩
    · exact .inl z
    · exact .inr ⟨j, z⟩
  have no : ∀ {b}, own i b → ¬ Hd.O ⟨O0, fun j a => j ≠ i ∧ own j a, gs⟩ b := fun {b} hb z => by
    rcases z with z | ⟨j, h1, z⟩
    · obtain ⟨o, q⟩ := r.sub b z
      rw [r.fresh i b hb] at q
      cases q
    · exact h1 (r.dis j i b z hb)
  refine ⟨r.same, r.sub, fun j a z => r.fresh j a z.2, fun j a z => r.dom j a z.2, fun j k a z1 z2 => r.dis j k a z1.2 z2.2, by rw [List.length_set]; exact r.len, fun j s e => ?_, fun g m => Dr.mono (hide_more sub) _ _ (r.gh g m)⟩
  rcases get_set e with ⟨e1, e2, e3⟩ | ⟨e1, e2⟩
  · subst e1 e2
    exact ⟨_, q1, _, rfl, .lst (by rw [hide_out (no hp)]; exact hh) (ns.dr (hide_more sub) fun q o hq _ y => by rw [hide_out (no hq)]; exact y)⟩
  · obtain ⟨ov, q1, q2⟩ := r.slot j s e2
    refine ⟨ov, q1, ?_⟩
    have q3 := q2.mono (H' := H) (hide_more sub) fun p o _ y => y
    cases s with
    | un => trivial
    | sh d => exact q3
    | ow m =>
      obtain ⟨a, ws, f1, f2, f3, f4⟩ := q3
      exact ⟨a, ws, f1, ⟨Ne.symm e1, f2⟩, f3, f4⟩
    | o2 m =>
      obtain ⟨a, ws, f1, f2, f3, f4⟩ := q3
      exact ⟨a, ws, f1, ⟨Ne.symm e1, f2⟩, f3, f4.mono (Same.refl _) (fun _ _ _ _ y => y) fun b y _ => ⟨Ne.symm e1, y⟩⟩
end
/-! ### blocks, choices, returns -/
def cNext : CS := fun G => .ok (.nx, G)
def cSeq (a b : CS) : CS := fun G => (a G).bind fun r => match r.1 with
  | .nx => b r.2
  | .ret p => .ok (.ret p, r.2)
def cIfS (t : CT) (a b : CS) : CS := fun G => (t G).bind fun x => if x = true then a G else b G
def PV.out : PV → PV
  | .bo l => .fr l
  | .b2 ll => .fr (ll.map D.lst)
  | p => p
@[simp] theorem out_st (d : D) : (PV.st d).out = .st d := rfl
@[simp] theorem out_fr (l : List D) : (PV.fr l).out = .fr l := rfl
@[simp] theorem out_bo (l : List D) : (PV.bo l).out = .fr l := rfl
@[simp] theorem out_b2 (l : List (List D)) : (PV.b2 l).out = .fr (l.map D.lst) := rfl
def cRet (c : CE) : CS := fun G => (c G).bind fun p => .ok (.ret p.out, G)
def cRetN : CS := fun G => .ok (.ret (.st .non), G)
def freezeAt (i : Nat) (G : Ev) : Ev := match G[i]? with
  | some (.ow l) => G.set i (.sh (.lst l))
  | some (.o2 ll) => G.set i (.sh (.lst (ll.map D.lst)))
  | _ => G
def cFreeze (i : Nat) (c : CS) : CS := fun G => c (freezeAt i G)
section
variable {K : PySem.W.Frag} {C : Addr} {E : XK}
theorem snds_next : SndS K C E tNext cNext := fun H0 O0 own gs G σ H D r q => q own σ H r
theorem snds_seq {t u : TS} {a b : CS} (sa : SndS K C E t a) (sb : SndS K C E u b) : SndS K C E (tSeq t u) (cSeq a b) := fun H0 O0 own gs G σ H D r q => by
  refine sa H0 O0 own gs G σ H _ r ?_
  unfold cSeq at q
  cases e : a G with
  | ex k p =>
    rw [e] at q
    exact q
  | bad =>
    rw [e] at q
    exact q
  | ok x =>
    rw [e] at q
    obtain ⟨f, G'⟩ := x
    cases f with
    | nx => exact fun own' σ' H' r' => sb H0 O0 own' gs G' σ' H' D r' q
    | ret pv => exact q
theorem snds_if {tt : TT} {t u : TS} {ct : CT} {a b : CS} (st : SndT K C E tt ct) (sa : SndS K C E t a) (sb : SndS K C E u b) : SndS K C E (tIfS tt t u) (cIfS ct a b) := fun H0 O0 own gs G σ H D r q => by
  refine st.imp (P := fun _ r => PostS K C E H0 O0 gs D r) r (fun _ _ z => z) (fun z => z) q fun x H1 sm r1 q1 => ?_
  cases x with
  | true => exact sa H0 O0 own gs G σ H1 D r1 q1
  | false => exact sb H0 O0 own gs G σ H1 D r1 q1
theorem ret_out {H0 H H1 : Hp} {O0 : Addr → Prop} {own : Nat → Addr → Prop} {gs : List (V × D)} {G : Ev} {σ : L2.St} {pv : PV} {v : V} (r : Rep K H0 ⟨O0, own, gs⟩ H G σ) (sm : Same H H1) (rv : PvR K ⟨O0, own, gs⟩ H H1 pv v) : PvR K (Hd.of O0) H0 H1 pv.out v := by
  have sub : ∀ a, (Hd.of O0).O a → Hd.O ⟨O0, own, gs⟩ a := fun a z => by
    rw [Hd.of_O] at z
    exact .inl z
  cases pv with
  | st d => exact Dr.mono (hide_more sub) d v rv
  | bo l =>
    obtain ⟨p, vs, e1, ⟨i, b⟩, e2, da⟩ := rv
    have n0 := r.fresh i p b
    have no : ¬ (Hd.of O0).O p := fun z => by
      rw [Hd.of_O] at z
      obtain ⟨o, q⟩ := r.sub p z
      rw [n0] at q
      cases q
    exact ⟨p, vs, e1, n0, no, e2, DrAll.mono (hide_more fun a z => z.elim (fun e => .inr ⟨i, e ▸ b⟩) (sub a)) _ vs da⟩
  | fr l =>
    obtain ⟨p, vs, e1, n, no, e2, da⟩ := rv
    exact ⟨p, vs, e1, r.same.free n, fun z => no (sub p z), e2, DrAll.mono (hide_more fun a z => z.elim .inl fun y => .inr (sub a y)) _ vs da⟩
  | b2 ll =>
    obtain ⟨p, qs, e1, ⟨i, b⟩, e2, ns⟩ := rv
    have free : ∀ q, Hd.B ⟨O0, own, gs⟩ q → ¬ (Hd.of O0).O q := fun q ⟨j, y⟩ z => by
      rw [Hd.of_O] at z
      obtain ⟨o, w⟩ := r.sub q z
      rw [r.fresh j q y] at w
      cases w
    refine ⟨p, _, e1, r.fresh i p b, free p ⟨i, b⟩, e2, ns.dr (hide_more fun a z => z.elim (fun e => .inr ⟨i, by rw [e]; exact b⟩) (sub a)) fun q o hq mq y => ?_⟩
    obtain ⟨_, nq, _⟩ := ns.mem q mq
    rw [hide_out fun z => z.elim nq (free q hq)]
    exact y
theorem snds_ret {te : TE} {c : CE} (s : Snd K C E te c) : SndS K C E (tRet te) (cRet c) := fun H0 O0 own gs G σ H D r q => by
  refine s H0 ⟨O0, own, gs⟩ G σ H _ r ?_
  unfold cRet at q
  cases e : c G with
  | ex k p =>
    rw [e] at q
    exact q
  | bad =>
    rw [e] at q
    exact q
  | ok pv =>
    rw [e] at q
    exact fun v H1 sm rv => q v H1 (r.same.trans sm) (ret_out r sm rv)
theorem snds_retN : SndS K C E tRetN cRetN := fun H0 O0 own gs G σ H D r q => q _ H r.same Dr.non
theorem snds_freeze {t : TS} {c : CS} (i : Nat) (s : SndS K C E t c) : SndS K C E t (cFreeze i c) := fun H0 O0 own gs G σ H D r q => by
  unfold cFreeze freezeAt at q
  split at q
  · rename_i l e
    obtain ⟨own', r'⟩ := r.freeze e
    exact s H0 O0 own' gs _ σ H D r' q
  · rename_i l e
    obtain ⟨own', r'⟩ := r.freeze2 e
    exact s H0 O0 own' gs _ σ H D r' q
  · exact s H0 O0 own gs G σ H D r q
end
section
variable {X : Cx} {C : Addr} {E : XK} {s : Stmt} {ss : List Stmt} {t u : TS} {a b : CS} {te : TE} {c : CE} {e : Expr} {pos : Pos}
theorem db_nil : DB X C E tNext cNext [] := ⟨pss_nil, snds_next⟩
theorem db_cons (h : DS X C E t a s) (k : DB X C E u b ss) : DB X C E (tSeq t u) (cSeq a b) (s :: ss) := ⟨pss_cons h.ps k.ps, snds_seq h.snd k.snd⟩
theorem db_one (h : DS X C E t a s) : DB X C E t a [s] := ⟨pss_one h.ps, h.snd⟩
theorem db_freeze (i : Nat) (h : DB X C E t a ss) : DB X C E t (cFreeze i a) ss := ⟨h.ps, snds_freeze i h.snd⟩
theorem ds_if {tt : TT} {ct : CT} {x y : List Stmt} (h : DT X C E tt ct e) (k : DB X C E t a x) (l : DB X C E u b y) : DS X C E (tIfS tt t u) (cIfS ct a b) (.If e x y pos) := ⟨ps_if h.pt k.ps l.ps, snds_if h.snd k.snd l.snd⟩
theorem ds_ret (h : DE X C E te c e) : DS X C E (tRet te) (cRet c) (.Return (some e) pos) := ⟨ps_ret h.pe, snds_ret h.snd⟩
theorem ds_retN : DS X C E tRetN cRetN (.Return none pos) := ⟨ps_retN, snds_retN⟩
theorem ds_drop (h : DE X C E te c e) (hs : swapsWith e none pos.line X.env = pure false := by rfl) : DS X C E (tDrop te) (fun G => (c G).bind fun _ => .ok (.nx, G)) (.Expr e pos) := by
  refine ⟨ps_expr h.pe hs, fun H0 O0 own gs G σ H D r q => ?_⟩
  refine h.snd H0 ⟨O0, own, gs⟩ G σ H _ r ?_
  cases e1 : c G with
  | ex k p =>
    rw [e1] at q
    exact q
  | bad =>
    rw [e1] at q
    exact q
  | ok pv =>
    rw [e1] at q
    exact fun v H1 sm rv => q own σ H1 (r.grow sm)
/-! name = value -/
def cSet (i : Nat) (c : CE) : CS := fun G => (c G).bind fun p => p.toD.bind fun d => .ok (.nx, G.set i (.sh d))
def cOwn (i : Nat) (c : CE) : CS := fun G => (c G).bind fun p => match p with
  | .fr l => .ok (.nx, G.set i (.ow l))
  | _ => .bad
theorem snds_set {i : Nat} (h : Snd X.K C E te c) : SndS X.K C E (tAsg te (gName i)) (cSet i c) := fun H0 O0 own gs G σ H D r q => by
  refine h H0 ⟨O0, own, gs⟩ G σ H _ r ?_
  unfold cSet at q
  cases e1 : c G with
  | ex k p =>
    rw [e1] at q
    exact q
  | bad =>
    rw [e1] at q
    exact q
  | ok pv =>
    rw [e1] at q
    have q2 : PostS X.K C E H0 O0 gs D (pv.toD.bind fun d => .ok (.nx, G.set i (.sh d))) := q
    cases e2 : pv.toD with
    | ex i j => exact absurd e2 (noex_toD pv i j)
    | bad =>
      rw [e2] at q2
      exact q2.elim
    | ok d =>
      rw [e2] at q2
      exact fun v H1 sm rv => q2 own _ H1 ((r.grow sm).share (rv.toD e2))
theorem snds_own {i : Nat} (h : Snd X.K C E te c) : SndS X.K C E (tAsg te (gName i)) (cOwn i c) := fun H0 O0 own gs G σ H D r q => by
  refine h H0 ⟨O0, own, gs⟩ G σ H _ r ?_
  unfold cOwn at q
  cases e1 : c G with
  | ex k p =>
    rw [e1] at q
    exact q
  | bad =>
    rw [e1] at q
    exact q
  | ok pv =>
    rw [e1] at q
    cases pv with
    | st d => exact q.elim
    | bo d => exact q.elim
    | b2 d => exact q.elim
    | fr l =>
      intro v H1 sm rv
      obtain ⟨own', r'⟩ := r.take (i := i) sm rv
      exact q own' _ H1 r'
theorem ds_set {i : Nat} {x : Str} {pos' : Pos} (hN : X.N.Nodup) (hi : X.N[i]? = some x) (hx : Loc X.env.scope x) (h : DE X C E te c e) (hs : swapsWith e (some (.Name x pos')) pos.line X.env = pure false := by rfl) (hf : X.fn x = true ∨ X.env.scope.names.lookup x = some .local := by first | exact .inl rfl | exact .inr rfl) :
    DS X C E (tAsg te (gName i)) (cSet i c) (.Assign [.Name x pos'] e pos) := ⟨ps_set hN hi hx h.pe hs hf, snds_set h.snd⟩
theorem ds_own {i : Nat} {x : Str} {pos' : Pos} (hN : X.N.Nodup) (hi : X.N[i]? = some x) (hx : Loc X.env.scope x) (h : DE X C E te c e) (hs : swapsWith e (some (.Name x pos')) pos.line X.env = pure false := by rfl) (hf : X.fn x = true ∨ X.env.scope.names.lookup x = some .local := by first | exact .inl rfl | exact .inr rfl) :
    DS X C E (tAsg te (gName i)) (cOwn i c) (.Assign [.Name x pos'] e pos) := ⟨ps_set hN hi hx h.pe hs hf, snds_own h.snd⟩
/-! name op= value -/
def cAug (i : Nat) (g : PV → PV → R PV) (c : CE) : CS := fun G => match G[i]? with
  | some (.sh d) => (c G).bind fun p => (g (.st d) p).bind fun z => z.toD.bind fun y => .ok (.nx, G.set i (.sh y))
  | _ => .bad
theorem ds_aug {i : Nat} {x : Str} {op : Operator} {ti : R2} {g : PV → PV → R PV} {pos' : Pos} (hN : X.N.Nodup) (hi : X.N[i]? = some x) (hx : Loc X.env.scope x) (h : DE X C E te c e) (ho : OpR X (inplaceOp op) ti) (o : Op2 X.K ti g) (n : ∀ p q, NoEx (g p q))
    (hf : X.fn x = true ∨ X.env.scope.names.lookup x = some .local := by first | exact .inl rfl | exact .inr rfl) : DS X C E (tAug i te ti) (cAug i g c) (.AugAssign (.Name x pos') op e pos) := by
  refine ⟨ps_aug hN hi hx h.pe ho hf, fun H0 O0 own gs G σ H D r q => ?_⟩
  unfold cAug at q
  split at q
  · rename_i d ed
    obtain ⟨ov, q1, v, rfl, rd⟩ := r.slot i _ ed
    refine ⟨v, q1, ?_⟩
    refine h.snd H0 ⟨O0, own, gs⟩ G σ H _ r ?_
    cases e1 : c G with
    | ex k p =>
      rw [e1] at q
      exact q
    | bad =>
      rw [e1] at q
      exact q
    | ok pv =>
      rw [e1] at q
      intro w H1 sm rw'
      have r1 := r.grow sm
      have rd1 : PvR X.K ⟨O0, own, gs⟩ H H1 (.st d) v := Dr.mono (hide_same sm fun a z => .inl z) d v rd
      have q2 : PostS X.K C E H0 O0 gs D ((g (.st d) pv).bind fun z => z.toD.bind fun y => .ok (.nx, G.set i (.sh y))) := q
      refine o ⟨O0, own, gs⟩ H H H1 _ v w (.st d) pv r1.odom rd1 rw' ?_
      cases e2 : g (.st d) pv with
      | ex i j => exact absurd e2 (n _ _ i j)
      | bad =>
        rw [e2] at q2
        exact q2.elim
      | ok z =>
        rw [e2] at q2
        have q3 : PostS X.K C E H0 O0 gs D (z.toD.bind fun y => .ok (.nx, G.set i (.sh y))) := q2
        cases e3 : z.toD with
        | ex i j => exact absurd e3 (noex_toD z i j)
        | bad =>
          rw [e3] at q3
          exact q3.elim
        | ok y =>
          rw [e3] at q3
          exact fun u H2 sm2 ru => q3 own _ H2 ((r1.grow sm2).share (ru.toD e3))
  · exact q.elim
end
end BT
/-! A list's own methods, stores by place, targets, loops. -/
namespace BT
open PySem PySem.Spec PyProof.Rows L2
/-! ### extend by a tuple -/
theorem extend_tup (l : Addr) (items : Array Value) (n : Nat) (b : Addr) (items2 : Array Value) (n2 : Nat) (od : Option Addr) (osl : Array (Option Value))
    (h0 : ¬(!items.isEmpty && Builtin.List.listTooLong (items.size + items2.size)) = true) (h1 : items.size ≤ sizeLine) (h2 : items.size + items2.size ≤ sizeLine + 1) :
    Meets (Builtin.«list.extend» ⟨[.ref l, .ref b], []⟩) (fun _ R s => s.heap.get? l = some { cls := .type "list", dict := none, data := .seq items n, slots := #[] } ∧
      s.heap.get? b = some { cls := .type "tuple", dict := od, data := .seq items2 n2, slots := osl } ∧ R (.ok (.ret Value.none)) { s with heap := s.heap.update l (Obj.mapSeq fun x => x ++ items2), toks := s.toks }) :=
  .of_wp fun prog w A R s h => by
    obtain ⟨hp, g, d, tk, os⟩ := s
    obtain ⟨hl, hb, h⟩ := h
    have f1 := AutoSeq1.idx_int
    have f2 := AutoSeq1.sub_tuple_tuple
    have f3 := AutoSeq1.sub_list_list
    have f4 := AutoSeq1.sub_tuple_list
    have f5 := AutoSeq1.sub_list_tuple
    have hz' : (items ++ items2).size ≤ sizeLine + 1 := by
      rw [Array.size_append]
      exact h2
    wp_walk using (wpAny_updateSeq hl rfl (hz := h1) (_hz' := hz')), AutoSeq1.wpAny_loadPart' hl, AutoSeq1.wpAny_loadPart' hb
    exact ⟨_, rfl, h⟩
def rExtT (K : PySem.W.Frag) : V → List V → Hp → VK → Prop := fun x vs H Q => ∃ l b xs zs, x = .ref l ∧ vs = [.ref b] ∧ H l = some (.lst xs) ∧ SqT K H b zs ∧ xs.length + zs.length ≤ sizeLine ∧ Q .non (upd H l (.lst (xs ++ zs)))
theorem mt_extT {X : Cx} : MtR X "list.extend" (rExtT X.K) := by
  intro pins s σ H x vs v us Q I rx rv h
  obtain ⟨l, b, xs, zs, rfl, rfl, hH, hB, hz, q⟩ := h
  cases rx
  obtain ⟨u, rfl, ru⟩ := rv.one
  cases ru
  obtain ⟨_, its, n, r, hl, e⟩ := I.lstM hH
  obtain ⟨its2, r2, ⟨ob, e2, hc, n2, hd⟩, _⟩ := I.tuple hB
  obtain ⟨oc, od, dt, osl⟩ := ob
  cases hc
  cases hd
  have hl2 := r2.length
  have small : its.toArray.size + its2.toArray.size ≤ sizeLine := by
    rw [List.size_toArray, List.size_toArray]
    omega
  have door : ¬ (!its.toArray.isEmpty && Builtin.List.listTooLong (its.toArray.size + its2.toArray.size)) = true := by
    rw [notLongL small, Bool.and_false]
    exact Bool.false_ne_true
  refine call_meets F.slot_list_extend ⟨_, e, rfl⟩ F.entry_list_extend (F.args_list_extend_2 _ _) (extend_tup l its.toArray n b its2.toArray n2 od osl door (by rw [List.size_toArray]; omega) (by omega)) ⟨e, e2, ?_⟩
  refine ⟨.non, _, I.lset (its' := its ++ its2) hH e (by simp) (r.append r2) ?_, rfl, q⟩
  rw [List.length_append]
  omega
def rExtA (K : PySem.W.Frag) : V → List V → Hp → VK → Prop := fun x xs H Q => rExtend x xs H Q ∨ rExtT K x xs H Q
theorem mt_extA {X : Cx} : MtR X "list.extend" (rExtA X.K) := MtR.or mt_extend mt_extT
/-! ### a slot's own list: append, extend, a store by place -/
def cAppend (i : Nat) (c : CE) : CS := fun G => match G[i]? with
  | some (.ow l) => (c G).bind fun p => p.toD.bind fun d => if l.length < 16777216 then .ok (.nx, G.set i (.ow (l ++ [d]))) else .bad
  | _ => .bad
def seqD : D → Option (List D)
  | .lst l => some l
  | .tup l => some l
  | _ => none
def cExtend (i : Nat) (c : CE) : CS := fun G => match G[i]? with
  | some (.ow l) => (c G).bind fun p => match seqD p.d with
    | some m => if l.length + m.length ≤ 16777216 then .ok (.nx, G.set i (.ow (l ++ m))) else .bad
    | none => .bad
  | _ => .bad
def cSetIx (i : Nat) (ci c : CE) : CS := fun G => (c G).bind fun p => p.toD.bind fun d => match G[i]? with
  | some (.ow l) => (ci G).bind fun k => match k.d with
    | .int z => (match ixN l.length z with
      | some j => .ok (.nx, G.set i (.ow (l.set j d)))
      | none => .bad)
    | _ => .bad
  | _ => .bad
section
variable {X : Cx} {C : Addr} {E : XK} {te ti : TE} {c ci : CE} {e ei : Expr} {x : Str} {p0 apos cpos pos : Pos}
theorem Rep.owned {K : PySem.W.Frag} {H0 H : Hp} {h : Hd} {G : Ev} {σ : L2.St} (r : Rep K H0 h H G σ) {i : Nat} {l : List D} (e : G[i]? = some (.ow l)) : ∃ p vs, σ[i]? = some (some (.ref p)) ∧ h.own i p ∧ H p = some (.lst vs) ∧ DrAll K (hide h.O H) vs l := by
  obtain ⟨ov, q1, p, vs, rfl, h1, h2, h3⟩ := r.slot i _ e
  exact ⟨p, vs, q1, h1, h2, h3⟩
theorem ds_append (i : Nat) (h : DE X C E te c e) (hN : X.N[i]? = some x := by rfl) (hv : Vis X.env.scope x := by first | exact Or.inl rfl | exact Or.inr (Or.inl rfl) | exact Or.inr (Or.inr rfl)) (hd : (x == ("__debug__" : Str)) = false := by decide) (hc : (x == ("__classdict__" : Str)) = false := by decide)
    (hbase : attributeBase (.Name x p0) "append" X.env (eval (.Name x p0) X.env) = eval (.Name x p0) X.env := by rfl)
    (hfew : ((backTo cpos (starEach [e] X.env)).all (fun x => !x.1) && (backToKw cpos (keywordEach [] X.env)).all (fun x => x.1.isSome) && decide ([e].length + ([] : List Keyword).length + (if ([] : List Keyword).isEmpty then 0 else 1) < 30)) = true := by rfl)
    (hline : (apos.endLine == cpos.line) = true := by rfl) (hs : starEach (e :: []) X.env = (false, eval e X.env) :: starEach [] X.env := by rfl) (hplain : (backTo cpos (starEach [] X.env)).any (·.1) = false := by rfl)
    (hsw : swapsWith (.Call (.Attribute (.Name x p0) "append" apos) [e] [] cpos) none pos.line X.env = pure false := by rfl) :
    DS X C E (tDrop (tBM X.K "list" rAppend (tVar i) (tCons te tNil))) (cAppend i c) (.Expr (.Call (.Attribute (.Name x p0) "append" apos) [e] [] cpos) pos) := by
  refine ⟨ps_expr (pe_bm PySem.F.plainAttrs_list PySem.F.slot_list_append PySem.F.type_list_append mt_append (pe_var hN hv hd hc) (pa_cons h.pe pa_nil hs) hbase hfew hline hs hplain) hsw, fun H0 O0 own gs G σ H D r q => ?_⟩
  unfold cAppend at q
  split at q
  · rename_i l el
    obtain ⟨p, vs, q1, h1, h2, h3⟩ := r.owned el
    refine ⟨_, q1, .inl ⟨rfl, vs, .of h2⟩, ?_⟩
    refine h.snd H0 ⟨O0, own, gs⟩ G σ H _ r ?_
    cases e1 : c G with
    | ex k p =>
      rw [e1] at q
      exact q
    | bad =>
      rw [e1] at q
      exact q
    | ok pv =>
      rw [e1] at q
      intro w H1 sm rw'
      have q2 : PostS X.K C E H0 O0 gs D (pv.toD.bind fun d => if l.length < 16777216 then .ok (.nx, G.set i (.ow (l ++ [d]))) else .bad) := q
      cases e2 : pv.toD with
      | ex i j => exact absurd e2 (noex_toD pv i j)
      | bad =>
        rw [e2] at q2
        exact q2.elim
      | ok d =>
        rw [e2] at q2
        have q3 : PostS X.K C E H0 O0 gs D (if l.length < 16777216 then .ok (.nx, G.set i (.ow (l ++ [d]))) else .bad) := q2
        by_cases hz : l.length < 16777216
        · rw [if_pos hz] at q3
          refine ⟨p, vs, w, rfl, rfl, sm p _ h2, by rw [line_eq, h3.len]; exact hz, ?_⟩
          have da := DrAll.mono (hide_same sm fun a z => .inl z) _ _ h3
          exact q3 own σ _ ((r.grow sm).mut el h1 q1 (da.app (.cons (rw'.toD e2) .nil)))
        · rw [if_neg hz] at q3
          exact q3.elim
  · exact q.elim
theorem ds_extend (i : Nat) (h : DE X C E te c e) (hN : X.N[i]? = some x := by rfl) (hv : Vis X.env.scope x := by first | exact Or.inl rfl | exact Or.inr (Or.inl rfl) | exact Or.inr (Or.inr rfl)) (hd : (x == ("__debug__" : Str)) = false := by decide) (hc : (x == ("__classdict__" : Str)) = false := by decide)
    (hbase : attributeBase (.Name x p0) "extend" X.env (eval (.Name x p0) X.env) = eval (.Name x p0) X.env := by rfl)
    (hfew : ((backTo cpos (starEach [e] X.env)).all (fun x => !x.1) && (backToKw cpos (keywordEach [] X.env)).all (fun x => x.1.isSome) && decide ([e].length + ([] : List Keyword).length + (if ([] : List Keyword).isEmpty then 0 else 1) < 30)) = true := by rfl)
    (hline : (apos.endLine == cpos.line) = true := by rfl) (hs : starEach (e :: []) X.env = (false, eval e X.env) :: starEach [] X.env := by rfl) (hplain : (backTo cpos (starEach [] X.env)).any (·.1) = false := by rfl)
    (hsw : swapsWith (.Call (.Attribute (.Name x p0) "extend" apos) [e] [] cpos) none pos.line X.env = pure false := by rfl) :
    DS X C E (tDrop (tBM X.K "list" (rExtA X.K) (tVar i) (tCons te tNil))) (cExtend i c) (.Expr (.Call (.Attribute (.Name x p0) "extend" apos) [e] [] cpos) pos) := by
  refine ⟨ps_expr (pe_bm PySem.F.plainAttrs_list PySem.F.slot_list_extend PySem.F.type_list_extend mt_extA (pe_var hN hv hd hc) (pa_cons h.pe pa_nil hs) hbase hfew hline hs hplain) hsw, fun H0 O0 own gs G σ H D r q => ?_⟩
  unfold cExtend at q
  split at q
  · rename_i l el
    obtain ⟨p, vs, q1, h1, h2, h3⟩ := r.owned el
    refine ⟨_, q1, .inl ⟨rfl, vs, .of h2⟩, ?_⟩
    refine h.snd H0 ⟨O0, own, gs⟩ G σ H _ r ?_
    cases e1 : c G with
    | ex k p =>
      rw [e1] at q
      exact q
    | bad =>
      rw [e1] at q
      exact q
    | ok pv =>
      rw [e1] at q
      intro w H1 sm rw'
      have q2 : PostS X.K C E H0 O0 gs D (match seqD pv.d with
        | some m => if l.length + m.length ≤ 16777216 then .ok (.nx, G.set i (.ow (l ++ m))) else .bad
        | none => .bad) := q
      split at q2
      · rename_i m em
        by_cases hz : l.length + m.length ≤ 16777216
        · rw [if_pos hz] at q2
          have da := DrAll.mono (hide_same sm fun a z => .inl z) _ _ h3
          have fin : ∀ ws, DrAll X.K (hide (Hd.O ⟨O0, own, gs⟩) H1) ws m → D.nx σ (upd H1 p (.lst (vs ++ ws))) := fun ws dw => q2 own σ _ ((r.grow sm).mut el h1 q1 (da.app dw))
          generalize ed : pv.d = dv at em
          cases dv with
          | lst k =>
            cases em
            obtain ⟨b, ws, rfl, hb, dw⟩ := rw'.lst (lstOf_of ed)
            exact .inl ⟨p, b, vs, ws, rfl, rfl, sm p _ h2, hb, by rw [line_eq, h3.len, dw.len]; exact hz, fin ws dw⟩
          | tup k =>
            cases em
            obtain ⟨b, ws, rfl, hb, dw, _⟩ := rw'.tup ed
            exact .inr ⟨p, b, vs, ws, rfl, rfl, sm p _ h2, hb, by rw [line_eq, h3.len, dw.len]; exact hz, fin ws dw⟩
          | _ => cases em
        · rw [if_neg hz] at q2
          exact q2.elim
      · exact q2.elim
  · exact q.elim
theorem ds_setIx (i : Nat) {pt pn : Pos} (h : DE X C E te c e) (k : DE X C E ti ci ei) (hN : X.N[i]? = some x := by rfl) (hv : Vis X.env.scope x := by first | exact Or.inl rfl | exact Or.inr (Or.inl rfl) | exact Or.inr (Or.inr rfl)) (hd : (x == ("__debug__" : Str)) = false := by decide) (hc : (x == ("__classdict__" : Str)) = false := by decide)
    (ha : ∀ v, assign (.Subscript (.Name x pn) ei pt) X.env v = (do
      let ov ← holding [v] (eval (.Name x pn) X.env)
      let iv ← holding [v, ov] (eval ei X.env)
      standAt pt
      holding [v, ov, iv] (setItem ov iv v)
      release [v, ov, iv] []) := by intro _; rfl)
    (hs : swapsWithSole [.Subscript (.Name x pn) ei pt] e pos.line X.env = pure false := by rfl) (hw : swappedStores [.Subscript (.Name x pn) ei pt] e X.env = pure none := by rfl)
    (h1 : (assignEach [.Subscript (.Name x pn) ei pt] X.env).map (·.2) = [assign (.Subscript (.Name x pn) ei pt) X.env] := by rfl) :
    DS X C E (tAsg te (gSub (tVar i) ti rSetL)) (cSetIx i ci c) (.Assign [.Subscript (.Name x pn) ei pt] e pos) := by
  refine ⟨ps_asg h.pe (pg_sub (pe_var hN hv hd hc) k.pe set_list ha) hs hw h1, fun H0 O0 own gs G σ H D r q => ?_⟩
  refine h.snd H0 ⟨O0, own, gs⟩ G σ H _ r ?_
  unfold cSetIx at q
  cases e1 : c G with
  | ex k p =>
    rw [e1] at q
    exact q
  | bad =>
    rw [e1] at q
    exact q
  | ok pv =>
    rw [e1] at q
    intro w H1 sm rw'
    rw [R.bind_ok] at q
    cases e2 : pv.toD with
    | ex i j => exact absurd e2 (noex_toD pv i j)
    | bad =>
      rw [e2] at q
      exact q.elim
    | ok d =>
      rw [e2, R.bind_ok] at q
      split at q
      · rename_i l el
        have r1 := r.grow sm
        obtain ⟨p, vs, q1, g1, g2, g3⟩ := r1.owned el
        refine ⟨_, q1, ?_⟩
        refine k.snd H0 ⟨O0, own, gs⟩ G σ H1 _ r1 ?_
        cases e3 : ci G with
        | ex k p =>
          rw [e3] at q
          exact q
        | bad =>
          rw [e3] at q
          exact q
        | ok pk =>
          rw [e3, R.bind_ok] at q
          intro u H2 sm2 ru
          split at q
          · rename_i z ez
            split at q
            · rename_i j ej
              have da := DrAll.mono (hide_same sm2 fun a z => .inl z) _ _ g3
              have dd := (rw'.grow sm2).toD e2
              refine ⟨p, vs, z, j, rfl, ru.int ez, sm2 p _ g2, by rw [g3.len]; exact ej, ?_⟩
              exact q own σ _ ((r1.grow sm2).mut el g1 q1 (da.set dd j))
            · exact q.elim
          · exact q.elim
      · exact q.elim
end
/-! ### targets -/
abbrev CG := D → Ev → R Ev
theorem wipe_set {σ : L2.St} {i : Nat} {x : Option V} : ∀ {vs : List Nat}, i ∈ vs → wipe (σ.set i x) vs = wipe σ vs
  | [], h => by cases h
  | v :: vs, h => by
    show (wipe (σ.set i x) vs).set v none = (wipe σ vs).set v none
    by_cases e : i ∈ vs
    · rw [wipe_set e]
    · rcases List.mem_cons.mp h with e2 | e2
      · subst e2
        have z : ∀ {ws : List Nat}, i ∉ ws → wipe (σ.set i x) ws = (wipe σ ws).set i x := by
          intro ws
          induction ws with
          | nil => intro _; rfl
          | cons w ws ih =>
            intro hw
            show (wipe (σ.set i x) ws).set w none = ((wipe σ ws).set w none).set i x
            rw [ih fun k => hw (List.mem_cons_of_mem _ k), List.set_comm _ _ fun k => hw (by rw [k]; exact List.mem_cons_self ..)]
        rw [z e, List.set_set]
      · exact absurd e2 e
/-- is: the slots that the target sets -/
def SndG (K : PySem.W.Frag) (tg : TG) (t : CG) (is : List Nat) : Prop := ∀ H0 O0 own gs G σ H v d Q, Rep K H0 ⟨O0, own, gs⟩ H G σ → Dr K (hide (Hd.O ⟨O0, own, gs⟩) H) v d → (match t d G with
  | .ok G' => ∀ σ', Rep K H0 ⟨O0, own, gs⟩ H G' σ' → (∀ vs, (∀ i ∈ is, i ∈ vs) → wipe σ' vs = wipe σ vs) → Q σ' H
  | _ => False) → tg v σ H Q
structure DG (X : Cx) (tg : TG) (t : CG) (is : List Nat) (e : Expr) : Prop where
  pg : PG X e tg
  snd : SndG X.K tg t is
def gnm (i : Nat) : CG := fun d G => .ok (G.set i (.sh d))
def setAll : List Nat → List D → Ev → Ev
  | i :: is, d :: ds, G => setAll is ds (G.set i (.sh d))
  | _, _, G => G
def gtp (is : List Nat) : CG := fun d G => match d with
  | .tup l => if l.length = is.length then .ok (setAll is l G) else .bad
  | _ => .bad
def gNames : List Nat → TGs
  | [] => gNil
  | i :: r => gCons (gName i) (gNames r)
section
variable {X : Cx} {pos : Pos} {e : Expr} {es : List Expr}
theorem dg_name {i : Nat} {x : Str} (hN : X.N.Nodup) (hi : X.N[i]? = some x) (hx : Loc X.env.scope x) (hf : X.fn x = true ∨ X.env.scope.names.lookup x = some .local := by first | exact .inl rfl | exact .inr rfl) : DG X (gName i) (gnm i) [i] (.Name x pos) :=
  ⟨pg_name hN hi hx hf, fun H0 O0 own gs G σ H v d Q r rd q => q _ (r.share rd) fun vs k => wipe_set (k i (List.mem_cons_self ..))⟩
/-- names in a row -/
structure DGs (X : Cx) (is : List Nat) (es : List Expr) : Prop where
  pgs : PGs X es (gNames is)
theorem dgs_nil : DGs X [] [] := ⟨pgs_nil⟩
theorem dgs_cons {i : Nat} {is : List Nat} {x : Str} (hN : X.N.Nodup) (hi : X.N[i]? = some x) (hx : Loc X.env.scope x) (k : DGs X is es) (hf : X.fn x = true ∨ X.env.scope.names.lookup x = some .local := by first | exact .inl rfl | exact .inr rfl)
    (hs : (assignEach (.Name x pos :: es) X.env).map (·.2) = assign (.Name x pos) X.env :: (assignEach es X.env).map (·.2) := by rfl) : DGs X (i :: is) (.Name x pos :: es) := ⟨pgs_cons (pg_name hN hi hx hf) k.pgs hs⟩
theorem snd_names {K : PySem.W.Frag} {H0 : Hp} {O0 : Addr → Prop} {own : Nat → Addr → Prop} {gs : List (V × D)} {H : Hp} {Q : L2.St → Hp → Prop} : ∀ (is : List Nat) (l : List D) (vs : List V) (G : Ev) (σ : L2.St), Rep K H0 ⟨O0, own, gs⟩ H G σ → l.length = is.length → DrAll K (hide (Hd.O ⟨O0, own, gs⟩) H) vs l →
    (∀ σ', Rep K H0 ⟨O0, own, gs⟩ H (setAll is l G) σ' → (∀ vs, (∀ i ∈ is, i ∈ vs) → wipe σ' vs = wipe σ vs) → Q σ' H) → gNames is vs σ H Q
  | [], [], _, G, σ, r, _, da, q => by
    cases da
    exact ⟨rfl, q σ r fun _ _ => rfl⟩
  | [], _ :: _, _, _, _, _, h, _, _ => by cases h
  | _ :: _, [], _, _, _, _, h, _, _ => by cases h
  | i :: is, d :: ds, _, G, σ, r, h, da, q => by
    cases da with
    | cons h1 h2 => exact ⟨_, _, rfl, snd_names is ds _ _ _ (r.share h1) (Nat.succ.inj h) h2 fun σ' r' k => q σ' r' fun vs m => (k vs fun j hj => m j (List.mem_cons_of_mem _ hj)).trans (wipe_set (m i (List.mem_cons_self ..)))⟩
theorem dg_tup {k : Nat} {is : List Nat} (hc : X.calm = true) (h : DGs X is es) (hn : (assignEach es X.env).length = is.length := by rfl) (hst : (assignEach es X.env).findIdx? (·.1) = none := by rfl) : DG X (gTup X.K is.length (gNames is)) (gtp is) is (.Tuple es k pos) := by
  refine ⟨pg_tup hc h.pgs hn hst, fun H0 O0 own gs G σ H v d Q r rd q => ?_⟩
  unfold gtp at q
  cases d with
  | tup l =>
    by_cases hz : l.length = is.length
    · dsimp only at q
      rw [if_pos hz] at q
      cases rd with
      | tup hs da => exact ⟨_, _, rfl, same_seqT hide_le hs, by rw [da.len]; exact hz, snd_names is l _ G σ r hz da q⟩
    · dsimp only at q
      rw [if_neg hz] at q
      exact q.elim
  | _ => exact q.elim
end
/-- target = value -/
def cAsg (t : CG) (c : CE) : CS := fun G => (c G).bind fun p => p.toD.bind fun d => (t d G).bind fun G' => .ok (.nx, G')
def NoExG (t : CG) : Prop := ∀ d G, NoEx (t d G)
theorem noex_gnm (i : Nat) : NoExG (gnm i) := fun _ _ => noex_ok
theorem noex_gtp (is : List Nat) : NoExG (gtp is) := fun d G => by
  unfold gtp
  cases d <;> first | exact noex_bad | exact noex_ite noex_ok
section
variable {X : Cx} {C : Addr} {E : XK} {te : TE} {c : CE} {e et : Expr} {pos : Pos} {tg : TG} {t : CG}
theorem snds_asg {is : List Nat} (h : Snd X.K C E te c) (g : SndG X.K tg t is) (n : NoExG t) : SndS X.K C E (tAsg te tg) (cAsg t c) := fun H0 O0 own gs G σ H D r q => by
  refine h H0 ⟨O0, own, gs⟩ G σ H _ r ?_
  unfold cAsg at q
  cases e1 : c G with
  | ex k p =>
    rw [e1] at q
    exact q
  | bad =>
    rw [e1] at q
    exact q
  | ok pv =>
    rw [e1, R.bind_ok] at q
    intro v H1 sm rv
    cases e2 : pv.toD with
    | ex i j => exact absurd e2 (noex_toD pv i j)
    | bad =>
      rw [e2] at q
      exact q.elim
    | ok d =>
      rw [e2, R.bind_ok] at q
      refine g H0 O0 own gs G σ H1 v d _ (r.grow sm) (rv.toD e2) ?_
      cases e3 : t d G with
      | ex i j => exact absurd e3 (n d G i j)
      | bad =>
        rw [e3] at q
        exact q.elim
      | ok G' =>
        rw [e3] at q
        exact fun σ' r' _ => q own σ' H1 r'
theorem ds_asg {is : List Nat} (h : DE X C E te c e) (g : DG X tg t is et) (n : NoExG t) (hs : swapsWithSole [et] e pos.line X.env = pure false := by rfl) (hw : swappedStores [et] e X.env = pure none := by rfl) (h1 : (assignEach [et] X.env).map (·.2) = [assign et X.env] := by rfl) :
    DS X C E (tAsg te tg) (cAsg t c) (.Assign [et] e pos) := ⟨ps_asg h.pe g.pg hs hw h1, snds_asg h.snd g.snd n⟩
/-- a, b = x, y: two local names -/
def cPar (i j : Nat) (ca : CA) : CS := fun G => (ca G).bind fun ps => match ps with
  | [p, q] => p.toD.bind fun d => q.toD.bind fun d' => .ok (.nx, (G.set i (.sh d)).set j (.sh d'))
  | _ => .bad
theorem ds_par {i j : Nat} {x y : Str} {a b : Expr} {ta : TA} {ca : CA} {px py pt : Pos} {kt k2 pt2} (hc : X.calm = true) (hN : X.N.Nodup) (hi : X.N[i]? = some x) (hj : X.N[j]? = some y) (hij : i ≠ j) (hx : X.env.scope.names.lookup x = some .local) (hy : X.env.scope.names.lookup y = some .local) (h : DA X C E ta ca [a, b])
    (hw : swappedStores [.Tuple [.Name x px, .Name y py] kt pt] (.Tuple [a, b] k2 pt2) X.env = pure (some [x, y]) := by rfl) (hs : swapsWithSole [.Tuple [.Name x px, .Name y py] kt pt] (.Tuple [a, b] k2 pt2) pos.line X.env = pure false := by rfl) :
    DS X C E (tPar i j ta) (cPar i j ca) (.Assign [.Tuple [.Name x px, .Name y py] kt pt] (.Tuple [a, b] k2 pt2) pos) := by
  refine ⟨ps_par hc hN hi hj hij hx hy h.pa hw hs, fun H0 O0 own gs G σ H D r q => ?_⟩
  refine h.snd H0 ⟨O0, own, gs⟩ G σ H _ r ?_
  unfold cPar at q
  cases e1 : ca G with
  | ex k p =>
    rw [e1] at q
    exact q
  | bad =>
    rw [e1] at q
    exact q
  | ok ps =>
    rw [e1, R.bind_ok] at q
    intro vs H1 sm rv
    split at q
    · rename_i p p'
      obtain ⟨v, w, rfl, r1, r2⟩ := two_of rv
      cases e2 : p.toD with
      | ex i j => exact absurd e2 (noex_toD p i j)
      | bad =>
        rw [e2] at q
        exact q.elim
      | ok d =>
        rw [e2, R.bind_ok] at q
        cases e3 : p'.toD with
        | ex i j => exact absurd e3 (noex_toD p' i j)
        | bad =>
          rw [e3] at q
          exact q.elim
        | ok d' =>
          rw [e3] at q
          exact ⟨v, w, rfl, q own _ H1 (((r.grow sm).share (r1.toD e2)).share (r2.toD e3))⟩
    · exact q.elim
end
end BT
/-! What is walked; loops; list comprehensions. -/
namespace BT
open PySem PySem.Spec PyProof.Rows L2
/-- J walks the items l while g stands -/
structure WalkOf (K : PySem.W.Frag) (J : It) (g : V × D) (l : List D) : Prop where
  go : ∀ O H i, i < l.length → Dr K (hide O H) g.1 g.2 → J.go i H
  yld : ∀ O H i x H' d, l[i]? = some d → Dr K (hide O H) g.1 g.2 → Dom O H → J.yld i H x H' → Same H H' ∧ Dr K (hide O H') x d
  stop : ∀ O H, Dr K (hide O H) g.1 g.2 → J.stop l.length H
abbrev CI := Ev → R (List D)
def PostI (K : PySem.W.Frag) (C : Addr) (E : XK) (H0 : Hp) (h : Hd) (H : Hp) (Rr : It → Hp → Prop) : R (List D) → Prop
  | .ok l => ∀ J H1 g, Same H H1 → WalkOf K J g l → Dr K (hide h.O H1) g.1 g.2 → Rr J H1
  | .ex k p => FX C H0 E k p
  | .bad => False
def SndI (K : PySem.W.Frag) (C : Addr) (E : XK) (wi : TI) (c : CI) : Prop := ∀ H0 h G σ H Rr, Rep K H0 h H G σ → PostI K C E H0 h H Rr (c G) → wi σ H Rr
structure DI (X : Cx) (C : Addr) (E : XK) (tg : Expr) (wi : TI) (c : CI) (e : Expr) : Prop where
  pi : PI X tg e wi
  snd : SndI X.K C E wi c
/-! ### a list or a tuple -/
section
variable {K : PySem.W.Frag}
theorem walk_lst {a : Addr} {l : List D} : WalkOf K (Itl K a) (.ref a, .lst l) l where
  go := fun O H i hi r => by
    cases r with
    | lst hs da =>
      obtain ⟨v, hv, _⟩ := da.get (List.getElem?_eq_getElem hi)
      exact ⟨_, v, .of (hide_le _ _ hs), hv⟩
  yld := fun O H i x H' d hd r dm y => by
    obtain ⟨e, y⟩ := y
    subst e
    cases r with
    | lst hs da =>
      obtain ⟨v, hv, rv⟩ := da.get hd
      rw [y _ (.of (hide_le _ _ hs))] at hv
      cases hv
      exact ⟨Same.refl _, rv⟩
  stop := fun O H r => by
    cases r with
    | lst hs da => exact ⟨_, .of (hide_le _ _ hs), by rw [da.len]; exact Nat.le_refl _⟩
theorem walk_arg {a : Addr} {l : List Int} : WalkOf K (Itl K a) (.ref a, .arg l) (l.map D.int) where
  go := fun O H i hi r => by
    cases r with
    | arg hs =>
      rw [List.length_map] at hi
      exact ⟨_, .int l[i], hide_le.seq hs, by rw [List.getElem?_map, List.getElem?_eq_getElem hi]; rfl⟩
  yld := fun O H i x H' d hd r dm y => by
    obtain ⟨e, y⟩ := y
    subst e
    cases r with
    | arg hs =>
      have q := y _ (hide_le.seq hs)
      rw [List.getElem?_map] at hd q
      cases e : l[i]? with
      | none =>
        rw [e] at hd
        cases hd
      | some n =>
        rw [e] at hd q
        cases hd
        cases q
        exact ⟨Same.refl _, .int n⟩
  stop := fun O H r => by
    cases r with
    | arg hs => exact ⟨_, hide_le.seq hs, by rw [List.length_map, List.length_map]; exact Nat.le_refl _⟩
theorem walk_tpl {a : Addr} {l : List D} : WalkOf K (Itt K a) (.ref a, .tup l) l where
  go := fun O H i hi r => by
    cases r with
    | tup hs da =>
      obtain ⟨v, hv, _⟩ := da.get (List.getElem?_eq_getElem hi)
      exact ⟨_, v, same_seqT hide_le hs, hv⟩
  yld := fun O H i x H' d hd r dm y => by
    obtain ⟨e, y⟩ := y
    subst e
    cases r with
    | tup hs da =>
      obtain ⟨v, hv, rv⟩ := da.get hd
      rw [y _ (same_seqT hide_le hs)] at hv
      cases hv
      exact ⟨Same.refl _, rv⟩
  stop := fun O H r => by
    cases r with
    | tup hs da => exact ⟨_, same_seqT hide_le hs, by rw [da.len]; exact Nat.le_refl _⟩
end
def iSeq (K : PySem.W.Frag) (tl : TE) : TI := fun σ H Rr => tl σ H fun x H1 => ∃ a, x = .ref a ∧ (((∃ xs, SqL K H1 a xs) ∧ Rr (Itl K a) H1) ∨ ((∃ xs, SqT K H1 a xs) ∧ Rr (Itt K a) H1))
theorem pi_seq {X : Cx} {tg l : Expr} {tl : TE} (hl : PE X l tl) : PI X tg l (iSeq X.K tl) := by
  refine ⟨fun pins s σ H Rr I h => thn (hl.run pins s σ H _ I h) fun v s1 ⟨x, H1, I1, r1, a, ex, q1⟩ => ?_⟩
  subst ex
  cases r1
  have put : ∀ o, Inv X pins σ H1 { s1 with heap := s1.heap.push o } := fun o => I1.kept (t' := s1.toks) fun _ _ z => Heap.get?_push_of_some o z
  have own : ∀ b ∈ [s1.heap.objs.size], FpOk X pins H1 b := fun b hb => by
    have eb : b = s1.heap.objs.size := by simpa using hb
    rw [eb]
    exact I1.fpOk (Nat.le_refl _) (I1.hok.fresh (Nat.le_refl _))
  rcases q1 with ⟨⟨xs, hq⟩, q⟩ | ⟨⟨xs, hq⟩, q⟩
  · obtain ⟨its, _, pl, _⟩ := I1.list hq
    exact wpAny_pyIter_list pl.isList ⟨_, [s1.heap.objs.size], _, _, H1, rfl, put _, turn_list a _, ⟨_, Heap.get?_push_size _ rfl, rfl, rfl⟩, own, q⟩
  · obtain ⟨its, _, pt, _⟩ := I1.tuple hq
    exact wpAny_pyIter_tuple (show s1.heap.IsTuple a its.toArray from pt) ⟨_, [s1.heap.objs.size], _, _, H1, rfl, put _, turn_tuple a _, ⟨_, Heap.get?_push_size _ rfl, rfl, rfl⟩, own, q⟩
/-- its items; a list that a slot owns is not walked -/
def walkD : D → Option (List D)
  | .lst l => some l
  | .tup l => some l
  | .arg ns => some (ns.map D.int)
  | _ => none
def cSeqI (c : CE) : CI := fun G => (c G).bind fun p => p.toD.bind fun d => match walkD d with
  | some l => .ok l
  | none => .bad
section
variable {X : Cx} {C : Addr} {E : XK} {tg e : Expr} {te : TE} {c : CE}
theorem di_seq (h : DE X C E te c e) : DI X C E tg (iSeq X.K te) (cSeqI c) e := by
  refine ⟨pi_seq h.pe, fun H0 hd G σ H Rr r q => ?_⟩
  refine h.snd H0 hd G σ H _ r ?_
  unfold cSeqI at q
  cases e1 : c G with
  | ex k p =>
    rw [e1] at q
    exact q
  | bad =>
    rw [e1] at q
    exact q
  | ok pv =>
    rw [e1, R.bind_ok] at q
    intro v H1 sm rv
    cases e2 : pv.toD with
    | ex i j => exact absurd e2 (noex_toD pv i j)
    | bad =>
      rw [e2] at q
      exact q.elim
    | ok d =>
      rw [e2, R.bind_ok] at q
      have rd := rv.toD e2
      cases d with
      | lst l =>
        cases rd with
        | lst hs da => exact ⟨_, rfl, .inl ⟨⟨_, .of (hide_le _ _ hs)⟩, q _ H1 _ sm walk_lst (.lst hs da)⟩⟩
      | tup l =>
        cases rd with
        | tup hs da => exact ⟨_, rfl, .inr ⟨⟨_, same_seqT hide_le hs⟩, q _ H1 _ sm walk_tpl (.tup hs da)⟩⟩
      | arg l =>
        cases rd with
        | arg hs => exact ⟨_, rfl, .inl ⟨⟨_, hide_le.seq hs⟩, q _ H1 _ sm walk_arg (.arg hs)⟩⟩
      | _ => exact q.elim
end
/-! ### ranges -/
def rangeL (a : Int) (n : Nat) : List D := (List.range n).map fun i => .int (a + (i : Nat))
theorem walk_rng {K : PySem.W.Frag} {a : Int} {n : Nat} : WalkOf K (Itr a n) (.non, .non) (rangeL a n) where
  go := fun O H i hi _ => by
    unfold rangeL at hi
    rw [List.length_map, List.length_range] at hi
    exact hi
  yld := fun O H i x H' d hd _ _ y => by
    obtain ⟨e, ex⟩ := y
    subst e ex
    refine ⟨Same.refl _, ?_⟩
    unfold rangeL at hd
    rw [List.getElem?_map] at hd
    cases e : (List.range n)[i]? with
    | none =>
      rw [e] at hd
      cases hd
    | some j =>
      rw [e] at hd
      cases hd
      obtain ⟨hj, ej⟩ := List.getElem?_eq_some_iff.mp e
      rw [List.getElem_range] at ej
      rw [← ej]
      exact .int _
  stop := fun O H _ => by
    show n ≤ (rangeL a n).length
    unfold rangeL
    rw [List.length_map, List.length_range]
    exact Nat.le_refl _
def fit62 (i : Int) : Bool := decide (-(2 ^ 62) ≤ i) && decide (i < 2 ^ 62)
def rng1 (p : PV) : R (List D) := match p.d with
  | .int j => if fit62 j = true then .ok (rangeL 0 j.toNat) else .bad
  | _ => .bad
def rng2 (p q : PV) : R (List D) := match p.d, q.d with
  | .int i, .int j => if (fit62 i && fit62 j) = true then .ok (rangeL i (j - i).toNat) else .bad
  | _, _ => .bad
def cRng1 (ca : CA) : CI := fun G => (ca G).bind fun ps => match ps with
  | [p] => rng1 p
  | _ => .bad
def cRng2 (ca : CA) : CI := fun G => (ca G).bind fun ps => match ps with
  | [p, q] => rng2 p q
  | _ => .bad
theorem fit62_iff {i : Int} (h : fit62 i = true) : -(2 ^ 62) ≤ i ∧ i < 2 ^ 62 := by
  unfold fit62 at h
  simpa using h
section
variable {X : Cx} {C : Addr} {E : XK} {tg a b : Expr} {ta : TA} {ca : CA} {p pos : Pos}
theorem di_range1 (hm : X.mg "range" = none) (h : DA X C E ta ca [a]) (hg : Gl X "range" := by rfl) (hs : starEach [a] X.env = [(false, eval a X.env)] := by rfl) : DI X C E tg (iRng1 ta) (cRng1 ca) (.Call (.Name "range" p) [a] [] pos) := by
  refine ⟨pi_range1 hg hm h.pa hs, fun H0 hd G σ H Rr r q => ?_⟩
  refine h.snd H0 hd G σ H _ r ?_
  unfold cRng1 at q
  cases e1 : ca G with
  | ex k p =>
    rw [e1] at q
    exact q
  | bad =>
    rw [e1] at q
    exact q
  | ok ps =>
    rw [e1, R.bind_ok] at q
    intro vs H1 sm rv
    split at q
    · rename_i p
      obtain ⟨v, rfl, r1⟩ := one_of rv
      unfold rng1 at q
      split at q
      · rename_i j ed
        by_cases z : fit62 j = true
        · rw [if_pos z] at q
          obtain ⟨z1, z2⟩ := fit62_iff z
          exact ⟨j, by rw [r1.int ed], z1, z2, q _ H1 (.non, .non) sm walk_rng .non⟩
        · rw [if_neg z] at q
          exact q.elim
      · exact q.elim
    · exact q.elim
theorem di_range2 (hm : X.mg "range" = none) (h : DA X C E ta ca [a, b]) (hg : Gl X "range" := by rfl) (hs : starEach [a, b] X.env = [(false, eval a X.env), (false, eval b X.env)] := by rfl) (hs2 : starEach [b] X.env = [(false, eval b X.env)] := by rfl) :
    DI X C E tg (iRng2 ta) (cRng2 ca) (.Call (.Name "range" p) [a, b] [] pos) := by
  refine ⟨pi_range2 hg hm h.pa hs hs2, fun H0 hd G σ H Rr r q => ?_⟩
  refine h.snd H0 hd G σ H _ r ?_
  unfold cRng2 at q
  cases e1 : ca G with
  | ex k p =>
    rw [e1] at q
    exact q
  | bad =>
    rw [e1] at q
    exact q
  | ok ps =>
    rw [e1, R.bind_ok] at q
    intro vs H1 sm rv
    split at q
    · rename_i p p'
      obtain ⟨v, w, rfl, r1, r2⟩ := two_of rv
      unfold rng2 at q
      split at q
      · rename_i i j e2 e3
        by_cases z : (fit62 i && fit62 j) = true
        · rw [if_pos z] at q
          obtain ⟨z1, z2⟩ := Bool.and_eq_true_iff.mp z
          obtain ⟨y1, y2⟩ := fit62_iff z1
          obtain ⟨y3, y4⟩ := fit62_iff z2
          exact ⟨i, j, by rw [r1.int e2, r2.int e3], ⟨y1, y2, y3, y4⟩, q _ H1 (.non, .non) sm walk_rng .non⟩
        · rw [if_neg z] at q
          exact q.elim
      · exact q.elim
    · exact q.elim
end
/-! ### a text, sign by sign -/
def signsOf (x : Str) : List D := x.cps.toList.map fun c => .str ⟨#[c]⟩
theorem walk_txt {K : PySem.W.Frag} {x : Str} : WalkOf K (Its x) (.non, .non) (signsOf x) where
  go := fun O H i hi _ => by
    unfold signsOf at hi
    rw [List.length_map, Array.length_toList] at hi
    exact hi
  yld := fun O H i v H' d hd _ _ y => by
    obtain ⟨e, c, hc, ev⟩ := y
    subst e ev
    refine ⟨Same.refl _, ?_⟩
    unfold signsOf at hd
    rw [List.getElem?_map, Array.getElem?_toList, hc] at hd
    cases hd
    exact .str _
  stop := fun O H _ => by
    show x.cps.size ≤ (signsOf x).length
    unfold signsOf
    rw [List.length_map, Array.length_toList]
    exact Nat.le_refl _
def cTxtI (c : CE) : CI := fun G => (c G).bind fun p => match p.d with
  | .str x => .ok (signsOf x)
  | _ => .bad
theorem di_text {X : Cx} {C : Addr} {E : XK} {tg e : Expr} {te : TE} {c : CE} (h : DE X C E te c e) : DI X C E tg (iStr te) (cTxtI c) e := by
  refine ⟨pi_str h.pe, fun H0 hd G σ H Rr r q => ?_⟩
  refine h.snd H0 hd G σ H _ r ?_
  unfold cTxtI at q
  cases e1 : c G with
  | ex k p =>
    rw [e1] at q
    exact q
  | bad =>
    rw [e1] at q
    exact q
  | ok pv =>
    rw [e1, R.bind_ok] at q
    intro v H1 sm rv
    split at q
    · rename_i x ex
      exact ⟨x, rv.str ex, q _ H1 (.non, .non) sm walk_txt .non⟩
    · exact q.elim
/-! ### for -/
def forL (t : CG) (b : CS) : List D → Ev → R (Fl × Ev)
  | [], G => .ok (.nx, G)
  | d :: r, G => (t d G).bind fun G1 => (b G1).bind fun x => match x.1 with
    | .nx => forL t b r x.2
    | .ret p => .ok (.ret p, x.2)
def cFor (it : CI) (t : CG) (b : CS) : CS := fun G => (it G).bind fun l => forL t b l G
theorem drop_get {α : Type} {l : List α} {i : Nat} (h : i < l.length) : l.drop i = l[i] :: l.drop (i + 1) := List.drop_eq_getElem_cons h
section
variable {K : PySem.W.Frag} {C : Addr} {E : XK}
theorem snds_for {wi : TI} {tg : TG} {tb : TS} {it : CI} {t : CG} {b : CS} {is : List Nat} (si : SndI K C E wi it) (sg : SndG K tg t is) (n : NoExG t) (sb : SndS K C E tb b) : SndS K C E (tFor wi tg tb) (cFor it t b) := fun H0 O0 own gs G σ H D r q => by
  refine si H0 ⟨O0, own, gs⟩ G σ H _ r ?_
  unfold cFor at q
  cases e1 : it G with
  | ex k p =>
    rw [e1] at q
    exact q
  | bad =>
    rw [e1] at q
    exact q
  | ok l =>
    rw [e1, R.bind_ok] at q
    intro J H1 g sm W rg
    have r1 := r.grow sm
    have r2 : Rep K H0 ⟨O0, own, g :: gs⟩ H1 G σ := ⟨r1.same, r1.sub, r1.fresh, r1.dom, r1.dis, r1.len, r1.slot, fun z m => by
      rcases List.mem_cons.mp m with e | m
      · rw [e]
        exact rg
      · exact r1.gh z m⟩
    refine ⟨fun i m σ H => m = l.length - i ∧ i ≤ l.length ∧ ∃ own G, Rep K H0 ⟨O0, own, g :: gs⟩ H G σ ∧ PostS K C E H0 O0 gs D (forL t b (l.drop i) G), ⟨l.length, rfl, Nat.zero_le _, own, G, r2, by rw [List.drop_zero]; exact q⟩, ?_⟩
    rintro i m σ2 H2 ⟨rfl, hi, own2, G2, r3, q2⟩
    have rg2 : Dr K (hide (Hd.O ⟨O0, own2, g :: gs⟩) H2) g.1 g.2 := r3.gh g (List.mem_cons_self ..)
    by_cases hlt : i < l.length
    · refine .inr ⟨W.go _ _ i hlt rg2, fun σ' H' => i + 1 ≤ l.length ∧ ∃ own G, Rep K H0 ⟨O0, own, g :: gs⟩ H' G σ' ∧ PostS K C E H0 O0 gs D (forL t b (l.drop (i + 1)) G), fun σ' H' ⟨h1, own', G', r', q'⟩ => ⟨l.length - (i + 1), by omega, rfl, h1, own', G', r', q'⟩, fun x H3 y => ?_⟩
      obtain ⟨s3, rx⟩ := W.yld _ _ i x H3 l[i] (List.getElem?_eq_getElem hlt) rg2 r3.odom y
      have r4 := r3.grow s3
      rw [drop_get hlt] at q2
      have q3 : PostS K C E H0 O0 gs D ((t l[i] G2).bind fun G1 => (b G1).bind fun x => match x.1 with
        | .nx => forL t b (l.drop (i + 1)) x.2
        | .ret p => .ok (.ret p, x.2)) := q2
      refine sg H0 O0 own2 (g :: gs) G2 σ2 H3 x l[i] _ r4 rx ?_
      cases e2 : t l[i] G2 with
      | ex a b => exact absurd e2 (n _ _ a b)
      | bad =>
        rw [e2] at q3
        exact q3.elim
      | ok G3 =>
        rw [e2, R.bind_ok] at q3
        intro σ3 r5 _
        refine sb H0 O0 own2 (g :: gs) G3 σ3 H3 _ r5 ?_
        cases e3 : b G3 with
        | ex a b =>
          rw [e3] at q3
          exact q3
        | bad =>
          rw [e3] at q3
          exact q3
        | ok z =>
          rw [e3, R.bind_ok] at q3
          obtain ⟨f, G4⟩ := z
          cases f with
          | nx => exact fun own' σ' H' r' => ⟨hlt, own', G4, r', q3⟩
          | ret pv => exact q3
    · have e : i = l.length := by omega
      subst e
      rw [List.drop_length] at q2
      refine .inl ⟨W.stop _ _ rg2, q2 own2 σ2 H2 ⟨r3.same, r3.sub, r3.fresh, r3.dom, r3.dis, r3.len, r3.slot, fun z m => r3.gh z (List.mem_cons_of_mem _ m)⟩⟩
/-! ### while -/
def cWhile (t : CT) (b : CS) : Nat → CS
  | 0 => fun _ => .bad
  | n + 1 => fun G => (t G).bind fun c => if c = true then (b G).bind fun x => match x.1 with
    | .nx => cWhile t b n x.2
    | .ret p => .ok (.ret p, x.2) else .ok (.nx, G)
theorem snds_while {tt : TT} {tb : TS} {t : CT} {b : CS} (st : SndT K C E tt t) (sb : SndS K C E tb b) (n : Nat) : SndS K C E (tWhile tt tb) (cWhile t b n) := fun H0 O0 own gs G σ H D r q => by
  refine ⟨fun m σ H => ∃ own G, Rep K H0 ⟨O0, own, gs⟩ H G σ ∧ PostS K C E H0 O0 gs D (cWhile t b m G), ⟨n, own, G, r, q⟩, ?_⟩
  rintro m σ2 H2 ⟨own2, G2, r2, q2⟩
  cases m with
  | zero => exact q2.elim
  | succ m =>
    have q3 : PostS K C E H0 O0 gs D ((t G2).bind fun c => if c = true then (b G2).bind fun x => match x.1 with
      | .nx => cWhile t b m x.2
      | .ret p => .ok (.ret p, x.2) else .ok (.nx, G2)) := q2
    refine st.imp (P := fun _ r => PostS K C E H0 O0 gs D r) r2 (fun _ _ z => z) (fun z => z) q3 fun x H1 sm r3 q4 => ?_
    cases x with
    | false => exact q4 own2 σ2 H1 r3
    | true =>
      rw [if_pos rfl] at q4 ⊢
      refine ⟨fun σ' H' => ∃ own G, Rep K H0 ⟨O0, own, gs⟩ H' G σ' ∧ PostS K C E H0 O0 gs D (cWhile t b m G), fun σ' H' z => ⟨m, Nat.lt_succ_self m, z⟩, ?_⟩
      refine sb H0 O0 own2 gs G2 σ2 H1 _ r3 ?_
      cases e3 : b G2 with
      | ex a b =>
        rw [e3] at q4
        exact q4
      | bad =>
        rw [e3] at q4
        exact q4
      | ok z =>
        rw [e3, R.bind_ok] at q4
        obtain ⟨f, G4⟩ := z
        cases f with
        | nx => exact fun own' σ' H' r' => ⟨own', G4, r', q4⟩
        | ret pv => exact q4
end
section
variable {X : Cx} {C : Addr} {E : XK} {e iter target : Expr} {body : List Stmt} {pos : Pos} {wi : TI} {tg : TG} {tb : TS} {it : CI} {t : CG} {b : CS}
theorem ds_for {is : List Nat} (hp : PassesOwn (model X.prog X.w) X.A X.env X.xe) (hc : X.calm = true) (i : DI X C E target wi it iter) (g : DG X tg t is target) (n : NoExG t) (k : DB X C E tb b body) (hs : ∀ x, foldedSetIterable iter X.env x = pure x := by intro _; rfl) :
    DS X C E (tFor wi tg tb) (cFor it t b) (.For target iter body [] pos) := ⟨ps_for hp hc i.pi g.pg k.ps hs, snds_for i.snd g.snd n k.snd⟩
theorem ds_while {tt : TT} {ct : CT} (n : Nat) (hp : PassesOwn (model X.prog X.w) X.A X.env X.xe) (h : DT X C E tt ct e) (k : DB X C E tb b body) : DS X C E (tWhile tt tb) (cWhile ct b n) (.While e body [] pos) := ⟨ps_while hp h.pt k.ps, snds_while h.snd k.snd n⟩
end
end BT
/-! List comprehensions; a def's promise from its body. -/
namespace BT
open PySem PySem.Spec PyProof.Rows L2
/-! ### an address beside the slots' own -/
def Hd.plus (h : Hd) (n : Nat) (p : Addr) : Hd := ⟨h.out, fun j a => h.own j a ∨ (j = n ∧ a = p), h.gs⟩
theorem Hd.plus_O {h : Hd} {n : Nat} {p a : Addr} : (h.plus n p).O a ↔ (a = p ∨ h.O a) := by
  constructor
  · rintro (z | ⟨j, z | ⟨_, z⟩⟩)
    · exact .inr (.inl z)
    · exact .inr (.inr ⟨j, z⟩)
    · exact .inl z
  · rintro (z | z | ⟨j, z⟩)
    · exact .inr ⟨n, .inr ⟨rfl, z⟩⟩
    · exact .inl z
    · exact .inr ⟨j, .inl z⟩
section
variable {K : PySem.W.Frag} {H0 H : Hp} {h : Hd} {G : Ev} {σ : L2.St} {p : Addr} {o : HO}
theorem Rep.plus {k : Nat} (r : Rep K H0 h H G σ) (n : H p = none) : Rep K H0 (h.plus k p) (upd H p o) G σ := by
  have vis : Same (hide h.O H) (hide (h.plus k p).O (upd H p o)) := hide_same (same_upd n) fun a z => by
    rcases Hd.plus_O.mp z with e | e
    · rw [e]
      exact .inr n
    · exact .inl e
  have nown : ∀ i, ¬ h.own i p := fun i z => by
    obtain ⟨u, q⟩ := r.dom i p z
    rw [n] at q
    cases q
  refine ⟨r.same.trans (same_upd n), r.sub, fun i a z => ?_, fun i a z => ?_, fun i j a z1 z2 => ?_, r.len, fun i s e => ?_, fun g m => Dr.mono vis _ _ (r.gh g m)⟩
  · rcases z with z | ⟨_, z⟩
    · exact r.fresh i a z
    · rw [z]
      exact r.same.free n
  · rcases z with z | ⟨_, z⟩
    · obtain ⟨u, q⟩ := r.dom i a z
      exact ⟨u, same_upd n a u q⟩
    · rw [z]
      exact ⟨_, upd_same⟩
  · rcases z1 with z1 | ⟨e1, z1⟩
    · rcases z2 with z2 | ⟨_, z2⟩
      · exact r.dis i j a z1 z2
      · exact absurd (z2 ▸ z1) (nown i)
    · rcases z2 with z2 | ⟨e2, z2⟩
      · exact absurd (z1 ▸ z2) (nown j)
      · rw [e1, e2]
  · obtain ⟨ov, q1, q2⟩ := r.slot i s e
    refine ⟨ov, q1, ?_⟩
    have q3 := q2.mono vis fun a u _ y => same_upd (o := o) n a u y
    cases s with
    | un => trivial
    | sh d => exact q3
    | ow m =>
      obtain ⟨a, ws, f1, f2, f3, f4⟩ := q3
      exact ⟨a, ws, f1, .inl f2, f3, f4⟩
    | o2 m =>
      obtain ⟨a, ws, f1, f2, f3, f4⟩ := q3
      exact ⟨a, ws, f1, .inl f2, f3, f4.mono (Same.refl _) (fun _ _ _ _ y => y) fun _ y _ => .inl y⟩
theorem plus_vis {k : Nat} : hide (h.plus k p).O (upd H p o) = hide (h.plus k p).O H := hide_upd (Hd.plus_O.mpr (.inl rfl))
/-- the address beside changes -/
theorem Rep.side (r : Rep K H0 (h.plus G.length p) H G σ) (no : ∀ i, ¬ h.own i p) : Rep K H0 (h.plus G.length p) (upd H p o) G σ := by
  have own0 : (h.plus G.length p).own G.length p := .inr ⟨rfl, rfl⟩
  refine ⟨same_mut r.same (r.fresh _ p own0), r.sub, r.fresh, fun i a z => ?_, r.dis, r.len, fun i s e => ?_, fun g m => by rw [plus_vis]; exact r.gh g m⟩
  · by_cases e : a = p
    · rw [e]
      exact ⟨_, upd_same⟩
    · rw [upd_ne e]
      exact r.dom i a z
  · obtain ⟨ov, q1, q2⟩ := r.slot i s e
    have hi : i < G.length := (List.getElem?_eq_some_iff.mp e).1
    refine ⟨ov, q1, ?_⟩
    rw [plus_vis]
    cases s with
    | un => trivial
    | sh d => exact q2
    | ow m =>
      obtain ⟨a, ws, f1, f2, f3, f4⟩ := q2
      refine ⟨a, ws, f1, f2, ?_, f4⟩
      by_cases e2 : a = p
      · exfalso
        have f2' : (h.plus G.length p).own i p := e2 ▸ f2
        rcases f2' with z | ⟨z, _⟩
        · exact no i z
        · omega
      · rw [upd_ne e2]
        exact f3
    | o2 m =>
      obtain ⟨a, ws, f1, f2, f3, f4⟩ := q2
      have ne : ∀ b, (h.plus G.length p).own i b → b ≠ p := fun b y z => by
        have y' : (h.plus G.length p).own i p := z ▸ y
        rcases y' with y' | ⟨y', _⟩
        · exact no i y'
        · omega
      refine ⟨a, ws, f1, f2, by rw [upd_ne (ne a f2)]; exact f3, f4.mono (Same.refl _) (fun b o y _ z => ?_) fun _ y _ => y⟩
      rw [upd_ne (ne b y)]
      exact z
end
/-! ### a block's own slots forgotten -/
def wipeG (G : Ev) : List Nat → Ev
  | [] => G
  | v :: vs => (wipeG G vs).set v .un
theorem wipeG_len (G : Ev) : ∀ vs : List Nat, (wipeG G vs).length = G.length
  | [] => rfl
  | v :: vs => by
    show ((wipeG G vs).set v .un).length = _
    rw [List.length_set, wipeG_len G vs]
theorem Rep.wipe1 {K : PySem.W.Frag} {H0 H : Hp} {h : Hd} {G : Ev} {σ : L2.St} (r : Rep K H0 h H G σ) (i : Nat) : Rep K H0 h H (G.set i .un) (σ.set i none) :=
  ⟨r.same, r.sub, r.fresh, r.dom, r.dis, by rw [List.length_set, List.length_set]; exact r.len, fun j s e => by
    rcases get_set e with ⟨e1, e2, e3⟩ | ⟨e1, e2⟩
    · subst e1 e2
      exact ⟨none, List.getElem?_set_self (by rw [r.len]; exact e3), trivial⟩
    · obtain ⟨ov, q1, q2⟩ := r.slot j s e2
      exact ⟨ov, by rw [List.getElem?_set_ne e1]; exact q1, q2⟩, r.gh⟩
theorem Rep.wipe {K : PySem.W.Frag} {H0 H : Hp} {h : Hd} {G : Ev} {σ : L2.St} (r : Rep K H0 h H G σ) : ∀ vs : List Nat, Rep K H0 h H (wipeG G vs) (L2.wipe σ vs)
  | [] => r
  | v :: vs => (Rep.wipe r vs).wipe1 v
theorem wipe_idem {σ : L2.St} : ∀ {vs : List Nat}, L2.wipe (L2.wipe σ vs) vs = L2.wipe σ vs
  | vs => by
    have key : ∀ (ws : List Nat) (τ : L2.St), (∀ v ∈ ws, τ[v]? = (τ.set v none)[v]?) → L2.wipe τ ws = τ := by
      intro ws
      induction ws with
      | nil => intro τ _; rfl
      | cons w ws ih =>
        intro τ k
        show (L2.wipe τ ws).set w none = τ
        rw [ih τ fun v m => k v (List.mem_cons_of_mem _ m)]
        have e := k w (List.mem_cons_self ..)
        apply List.ext_getElem?
        intro j
        by_cases hj : w = j
        · rw [← hj]
          exact e.symm
        · rw [List.getElem?_set_ne hj]
    apply key
    intro v m
    have z : ∀ {ws : List Nat}, v ∈ ws → (L2.wipe σ ws)[v]? = ((L2.wipe σ ws).set v none)[v]? := by
      intro ws
      induction ws with
      | nil => intro h; cases h
      | cons w ws ih =>
        intro h
        by_cases e : w = v
        · subst e
          show ((L2.wipe σ ws).set w none)[w]? = (((L2.wipe σ ws).set w none).set w none)[w]?
          rw [List.set_set]
        · have h2 : v ∈ ws := by
            rcases List.mem_cons.mp h with q | q
            · exact absurd q.symm e
            · exact q
          show ((L2.wipe σ ws).set w none)[v]? = (((L2.wipe σ ws).set w none).set v none)[v]?
          have i2 := ih h2
          rw [List.getElem?_set_ne e, List.set_comm _ _ e, List.getElem?_set_ne e]
          exact i2
    exact z m
/-! ### list comprehensions -/
def lcL (t : CG) (tt : CT) (e : CE) (G : Ev) : List D → R (List D)
  | [] => .ok []
  | d :: r => (t d G).bind fun G1 => (tt G1).bind fun b => if b = true then (e G1).bind fun p => p.toD.bind fun y => (lcL t tt e G r).bind fun o => .ok (y :: o) else lcL t tt e G r
def cLc (it : CI) (t : CG) (tt : CT) (e : CE) (vs : List Nat) : CE := fun G => (it G).bind fun l => match lcL t tt e (wipeG G vs) l with
  | .ok o => if l.length ≤ 16777216 then .ok (.fr o) else .bad
  | _ => .bad
structure DTs (X : Cx) (C : Addr) (E : XK) (tt : TT) (c : CT) (ifs : List Expr) : Prop where
  pts : PTs X ifs tt
  snd : SndT X.K C E tt c
def cYes : CT := fun _ => .ok true
section
variable {X : Cx} {C : Addr} {E : XK}
theorem dts_nil : DTs X C E tYes cYes [] := ⟨pts_nil, fun H0 h G σ H Q r q => q H (Same.refl H)⟩
theorem dts_one {tt : TT} {c : CT} {e : Expr} (h : DT X C E tt c e) : DTs X C E tt c [e] := ⟨pts_one h.pt, h.snd⟩
theorem okB {α β : Type} {r : R α} {f : α → R β} {b : β} (h : r.bind f = .ok b) : ∃ a, r = .ok a ∧ f a = .ok b := by
  cases r with
  | ok a => exact ⟨a, rfl, h⟩
  | ex k p => cases h
  | bad => cases h
theorem snd_lc {K : PySem.W.Frag} {wi : TI} {tg : TG} {tt : TT} {te : TE} {it : CI} {t : CG} {ct : CT} {c : CE} {is vs : List Nat} (si : SndI K C E wi it) (sg : SndG K tg t is) (st : SndT K C E tt ct) (se : Snd K C E te c) (sub : ∀ i ∈ is, i ∈ vs) :
    Snd K C E (tLc wi tg tt te vs) (cLc it t ct c vs) := fun H0 h G σ H Q r q => by
  refine si H0 h G σ H _ r ?_
  unfold cLc at q
  cases e1 : it G with
  | ex k p =>
    rw [e1] at q
    exact q
  | bad =>
    rw [e1] at q
    exact q
  | ok l =>
    rw [e1, R.bind_ok] at q
    intro J H1 g sm W rg D nD
    cases e2 : lcL t ct c (wipeG G vs) l with
    | ex k p =>
      rw [e2] at q
      exact q.elim
    | bad =>
      rw [e2] at q
      exact q.elim
    | ok total =>
      rw [e2] at q
      by_cases hz : l.length ≤ 16777216
      · have q : PostE K C E H0 h H Q (if l.length ≤ 16777216 then .ok (.fr total) else .bad) := q
        rw [if_pos hz] at q
        have r1 := r.grow sm
        have r2 : Rep K H0 ⟨h.out, h.own, g :: h.gs⟩ H1 G σ := ⟨r1.same, r1.sub, r1.fresh, r1.dom, r1.dis, r1.len, r1.slot, fun z m => by
          rcases List.mem_cons.mp m with e | m
          · rw [e]
            exact rg
          · exact r1.gh z m⟩
        have no : ∀ i, ¬ h.own i D := fun i z => by
          obtain ⟨u, q⟩ := r1.dom i D z
          rw [nD] at q
          cases q
        have r3 := (r2.wipe vs).plus (k := (wipeG G vs).length) (o := .lst []) nD
        refine ⟨fun i m H => m = l.length - i ∧ i ≤ l.length ∧ Same H1 H ∧ ∃ acc out rest, H D = some (.lst acc) ∧ out.length ≤ i ∧ DrAll K (hide (Hd.O (Hd.plus ⟨h.out, h.own, g :: h.gs⟩ (wipeG G vs).length D)) H) acc out ∧
          Rep K H0 (Hd.plus ⟨h.out, h.own, g :: h.gs⟩ (wipeG G vs).length D) H (wipeG G vs) (L2.wipe σ vs) ∧ lcL t ct c (wipeG G vs) (l.drop i) = .ok rest ∧ total = out ++ rest,
          ⟨l.length, rfl, Nat.zero_le _, same_upd nD, [], [], total, upd_same, Nat.le_refl _, .nil, r3, by rw [List.drop_zero]; exact e2, rfl⟩, ?_⟩
        rintro i m H2 ⟨rfl, hi, s2, acc, out, rest, hD, hlen, da, r4, e3, e4⟩
        have rg2 := r4.gh g (List.mem_cons_self ..)
        by_cases hlt : i < l.length
        · refine .inr ⟨W.go _ _ i hlt rg2, fun H' => i + 1 ≤ l.length ∧ Same H1 H' ∧ ∃ acc out rest, H' D = some (.lst acc) ∧ out.length ≤ i + 1 ∧ DrAll K (hide (Hd.O (Hd.plus ⟨h.out, h.own, g :: h.gs⟩ (wipeG G vs).length D)) H') acc out ∧
            Rep K H0 (Hd.plus ⟨h.out, h.own, g :: h.gs⟩ (wipeG G vs).length D) H' (wipeG G vs) (L2.wipe σ vs) ∧ lcL t ct c (wipeG G vs) (l.drop (i + 1)) = .ok rest ∧ total = out ++ rest,
            fun H' ⟨h1, z⟩ => ⟨l.length - (i + 1), by omega, rfl, h1, z⟩, fun x H3 y => ?_⟩
          obtain ⟨s3, rx⟩ := W.yld _ _ i x H3 l[i] (List.getElem?_eq_getElem hlt) rg2 r4.odom y
          have r5 := r4.grow s3
          rw [drop_get hlt] at e3
          obtain ⟨G1, f1, e3⟩ := okB e3
          obtain ⟨b, f2, e3⟩ := okB e3
          refine sg H0 _ _ _ (wipeG G vs) (L2.wipe σ vs) H3 x l[i] _ r5 rx ?_
          rw [f1]
          intro σ3 r6 wp
          refine ⟨by rw [wp vs sub]; exact wipe_idem, ?_⟩
          refine st H0 _ G1 σ3 H3 _ r6 ?_
          rw [f2]
          intro H4 s4
          have da4 := DrAll.mono (hide_same (s3.trans s4) fun a z => .inl z) _ _ da
          have r7 := r5.grow s4
          have hD4 := s4 D _ (s3 D _ hD)
          cases b with
          | false =>
            have e3 : lcL t ct c (wipeG G vs) (l.drop (i + 1)) = .ok rest := e3
            rw [if_neg Bool.false_ne_true]
            exact ⟨hlt, (s2.trans s3).trans s4, acc, out, rest, hD4, by omega, da4, r7, e3, e4⟩
          | true =>
            rw [if_pos rfl] at e3 ⊢
            obtain ⟨pv, f3, e3⟩ := okB e3
            obtain ⟨y2, f4, e3⟩ := okB e3
            obtain ⟨rest2, f5, e3⟩ := okB e3
            cases e3
            refine se H0 _ G1 σ3 H4 _ (r6.grow s4) ?_
            rw [f3]
            intro v H5 s5 rv
            have rd := rv.toD f4
            have da5 := DrAll.mono (hide_same s5 fun a z => .inl z) _ _ da4
            refine ⟨acc, s5 D _ hD4, by rw [line_eq, da.len]; omega, hlt, ?_, acc ++ [v], out ++ [y2], rest2, upd_same, ?_, ?_, ?_, f5, ?_⟩
            · exact same_mut (((s2.trans s3).trans s4).trans s5) nD
            · rw [List.length_append]
              show out.length + 1 ≤ i + 1
              omega
            · rw [plus_vis]
              exact da5.app (.cons rd .nil)
            · exact (r7.grow s5).side no
            · rw [e4, List.append_assoc]
              rfl
        · have e : i = l.length := by omega
          subst e
          rw [List.drop_length] at e3
          cases e3
          rw [List.append_nil] at e4
          subst e4
          refine .inl ⟨W.stop _ _ rg2, q _ H2 (sm.trans s2) ⟨D, acc, rfl, sm.free nD, r1.odom.new nD, hD, ?_⟩⟩
          exact DrAll.mono (hide_more fun a z => Hd.plus_O.mpr z) _ _ da
      · have q : PostE K C E H0 h H Q (if l.length ≤ 16777216 then .ok (.fr total) else .bad) := q
        rw [if_neg hz] at q
        exact q.elim
end
end BT
/-! Comprehensions as expressions and statements; a def's promise from its body. -/
namespace BT
open PySem PySem.Spec PyProof.Rows L2
def noShared : Shared := ⟨{}, #[], {}, 0, {}⟩
section
variable {X : Cx} {C : Addr} {E : XK} {elt tg iter : Expr} {ifs : List Expr} {scope : Scope} {own : List (Str × Nat)} {pos : Pos} {wi : TI} {g : TG} {tt : TT} {te : TE} {it : CI} {t : CG} {ct : CT} {c : CE} {is : List Nat}
theorem de_lc (own : List (Str × Nat)) (hc : X.calm = true) (hN : X.N.Nodup) (i : DI X C E tg wi it iter) (ok : blkC X.N X.env.scope scope own = true)
    (hg : ∀ (s : Shared) (H : Hp) (B : Addr) (cl : List (Str × Addr)) (fp : List Addr), DG (X.blk s H scope (compEnvC scope cl B X.env) fp) g t is tg)
    (ht : ∀ (s : Shared) (H : Hp) (B : Addr) (cl : List (Str × Addr)) (fp : List Addr), DTs (X.blk s H scope (compEnvC scope cl B X.env) fp) C E tt ct ifs)
    (he : ∀ (s : Shared) (H : Hp) (B : Addr) (cl : List (Str × Addr)) (fp : List Addr), DE (X.blk s H scope (compEnvC scope cl B X.env) fp) C E te c elt)
    (sub : is.all (fun i => (own.map (·.2)).contains i) = true) (hs : ∀ x, foldedSetIterable iter X.env x = pure x := by intro _; rfl) :
    DE X C E (tLc wi g tt te (own.map (·.2))) (cLc it t ct c (own.map (·.2))) (.ListComp elt [⟨tg, iter, ifs, 0⟩] scope pos) := by
  refine ⟨pe_lc hc hN i.pi (blkOk_by ok) (fun s H B cl fp => (hg s H B cl fp).pg) (fun s H B cl fp => (ht s H B cl fp).pts) (fun s H B cl fp => (he s H B cl fp).pe) hs, fun H0 h G σ H Q r q => ?_⟩
  exact snd_lc i.snd (hg noShared H 0 [] []).snd (ht noShared H 0 [] []).snd (he noShared H 0 [] []).snd (fun i m => by simpa using List.all_eq_true.mp sub i m) H0 h G σ H Q r q
theorem ds_lc {i : Nat} {y : Str} {py spos : Pos} {f : CE → CS} (own : List (Str × Nat)) (hc : X.calm = true) (hN : X.N.Nodup) (hy : X.N[i]? = some y) (hyl : X.env.scope.names.lookup y = some .local)
    (hsw : swapsWith (.ListComp elt [⟨tg, iter, ifs, 0⟩] scope pos) (some (.Name y py)) spos.line X.env = pure true) (di : DI X C E tg wi it iter) (ok : blkC X.N X.env.scope scope own = true)
    (hg : ∀ (s : Shared) (H : Hp) (B : Addr) (cl : List (Str × Addr)) (fp : List Addr), DG (X.blk s H scope (compEnvC scope cl B X.env) fp) g t is tg)
    (ht : ∀ (s : Shared) (H : Hp) (B : Addr) (cl : List (Str × Addr)) (fp : List Addr), DTs (X.blk s H scope (compEnvC scope cl B X.env) fp) C E tt ct ifs)
    (he : ∀ (s : Shared) (H : Hp) (B : Addr) (cl : List (Str × Addr)) (fp : List Addr), DE (X.blk s H scope (compEnvC scope cl B X.env) fp) C E te c elt)
    (sub : is.all (fun i => (own.map (·.2)).contains i) = true) (k : ∀ {te : TE} {c : CE}, Snd X.K C E te c → SndS X.K C E (tAsg te (gName i)) (f c)) (hs : ∀ x, foldedSetIterable iter X.env x = pure x := by intro _; rfl) :
    DS X C E (tAsg (tLc wi g tt te (own.map (·.2))) (gName i)) (f (cLc it t ct c (own.map (·.2)))) (.Assign [.Name y py] (.ListComp elt [⟨tg, iter, ifs, 0⟩] scope pos) spos) := by
  refine ⟨ps_setLc hc hN hy hyl hsw di.pi (blkOk_by ok) (fun s H B cl fp => (hg s H B cl fp).pg) (fun s H B cl fp => (ht s H B cl fp).pts) (fun s H B cl fp => (he s H B cl fp).pe) hs, k ?_⟩
  exact snd_lc di.snd (hg noShared (fun _ => none) 0 [] []).snd (ht noShared (fun _ => none) 0 [] []).snd (he noShared (fun _ => none) 0 [] []).snd (fun i m => by simpa using List.all_eq_true.mp sub i m)
end
/-! ### a def -/
def begun (n : Nat) (ds : List D) : Ev := ds.map Sl.sh ++ List.replicate (n - ds.length) Sl.un
def runF (n : Nat) (c : CS) (ds : List D) : R PV := match c (begun n ds) with
  | .ok (.nx, _) => .ok (.st .non)
  | .ok (.ret p, _) => .ok p
  | .ex k p => .ex k p
  | .bad => .bad
theorem rep_start {K : PySem.W.Frag} {H : Hp} {O : Addr → Prop} {N : List Str} {vs : List V} {ds : List D} (dm : Dom O H) (da : DrAll K (hide O H) vs ds) (hn : ds.length ≤ N.length) : Rep K H ⟨O, fun _ _ => False, []⟩ H (begun N.length ds) (L2.start N vs) := by
  have eO : Hd.O ⟨O, fun _ _ => False, []⟩ = O := Hd.of_O (O := O)
  refine ⟨Same.refl _, dm, fun _ _ z => z.elim, fun _ _ z => z.elim, fun _ _ _ z => z.elim, ?_, fun i s e => ?_, fun g m => by cases m⟩
  · unfold L2.start begun
    rw [List.length_append, List.length_append, List.length_map, List.length_map, List.length_replicate, List.length_replicate, da.len]
  · rw [eO]
    unfold begun at e
    unfold L2.start
    by_cases hi : i < ds.length
    · rw [List.getElem?_append_left (by rw [List.length_map]; exact hi), List.getElem?_map, List.getElem?_eq_getElem hi] at e
      cases e
      obtain ⟨v, hv, rv⟩ := da.get (List.getElem?_eq_getElem hi)
      refine ⟨some v, ?_, v, rfl, rv⟩
      rw [List.getElem?_append_left (by rw [List.length_map, da.len]; exact hi), List.getElem?_map, hv]
      rfl
    · have hl : i < N.length := by
        have z := (List.getElem?_eq_some_iff.mp e).1
        rw [List.length_append, List.length_map, List.length_replicate] at z
        omega
      rw [List.getElem?_append_right (by rw [List.length_map]; omega), List.length_map, List.getElem?_replicate, if_pos (by omega)] at e
      cases e
      refine ⟨none, ?_, trivial⟩
      rw [List.getElem?_append_right (by rw [List.length_map, da.len]; omega), List.length_map, List.getElem?_replicate, da.len, if_pos (by omega)]
theorem spD_len {K : PySem.W.Frag} {C : Addr} {n : Nat} {f : List D → R PV} (vs : List V) (H : Hp) (Q : VK) (E : XK) (h : spD K C n f vs H Q E) : vs.length = n := by
  obtain ⟨ds, O, hn, _, da, _⟩ := h
  rw [da.len, hn]
/-- a def's body keeps its promise: its meaning c, from the parameters' data, gives what f says -/
theorem run_ok {K : PySem.W.Frag} {C : Addr} {E : XK} {N : List Str} {ts : TS} {c : CS} {n : Nat} {f : List D → R PV} {vs : List V} {H : Hp} {Q : VK} (s : SndS K C E ts c) (hn : n ≤ N.length) (hf : ∀ ds, ds.length = n → f ds ≠ .bad → runF N.length c ds = f ds) (h : spD K C n f vs H Q E) :
    ts { nx := fun _ H' => Q .non H', rt := Q } (L2.start N vs) H := by
  obtain ⟨ds, O, hl, dm, da, q⟩ := h
  have nb : f ds ≠ .bad := fun z => by
    rw [z] at q
    exact q
  have e := hf ds hl nb
  rw [← e] at q
  refine s H O _ _ _ _ H _ (rep_start dm da (by rw [hl]; exact hn)) ?_
  unfold runF at q
  cases e1 : c (begun N.length ds) with
  | bad =>
    rw [e1] at q
    exact q.elim
  | ex k p =>
    rw [e1] at q
    exact q
  | ok z =>
    rw [e1] at q
    obtain ⟨fl, G⟩ := z
    cases fl with
    | nx => exact fun own σ H' r => q _ H' r.same Dr.non
    | ret pv => exact q
section
variable {P : Program} {w : World} {K : PySem.W.Frag} {mg : Str → Option Value} {base : Heap} {C : Addr}
abbrev cxD (P : Program) (w : World) (K : PySem.W.Frag) (mg : Str → Option Value) (base : Heap) (N : List Str) (qual : Str) (scope : Scope) (f : Addr) (cd : Value) (A : Around) (outer : List Env) (s : Shared) (H : Hp) (E : XK) : Cx := cxOf (L2.CX P w) P w K mg base N qual scope f cd A outer s H E
/-- where a def stands -/
structure At (K : PySem.W.Frag) (mg : Str → Option Value) (x : Str) (st : Stmt) : Prop where
  ex : ∃ a fd, Fun K x x st a fd ∧ mg x = some (.ref a)
theorem fn_ok {x : Str} {st : Stmt} {N ps : List Str} {k : Nat} {c : CS} {f : List D → R PV} (at_ : At K mg x st) (S : FnScope N ps (defScope st)) (hn : ps.length ≤ N.length)
    (bd : ∀ (kV doc pm : Value) (an : Option Addr) (cdv ct : Value) (us : List Value), us.length = ps.length → bindArgs (PySem.W.fnOf x x (defArgs st) (defBody st) (defScope st) .none kV doc pm an cdv ct) ⟨us, []⟩ = pure (ps.zip us))
    (hf : ∀ ds, ds.length = ps.length → f ds ≠ .bad → runF N.length c ds = f ds)
    (hb : ∀ (fa : Addr) (cdv : Value) (A : Around) (outer : List Env) (s : Shared) (H : Hp) (E : XK), Room k (A.deeper (envOfC x (defScope st) s.heap.objs.size fa cdv)) → Passes (L2.CX P w) (cxD P w K mg base N x (defScope st) fa cdv A outer s H E) E →
      PassesOwn (model P w) (cxD P w K mg base N x (defScope st) fa cdv A outer s H E).A (cxD P w K mg base N x (defScope st) fa cdv A outer s H E).env (cxD P w K mg base N x (defScope st) fa cdv A outer s H E).xe →
      Takes (cxD P w K mg base N x (defScope st) fa cdv A outer s H E) (fun cls d _ H => E cls d H) →
      ∃ ts, DB (cxD P w K mg base N x (defScope st) fa cdv A outer s H E) C E ts c (defBody st)) : FnA P w K mg base C (k + 1) x ps f := by
  obtain ⟨a, fd, F, hm⟩ := at_.ex
  refine ⟨a, fd, F.okX S spD_len (fun cdv A outer s H vs Q E hr h => ?_), hm, F.kp, F.binds bd, by
    obtain ⟨oc, od, kV, doc, pm, an, cdv, ct, osl, e, _, _⟩ := F.ex
    subst e
    exact bd kV doc pm an cdv ct, by
    obtain ⟨oc, od, kV, doc, pm, an, cdv, ct, osl, e, lk, _⟩ := F.ex
    exact ⟨oc, od, osl, lk⟩⟩
  have tk : Takes (cxD P w K mg base N x (defScope st) a cdv A outer s H E) (fun cls d _ H => E cls d H) := takes_of rfl rfl rfl rfl
  obtain ⟨ts, b⟩ := hb a cdv A outer s H E hr (passes_call tk fun _ _ _ _ z => z) (passes_of (K := fun e s'' => L2.CX P w outer H s E e s'') rfl) tk
  exact ⟨ts, b.ps, run_ok b.snd hn hf h⟩
theorem FnA.mono {j k : Nat} {x : Str} {ps : List Str} {f : List D → R PV} (F : FnA P w K mg base C j x ps f) (h : j ≤ k) : FnA P w K mg base C k x ps f := by
  obtain ⟨a, fd, F, r⟩ := F.ex
  exact ⟨a, fd, F.mono h, r⟩
end
end BT
/-! Short words for the printed derivations. -/
namespace BT
open PySem PySem.Spec PyProof.Rows L2
theorem noex_i0 {g : Int → Int → D} (p q : PV) : NoEx (intOp (fun i j => .ok (.st (g i j))) p q) := noex_int (fun _ _ => noex_ok) p q
theorem noex_ic {c : Int → Int → Prop} [∀ i j, Decidable (c i j)] {g : Int → Int → D} (p q : PV) : NoEx (intOp (fun i j => if c i j then .ok (.st (g i j)) else .bad) p q) := noex_int (fun _ _ => noex_ite noex_ok) p q
theorem hu64 {k : Nat} {A : Around} (r : Room k A) : A.units + 64 < cLine := r.units
theorem hu65 {k : Nat} {A : Around} (r : Room k A) : A.units + 65 < cLine := by
  have := r.un
  omega
abbrev vLt := vCmp fun i j => decide (i < j)
abbrev vLe := vCmp fun i j => decide (i ≤ j)
abbrev vGt := vCmp fun i j => decide (j < i)
abbrev vGe := vCmp fun i j => decide (j ≤ i)
section
variable {X : Cx} {C : Addr} {E : XK} {a b c : Expr} {ta tb tc : TE} {ca cb cc : CE} {pos : Pos} {k : Nat}
theorem de_add (ha : DE X C E ta ca a) (hb : DE X C E tb cb b) : DE X C E (tOp (rAdd X.K) ta tb) (cOp2 vAdd ca cb) (.BinOp a .Add b pos) := de_op op_addA o_add noex_add ha hb
theorem de_sub (ha : DE X C E ta ca a) (hb : DE X C E tb cb b) : DE X C E (tOp (rI0 fun i j => .int (i - j)) ta tb) (cOp2 vSub ca cb) (.BinOp a .Sub b pos) := de_op op_sub (o_int0 fun _ _ _ => .int _) noex_i0 ha hb
theorem de_mul (ha : DE X C E ta ca a) (hb : DE X C E tb cb b) : DE X C E (tOp rMul ta tb) (cOp2 vMul ca cb) (.BinOp a .Mult b pos) := de_op op_mulA o_mul noex_mul ha hb
theorem de_mod (ha : DE X C E ta ca a) (hb : DE X C E tb cb b) : DE X C E (tOp (rI (fun _ j => 0 < j) fun i j => .int (i % j)) ta tb) (cOp2 vMod ca cb) (.BinOp a .Mod b pos) := de_op op_mod (o_intC fun _ _ _ => .int _) noex_ic ha hb
theorem de_eq (hr : Room k X.A) (ha : DE X C E ta ca a) (hb : DE X C E tb cb b) : DE X C E (tOp (rEqD X.K) ta tb) (cOp2 vEq ca cb) (.Compare a [.Eq] [b] pos) := de_cmp (op_eqD (hu64 hr)) (nomark _) o_eq noex_eq ha hb
theorem de_ne (hr : Room k X.A) (ha : DE X C E ta ca a) (hb : DE X C E tb cb b) : DE X C E (tOp (rNeD X.K) ta tb) (cOp2 vNe ca cb) (.Compare a [.NotEq] [b] pos) := de_cmp (op_neD (hu64 hr)) (nomark _) o_ne noex_ne ha hb
theorem de_lt (ha : DE X C E ta ca a) (hb : DE X C E tb cb b) : DE X C E (tOp (rI0 fun i j => .bl (decide (i < j))) ta tb) (cOp2 vLt ca cb) (.Compare a [.Lt] [b] pos) := de_cmp op_lt (nomark _) (o_int0 fun _ _ _ => .bl _) noex_i0 ha hb
theorem de_le (ha : DE X C E ta ca a) (hb : DE X C E tb cb b) : DE X C E (tOp (rI0 fun i j => .bl (decide (i ≤ j))) ta tb) (cOp2 vLe ca cb) (.Compare a [.LtE] [b] pos) := de_cmp op_le (nomark _) (o_int0 fun _ _ _ => .bl _) noex_i0 ha hb
theorem de_gt (ha : DE X C E ta ca a) (hb : DE X C E tb cb b) : DE X C E (tOp (rI0 fun i j => .bl (decide (j < i))) ta tb) (cOp2 vGt ca cb) (.Compare a [.Gt] [b] pos) := de_cmp op_gt (nomark _) (o_int0 fun _ _ _ => .bl _) noex_i0 ha hb
theorem de_ge (ha : DE X C E ta ca a) (hb : DE X C E tb cb b) : DE X C E (tOp (rI0 fun i j => .bl (decide (j ≤ i))) ta tb) (cOp2 vGe ca cb) (.Compare a [.GtE] [b] pos) := de_cmp op_ge (nomark _) (o_int0 fun _ _ _ => .bl _) noex_i0 ha hb
theorem de_isN (ha : DE X C E ta ca a) (hb : DE X C E tb cb b) : DE X C E (tOp (fun x y H Q => y = .non ∧ Q (.bl (decide (x = .non))) H) ta tb) (cOp2 vIsN ca cb) (.Compare a [.Is] [b] pos) := de_cmp op_isN (nomark _) o_isN noex_isN ha hb
theorem de_in (hr : Room k X.A) (ha : DE X C E ta ca a) (hb : DE X C E tb cb b) (hm : behindInMarks .In b = false := by rfl) : DE X C E (tOp (rInA X.K) ta tb) (cOp2 vIn ca cb) (.Compare a [.In] [b] pos) := de_cmp (op_inA (hu65 hr)) hm o_in noex_in ha hb
theorem de_notIn (hr : Room k X.A) (ha : DE X C E ta ca a) (hb : DE X C E tb cb b) (hm : behindInMarks .NotIn b = false := by rfl) : DE X C E (tOp (rNotInA X.K) ta tb) (cOp2 vNotIn ca cb) (.Compare a [.NotIn] [b] pos) := de_cmp (op_notInA (hu65 hr)) hm o_notIn noex_notIn ha hb
theorem dt_eq (hr : Room k X.A) (ha : DE X C E ta ca a) (hb : DE X C E tb cb b) : DT X C E (tTest (tOp (rEqD X.K) ta tb)) (cT (cOp2 vEq ca cb)) (.Compare a [.Eq] [b] pos) := dt_cmp (op_eqD (hu64 hr)) (nomark _) o_eq noex_eq ha hb
theorem dt_ne (hr : Room k X.A) (ha : DE X C E ta ca a) (hb : DE X C E tb cb b) : DT X C E (tTest (tOp (rNeD X.K) ta tb)) (cT (cOp2 vNe ca cb)) (.Compare a [.NotEq] [b] pos) := dt_cmp (op_neD (hu64 hr)) (nomark _) o_ne noex_ne ha hb
theorem dt_lt (ha : DE X C E ta ca a) (hb : DE X C E tb cb b) : DT X C E (tTest (tOp (rI0 fun i j => .bl (decide (i < j))) ta tb)) (cT (cOp2 vLt ca cb)) (.Compare a [.Lt] [b] pos) := dt_cmp op_lt (nomark _) (o_int0 fun _ _ _ => .bl _) noex_i0 ha hb
theorem dt_le (ha : DE X C E ta ca a) (hb : DE X C E tb cb b) : DT X C E (tTest (tOp (rI0 fun i j => .bl (decide (i ≤ j))) ta tb)) (cT (cOp2 vLe ca cb)) (.Compare a [.LtE] [b] pos) := dt_cmp op_le (nomark _) (o_int0 fun _ _ _ => .bl _) noex_i0 ha hb
theorem dt_gt (ha : DE X C E ta ca a) (hb : DE X C E tb cb b) : DT X C E (tTest (tOp (rI0 fun i j => .bl (decide (j < i))) ta tb)) (cT (cOp2 vGt ca cb)) (.Compare a [.Gt] [b] pos) := dt_cmp op_gt (nomark _) (o_int0 fun _ _ _ => .bl _) noex_i0 ha hb
theorem dt_ge (ha : DE X C E ta ca a) (hb : DE X C E tb cb b) : DT X C E (tTest (tOp (rI0 fun i j => .bl (decide (j ≤ i))) ta tb)) (cT (cOp2 vGe ca cb)) (.Compare a [.GtE] [b] pos) := dt_cmp op_ge (nomark _) (o_int0 fun _ _ _ => .bl _) noex_i0 ha hb
theorem dt_isN (ha : DE X C E ta ca a) (hb : DE X C E tb cb b) : DT X C E (tTest (tOp (fun x y H Q => y = .non ∧ Q (.bl (decide (x = .non))) H) ta tb)) (cT (cOp2 vIsN ca cb)) (.Compare a [.Is] [b] pos) := dt_cmp op_isN (nomark _) o_isN noex_isN ha hb
theorem dt_in (hr : Room k X.A) (ha : DE X C E ta ca a) (hb : DE X C E tb cb b) (hm : behindInMarks .In b = false := by rfl) : DT X C E (tTest (tOp (rInA X.K) ta tb)) (cT (cOp2 vIn ca cb)) (.Compare a [.In] [b] pos) := dt_cmp (op_inA (hu65 hr)) hm o_in noex_in ha hb
theorem dt_notIn (hr : Room k X.A) (ha : DE X C E ta ca a) (hb : DE X C E tb cb b) (hm : behindInMarks .NotIn b = false := by rfl) : DT X C E (tTest (tOp (rNotInA X.K) ta tb)) (cT (cOp2 vNotIn ca cb)) (.Compare a [.NotIn] [b] pos) := dt_cmp (op_notInA (hu65 hr)) hm o_notIn noex_notIn ha hb
theorem de_lele (ha : DE X C E ta ca a) (hb : DE X C E tb cb b) (hc : DE X C E tc cc c) (hm : lastMarks [.LtE, .LtE] [b, c] = false := by with_unfolding_all rfl) : DE X C E (tChain (rI0 fun i j => .bl (decide (i ≤ j))) (rI0 fun i j => .bl (decide (i ≤ j))) ta tb tc) (cChain vLe vLe ca cb cc) (.Compare a [.LtE, .LtE] [b, c] pos) := de_chain op_le op_le (o_int0 fun _ _ _ => .bl _) noex_i0 (o_int0 fun _ _ _ => .bl _) noex_i0 ha hb hc hm
theorem dt_lele (ha : DE X C E ta ca a) (hb : DE X C E tb cb b) (hc : DE X C E tc cc c) (hm : lastMarks [.LtE, .LtE] [b, c] = false := by with_unfolding_all rfl) : DT X C E (tTest (tChain (rI0 fun i j => .bl (decide (i ≤ j))) (rI0 fun i j => .bl (decide (i ≤ j))) ta tb tc)) (cT (cChain vLe vLe ca cb cc)) (.Compare a [.LtE, .LtE] [b, c] pos) := dt_chain op_le op_le (o_int0 fun _ _ _ => .bl _) noex_i0 (o_int0 fun _ _ _ => .bl _) noex_i0 ha hb hc hm
theorem de_lelt (ha : DE X C E ta ca a) (hb : DE X C E tb cb b) (hc : DE X C E tc cc c) (hm : lastMarks [.LtE, .Lt] [b, c] = false := by with_unfolding_all rfl) : DE X C E (tChain (rI0 fun i j => .bl (decide (i ≤ j))) (rI0 fun i j => .bl (decide (i < j))) ta tb tc) (cChain vLe vLt ca cb cc) (.Compare a [.LtE, .Lt] [b, c] pos) := de_chain op_le op_lt (o_int0 fun _ _ _ => .bl _) noex_i0 (o_int0 fun _ _ _ => .bl _) noex_i0 ha hb hc hm
theorem dt_lelt (ha : DE X C E ta ca a) (hb : DE X C E tb cb b) (hc : DE X C E tc cc c) (hm : lastMarks [.LtE, .Lt] [b, c] = false := by with_unfolding_all rfl) : DT X C E (tTest (tChain (rI0 fun i j => .bl (decide (i ≤ j))) (rI0 fun i j => .bl (decide (i < j))) ta tb tc)) (cT (cChain vLe vLt ca cb cc)) (.Compare a [.LtE, .Lt] [b, c] pos) := dt_chain op_le op_lt (o_int0 fun _ _ _ => .bl _) noex_i0 (o_int0 fun _ _ _ => .bl _) noex_i0 ha hb hc hm
theorem dt_ltlt (ha : DE X C E ta ca a) (hb : DE X C E tb cb b) (hc : DE X C E tc cc c) (hm : lastMarks [.Lt, .Lt] [b, c] = false := by with_unfolding_all rfl) : DT X C E (tTest (tChain (rI0 fun i j => .bl (decide (i < j))) (rI0 fun i j => .bl (decide (i < j))) ta tb tc)) (cT (cChain vLt vLt ca cb cc)) (.Compare a [.Lt, .Lt] [b, c] pos) := dt_chain op_lt op_lt (o_int0 fun _ _ _ => .bl _) noex_i0 (o_int0 fun _ _ _ => .bl _) noex_i0 ha hb hc hm
theorem de_idx (ha : DE X C E ta ca a) (hb : DE X C E tb cb b) (hs : PlainIx b := by exact fun _ _ => rfl) : DE X C E (tOp (rIx X.K) ta tb) (cOp2 idxD ca cb) (.Subscript a b pos) := de_ix ix_seq hs o_idx noex_idx ha hb
end
/-! xs[::-1] -/
def vRev (p : PV) : R PV := match p.litems with
  | some l => .ok (.fr l.reverse)
  | none => .bad
theorem DrAll.rev {K : PySem.W.Frag} {H : Hp} {vs : List V} {l : List D} (r : DrAll K H vs l) : DrAll K H vs.reverse l.reverse := by
  induction l generalizing vs with
  | nil =>
    cases r
    exact .nil
  | cons d ds ih =>
    cases r with
    | cons h1 h2 =>
      rw [List.reverse_cons, List.reverse_cons]
      exact (ih h2).app (.cons h1 .nil)
theorem de_rev {X : Cx} {C : Addr} {E : XK} {e : Expr} {te : TE} {c : CE} {k : Nat} {p1 p2 p3 pos : Pos} (h : DE X C E te c e) : DE X C E (tRevL X.K te) (fun G => (c G).bind vRev) (.Subscript e (.Slice none none (some (.UnaryOp .USub (.Constant (.int 1) k p1) p2)) p3) pos) := by
  refine ⟨pe_revL h.pe, fun H0 hd G σ H Q r q => ?_⟩
  refine h.snd.imp r q fun pv v H1 s1 rp1 r1 q1 => ?_
  unfold vRev at q1
  split at q1
  · rename_i l el
    obtain ⟨p, ws, rfl, hs, da⟩ := r1.seqL el
    exact ⟨p, ws, rfl, hs, fun a n => q1 _ _ (same_upd n) (.new rp1.odom n da.rev)⟩
  · exact q1.elim
section
variable {X : Cx} {C : Addr} {E : XK} {e : Expr} {es : List Expr} {ta : TA} {ca : CA} {p pos : Pos} {i : Nat} {te : TE} {c : CE} {x : Str} {pos' : Pos}
theorem de_len (hm : X.mg "len" = none) (a : DA X C E ta ca (e :: es)) (hg : Gl X "len" := by rfl) (he : starEach (e :: es) X.env = (false, eval e X.env) :: starEach es X.env := by rfl) (hpl : (backTo pos (starEach es X.env)).any (·.1) = false := by rfl) :
    DE X C E (tCB (fun xs H Q => ∃ x n, xs = [x] ∧ LenV X.K x H n ∧ Q (.int n) H) ta) (cB gLen ca) (.Call (.Name "len" p) (e :: es) [] pos) := de_callB call_len o_len noex_len hm PySem.boot_len a hg (by decide) (by decide) he hpl
theorem de_tuple (hm : X.mg "tuple" = none) (a : DA X C E ta ca (e :: es)) (hg : Gl X "tuple" := by rfl) (he : starEach (e :: es) X.env = (false, eval e X.env) :: starEach es X.env := by rfl) (hpl : (backTo pos (starEach es X.env)).any (·.1) = false := by rfl) :
    DE X C E (tCB (fun xs H Q => ∃ p ys, xs = [.ref p] ∧ ((SqL X.K H p ys ∧ ∀ l, H l = none → Q (.ref l) (upd H l (.tup ys))) ∨ (SqT X.K H p ys ∧ Q (.ref p) H))) ta) (cB gTuple ca) (.Call (.Name "tuple" p) (e :: es) [] pos) := de_callTy call_tuple_of o_tuple noex_tuple hm boot_tuple a hg (by decide) (by decide) he hpl
theorem de_list (hm : X.mg "list" = none) (a : DA X C E ta ca (e :: es)) (hg : Gl X "list" := by rfl) (he : starEach (e :: es) X.env = (false, eval e X.env) :: starEach es X.env := by rfl) (hpl : (backTo pos (starEach es X.env)).any (·.1) = false := by rfl) :
    DE X C E (tCB (fun xs H Q => ∃ p ys, xs = [.ref p] ∧ (SqL X.K H p ys ∨ SqT X.K H p ys) ∧ ∀ l, H l = none → Q (.ref l) (upd H l (.lst ys))) ta) (cB gList ca) (.Call (.Name "list" p) (e :: es) [] pos) := de_callTy call_list_of o_list noex_list hm (by decide +kernel) a hg (by decide) (by decide) he hpl
theorem de_sum (hc : X.calm = true) (hm : X.mg "sum" = none) (a : DA X C E ta ca (e :: es)) (hg : Gl X "sum" := by rfl) (he : starEach (e :: es) X.env = (false, eval e X.env) :: starEach es X.env := by rfl) (hpl : (backTo pos (starEach es X.env)).any (·.1) = false := by rfl) :
    DE X C E (tCB (rSum X.K) ta) (cB gSum ca) (.Call (.Name "sum" p) (e :: es) [] pos) := de_callB (cr_sum hc) o_sum noex_sum hm (by decide +kernel) a hg (by decide) (by decide) he hpl
theorem de_all (hc : X.calm = true) (hm : X.mg "all" = none) (a : DA X C E ta ca (e :: es)) (hg : Gl X "all" := by rfl) (he : starEach (e :: es) X.env = (false, eval e X.env) :: starEach es X.env := by rfl) (hpl : (backTo pos (starEach es X.env)).any (·.1) = false := by rfl) :
    DE X C E (tCB (rAll X.K) ta) (cB gAll ca) (.Call (.Name "all" p) (e :: es) [] pos) := de_callB (cr_all hc) o_all noex_all hm (by decide +kernel) a hg (by decide) (by decide) he hpl
theorem de_max (hc : X.calm = true) (hm : X.mg "max" = none) (a : DA X C E ta ca (e :: es)) (hg : Gl X "max" := by rfl) (he : starEach (e :: es) X.env = (false, eval e X.env) :: starEach es X.env := by rfl) (hpl : (backTo pos (starEach es X.env)).any (·.1) = false := by rfl) :
    DE X C E (tCB (fun xs H Q => ∃ i j, xs = [.int i, .int j] ∧ Q (.int (if j > i then j else i)) H) ta) (cB gMax ca) (.Call (.Name "max" p) (e :: es) [] pos) := de_callB (call_max2 hc) o_int2 noex_int2 hm (by decide +kernel) a hg (by decide) (by decide) he hpl
theorem de_min (hc : X.calm = true) (hm : X.mg "min" = none) (a : DA X C E ta ca (e :: es)) (hg : Gl X "min" := by rfl) (he : starEach (e :: es) X.env = (false, eval e X.env) :: starEach es X.env := by rfl) (hpl : (backTo pos (starEach es X.env)).any (·.1) = false := by rfl) :
    DE X C E (tCB (fun xs H Q => ∃ i j, xs = [.int i, .int j] ∧ Q (.int (if j < i then j else i)) H) ta) (cB gMin ca) (.Call (.Name "min" p) (e :: es) [] pos) := de_callB (call_min2 hc) o_int2 noex_int2 hm (by decide +kernel) a hg (by decide) (by decide) he hpl
theorem de_strI (hm : X.mg "str" = none) (a : DA X C E ta ca (e :: es)) (hg : Gl X "str" := by rfl) (he : starEach (e :: es) X.env = (false, eval e X.env) :: starEach es X.env := by rfl) (hpl : (backTo pos (starEach es X.env)).any (·.1) = false := by rfl) :
    DE X C E (tCB (fun xs H Q => ∃ i, xs = [.int i] ∧ i.natAbs.log2 < 1920 ∧ Q (.str (toString i)) H) ta) (cB gStr ca) (.Call (.Name "str" p) (e :: es) [] pos) := de_callTy call_str_int o_str noex_str hm (by decide +kernel) a hg (by decide) (by decide) he hpl
theorem de_ord (hm : X.mg "ord" = none) (a : DA X C E ta ca (e :: es)) (hg : Gl X "ord" := by rfl) (he : starEach (e :: es) X.env = (false, eval e X.env) :: starEach es X.env := by rfl) (hpl : (backTo pos (starEach es X.env)).any (·.1) = false := by rfl) :
    DE X C E (tCB (fun xs H Q => ∃ x, xs = [.str x] ∧ x.length = 1 ∧ Q (.int (x.cps.getD 0 0 : Nat)) H) ta) (cB gOrd ca) (.Call (.Name "ord" p) (e :: es) [] pos) := de_callB call_ord o_ord noex_ord hm (by decide +kernel) a hg (by decide) (by decide) he hpl
abbrev vAddI := vInt fun i j => i + j
theorem ds_augAdd (hN : X.N.Nodup) (hi : X.N[i]? = some x) (hx : Loc X.env.scope x) (h : DE X C E te c e) (hf : X.fn x = true ∨ X.env.scope.names.lookup x = some .local := by first | exact .inl rfl | exact .inr rfl) : DS X C E (tAug i te (rI0 fun i j => .int (i + j))) (cAug i vAddI c) (.AugAssign (.Name x pos') .Add e pos) := ds_aug hN hi hx h iop_add (o_int0 fun _ _ _ => .int _) noex_i0 hf
theorem ds_augSub (hN : X.N.Nodup) (hi : X.N[i]? = some x) (hx : Loc X.env.scope x) (h : DE X C E te c e) (hf : X.fn x = true ∨ X.env.scope.names.lookup x = some .local := by first | exact .inl rfl | exact .inr rfl) : DS X C E (tAug i te (rI0 fun i j => .int (i - j))) (cAug i vSub c) (.AugAssign (.Name x pos') .Sub e pos) := ds_aug hN hi hx h iop_sub (o_int0 fun _ _ _ => .int _) noex_i0 hf
theorem ds_augDiv (hN : X.N.Nodup) (hi : X.N[i]? = some x) (hx : Loc X.env.scope x) (h : DE X C E te c e) (hf : X.fn x = true ∨ X.env.scope.names.lookup x = some .local := by first | exact .inl rfl | exact .inr rfl) : DS X C E (tAug i te (rI CDiv fun i j => .int (i / j))) (cAug i vDiv c) (.AugAssign (.Name x pos') .FloorDiv e pos) := ds_aug hN hi hx h iop_fdiv (o_intC fun _ _ _ => .int _) noex_ic hf
end
end BT
/-! A slot's list of own lists: made, lengthened, its last list lengthened. -/
namespace BT
open PySem PySem.Spec PyProof.Rows L2
section
variable {K : PySem.W.Frag} {H0 : Hp} {O0 : Addr → Prop} {own : Nat → Addr → Prop} {gs : List (V × D)} {H H1 : Hp} {G : Ev} {σ : L2.St}
/-- a slot takes new lists, N: their addresses (and, where it owned some before, these) -/
theorem Rep.adopt (r : Rep K H0 ⟨O0, own, gs⟩ H G σ) {i : Nat} {N : Addr → Prop} {s : Sl} {ov : Option V} (sm : ∀ a o, H a = some o → ¬ own i a → H1 a = some o) (sm0 : Same H0 H1) (n0 : ∀ a, N a → H0 a = none) (nO : ∀ a, N a → ¬ own i a → H a = none) (nd : ∀ a, N a → ∃ o, H1 a = some o)
    (keep : ∀ a, own i a → N a) (hs : HoldR K (hide (Hd.O ⟨O0, fun j a => if j = i then N a else own j a, gs⟩) H1) H1 N s ov) : Rep K H0 ⟨O0, fun j a => if j = i then N a else own j a, gs⟩ H1 (G.set i s) (σ.set i ov) := by
  have atI : ∀ {a}, (if i = i then N a else own i a) = N a := fun {a} => if_pos rfl
  have out : ∀ a, Hd.O ⟨O0, fun j a => if j = i then N a else own j a, gs⟩ a → Hd.O ⟨O0, own, gs⟩ a ∨ H a = none := fun a z => by
    rcases z with z | ⟨j, z⟩
    · exact .inl (.inl z)
    · have z' : if j = i then N a else own j a := z
      by_cases e : j = i
      · rw [if_pos e] at z'
        by_cases c : own i a
        · exact .inl (.inr ⟨i, c⟩)
        · exact .inr (nO a z' c)
      · rw [if_neg e] at z'
        exact .inl (.inr ⟨j, z'⟩)
  have vis : Same (hide (Hd.O ⟨O0, own, gs⟩) H) (hide (Hd.O ⟨O0, fun j a => if j = i then N a else own j a, gs⟩) H1) := fun b o h => by
    obtain ⟨h1, h2⟩ := hide_some h
    rw [hide_out fun z => by
      rcases out b z with q | q
      · exact h1 q
      · rw [h2] at q
        cases q]
    exact sm b o h2 fun z => h1 (.inr ⟨i, z⟩)
  refine ⟨sm0, r.sub, fun j a z => ?_, fun j a z => ?_, fun j k a z1 z2 => ?_, by rw [List.length_set, List.length_set]; exact r.len, fun j t e => ?_, fun g m => Dr.mono vis _ _ (r.gh g m)⟩
  · have z' : if j = i then N a else own j a := z
    split at z'
    · exact n0 a z'
    · exact r.fresh j a z'
  · have z' : if j = i then N a else own j a := z
    split at z'
    · exact nd a z'
    · rename_i ne
      obtain ⟨o, q⟩ := r.dom j a z'
      exact ⟨o, sm a o q fun y => ne (r.dis j i a z' y)⟩
  · have y1 : if j = i then N a else own j a := z1
    have y2 : if k = i then N a else own k a := z2
    have clash : ∀ {m}, N a → m ≠ i → own m a → False := fun {m} y ne z => by
      by_cases c : own i a
      · exact ne (r.dis m i a z c)
      · obtain ⟨o, q⟩ := r.dom m a z
        rw [nO a y c] at q
        cases q
    by_cases e1 : j = i
    · by_cases e2 : k = i
      · rw [e1, e2]
      · rw [if_pos e1] at y1
        rw [if_neg e2] at y2
        exact (clash y1 e2 y2).elim
    · by_cases e2 : k = i
      · rw [if_neg e1] at y1
        rw [if_pos e2] at y2
        exact (clash y2 e1 y1).elim
      · rw [if_neg e1] at y1
        rw [if_neg e2] at y2
        exact r.dis j k a y1 y2
  · rcases get_set e with ⟨e1, e2, e3⟩ | ⟨e1, e2⟩
    · subst e1 e2
      refine ⟨ov, List.getElem?_set_self (by rw [r.len]; exact e3), ?_⟩
      have ef : (fun a => if i = i then N a else own i a) = N := funext fun a => if_pos rfl
      show HoldR K _ H1 (fun a => if i = i then N a else own i a) t ov
      rw [ef]
      exact hs
    · obtain ⟨ou, q1, q2⟩ := r.slot j t e2
      refine ⟨ou, by rw [List.getElem?_set_ne e1]; exact q1, ?_⟩
      have q3 := q2.mono (H' := H1) vis fun p o hp y => sm p o y fun z => e1 (r.dis i j p z hp)
      have ef : (fun a => if j = i then N a else own j a) = own j := funext fun a => if_neg (Ne.symm e1)
      show HoldR K _ H1 (fun a => if j = i then N a else own j a) t ou
      rw [ef]
      exact q3
end
def cNew0 (i : Nat) : CS := fun G => .ok (.nx, G.set i (.o2 []))
def cNew1 (i : Nat) : CS := fun G => .ok (.nx, G.set i (.o2 [[]]))
def cAppend2 (i : Nat) (c : CE) : CS := fun G => match G[i]? with
  | some (.o2 ll) => (c G).bind fun p => match p with
    | .fr l => if ll.length < 16777216 then .ok (.nx, G.set i (.o2 (ll ++ [l]))) else .bad
    | _ => .bad
  | _ => .bad
/-- the last of its lists -/
def cInner (i : Nat) (c : CE) : CS := fun G => match G[i]? with
  | some (.o2 ll) => (match atI ll (-1) with
    | some l => (c G).bind fun p => p.toD.bind fun d => if l.length < 16777216 then .ok (.nx, G.set i (.o2 (ll.set (ll.length - 1) (l ++ [d])))) else .bad
    | none => .bad)
  | _ => .bad
section
variable {X : Cx} {C : Addr} {E : XK} {te : TE} {c : CE} {e : Expr} {x : Str} {i : Nat} {p0 pos' apos cpos pos q1 q2 : Pos}
theorem Rep.owned2 {K : PySem.W.Frag} {H0 H : Hp} {h : Hd} {G : Ev} {σ : L2.St} (r : Rep K H0 h H G σ) {i : Nat} {ll : List (List D)} (e : G[i]? = some (.o2 ll)) : ∃ p qs, σ[i]? = some (some (.ref p)) ∧ h.own i p ∧ H p = some (.lst (qs.map V.ref)) ∧ Nest K (hide h.O H) H (h.own i) p qs ll := by
  obtain ⟨ov, q1, p, qs, rfl, h1, h2, h3⟩ := r.slot i _ e
  exact ⟨p, qs, q1, h1, h2, h3⟩
/-- what the slot owned is forgotten -/
theorem Rep.drop {K : PySem.W.Frag} {H0 H : Hp} {O0 : Addr → Prop} {own : Nat → Addr → Prop} {gs : List (V × D)} {G : Ev} {σ : L2.St} (r : Rep K H0 ⟨O0, own, gs⟩ H G σ) (i : Nat) : Rep K H0 ⟨O0, fun j a => j ≠ i ∧ own j a, gs⟩ H (G.set i .un) σ := by
  have sub : ∀ a, Hd.O ⟨O0, fun j a => j ≠ i ∧ own j a, gs⟩ a → Hd.O ⟨O0, own, gs⟩ a := fun a z => by
    rcases z with z | ⟨j, _, z⟩
    · exact .inl z
    · exact .inr ⟨j, z⟩
  refine ⟨r.same, r.sub, fun j a z => r.fresh j a z.2, fun j a z => r.dom j a z.2, fun j k a z1 z2 => r.dis j k a z1.2 z2.2, by rw [List.length_set]; exact r.len, fun j s e => ?_, fun g m => Dr.mono (hide_more sub) _ _ (r.gh g m)⟩
  rcases get_set e with ⟨e1, e2, e3⟩ | ⟨e1, e2⟩
  · subst e1 e2
    exact ⟨_, List.getElem?_eq_getElem (by rw [r.len]; exact e3), trivial⟩
  · obtain ⟨ov, q1, q2⟩ := r.slot j s e2
    refine ⟨ov, q1, ?_⟩
    have q3 := q2.mono (H' := H) (hide_more sub) fun p o _ y => y
    have ef : (fun a => j ≠ i ∧ own j a) = own j := funext fun a => propext ⟨fun z => z.2, fun z => ⟨Ne.symm e1, z⟩⟩
    show HoldR K _ H (fun a => j ≠ i ∧ own j a) s ov
    rw [ef]
    exact q3
theorem set_un (G : Ev) (i : Nat) (s : Sl) : (G.set i .un).set i s = G.set i s := List.set_set ..
theorem ds_new0 (hN : X.N.Nodup) (hi : X.N[i]? = some x) (hx : Loc X.env.scope x) (hs : swapsWith (.List [] q1) (some (.Name x pos')) pos.line X.env = pure false := by rfl) (hf : X.fn x = true ∨ X.env.scope.names.lookup x = some .local := by first | exact .inl rfl | exact .inr rfl) :
    DS X C E (tAsg (tLst tNil) (gName i)) (cNew0 i) (.Assign [.Name x pos'] (.List [] q1) pos) := by
  refine ⟨ps_set hN hi hx (pe_lst pa_nil) hs hf, fun H0 O0 own gs G σ H D r q => ⟨Nat.zero_le _, fun p n => ?_⟩⟩
  have r' := r.drop i
  have n0 := r.same.free n
  have rr := Rep.adopt (i := i) (N := fun a => a = p) (s := .o2 []) (ov := some (.ref p)) (H1 := upd H p (.lst [])) r' (fun a o z _ => same_upd n a o z) (r.same.trans (same_upd n)) (fun a e => by rw [e]; exact n0) (fun a e _ => by rw [e]; exact n) (fun a e => by rw [e]; exact ⟨_, upd_same⟩) (fun a z => absurd rfl z.1) ⟨p, [], rfl, rfl, upd_same, .nil⟩
  rw [set_un] at rr
  exact q _ _ _ rr
theorem ds_new1 (hN : X.N.Nodup) (hi : X.N[i]? = some x) (hx : Loc X.env.scope x) (hs : swapsWith (.List [.List [] q1] q2) (some (.Name x pos')) pos.line X.env = pure false := by rfl) (hf : X.fn x = true ∨ X.env.scope.names.lookup x = some .local := by first | exact .inl rfl | exact .inr rfl) (he : starEach [.List [] q1] X.env = (false, eval (.List [] q1) X.env) :: starEach [] X.env := by rfl) :
    DS X C E (tAsg (tLst (tCons (tLst tNil) tNil)) (gName i)) (cNew1 i) (.Assign [.Name x pos'] (.List [.List [] q1] q2) pos) := by
  refine ⟨ps_set hN hi hx (pe_lst (pa_cons (pe_lst pa_nil) pa_nil he)) hs hf, fun H0 O0 own gs G σ H D r q => ⟨Nat.zero_le _, fun a na => ⟨by show 1 ≤ sizeLine; decide, fun p np => ?_⟩⟩⟩
  have r' := r.drop i
  have nap : a ≠ p := fun z => by
    rw [← z, upd_same] at np
    cases np
  have np0 : H p = none := (same_upd na).free np
  have s2 : Same H (upd (upd H a (.lst [])) p (.lst [.ref a])) := (same_upd na).trans (same_upd np)
  have rr := Rep.adopt (i := i) (N := fun b => b = p ∨ b = a) (s := .o2 [[]]) (ov := some (.ref p)) (H1 := upd (upd H a (.lst [])) p (.lst [.ref a])) r' (fun b o z _ => s2 b o z) (r.same.trans s2) (fun b e => by
      rcases e with e | e
      · rw [e]
        exact r.same.free np0
      · rw [e]
        exact r.same.free na) (fun b e _ => by
      rcases e with e | e
      · rw [e]
        exact np0
      · rw [e]
        exact na) (fun b e => by
      rcases e with e | e
      · rw [e]
        exact ⟨_, upd_same⟩
      · rw [e, upd_ne nap]
        exact ⟨_, upd_same⟩) (fun b z => absurd rfl z.1) ⟨p, [a], rfl, .inl rfl, upd_same, .cons (.inr rfl) nap (by simp) (by rw [upd_ne nap]; exact upd_same) .nil .nil⟩
  rw [set_un] at rr
  exact q _ _ _ rr
theorem ds_append2 (i : Nat) (h : DE X C E te c e) (hN : X.N[i]? = some x := by rfl) (hv : Vis X.env.scope x := by first | exact Or.inl rfl | exact Or.inr (Or.inl rfl) | exact Or.inr (Or.inr rfl)) (hd : (x == ("__debug__" : Str)) = false := by decide) (hc : (x == ("__classdict__" : Str)) = false := by decide)
    (hbase : attributeBase (.Name x p0) "append" X.env (eval (.Name x p0) X.env) = eval (.Name x p0) X.env := by rfl)
    (hfew : ((backTo cpos (starEach [e] X.env)).all (fun x => !x.1) && (backToKw cpos (keywordEach [] X.env)).all (fun x => x.1.isSome) && decide ([e].length + ([] : List Keyword).length + (if ([] : List Keyword).isEmpty then 0 else 1) < 30)) = true := by rfl)
    (hline : (apos.endLine == cpos.line) = true := by rfl) (hs : starEach (e :: []) X.env = (false, eval e X.env) :: starEach [] X.env := by rfl) (hplain : (backTo cpos (starEach [] X.env)).any (·.1) = false := by rfl)
    (hsw : swapsWith (.Call (.Attribute (.Name x p0) "append" apos) [e] [] cpos) none pos.line X.env = pure false := by rfl) :
    DS X C E (tDrop (tBM X.K "list" rAppend (tVar i) (tCons te tNil))) (cAppend2 i c) (.Expr (.Call (.Attribute (.Name x p0) "append" apos) [e] [] cpos) pos) := by
  refine ⟨ps_expr (pe_bm PySem.F.plainAttrs_list PySem.F.slot_list_append PySem.F.type_list_append mt_append (pe_var hN hv hd hc) (pa_cons h.pe pa_nil hs) hbase hfew hline hs hplain) hsw, fun H0 O0 own gs G σ H D r q => ?_⟩
  unfold cAppend2 at q
  split at q
  · rename_i ll el
    obtain ⟨p, qs, q1, h1, h2, h3⟩ := r.owned2 el
    refine ⟨_, q1, .inl ⟨rfl, _, .of h2⟩, ?_⟩
    refine h.snd H0 ⟨O0, own, gs⟩ G σ H _ r ?_
    cases e1 : c G with
    | ex k p =>
      rw [e1] at q
      exact q
    | bad =>
      rw [e1] at q
      exact q
    | ok pv =>
      rw [e1, R.bind_ok] at q
      intro w H1 sm rw'
      cases pv with
      | fr l =>
        dsimp only at q
        by_cases hz : ll.length < 16777216
        · rw [if_pos hz] at q
          obtain ⟨b, vs, rfl, nb, no, hb, db⟩ := rw'
          refine ⟨p, qs.map V.ref, .ref b, rfl, rfl, sm p _ h2, by rw [line_eq, List.length_map, h3.len]; exact hz, ?_⟩
          have nbp : b ≠ p := fun z => by
            rw [z, h2] at nb
            cases nb
          have nbq : b ∉ qs := fun z => by
            obtain ⟨_, _, vs', hq⟩ := h3.mem b z
            rw [nb] at hq
            cases hq
          have nown : ∀ j, ¬ own j b := fun j z => no (.inr ⟨j, z⟩)
          have r1 := r.grow sm
          have hp1 := sm p _ h2
          have rr := Rep.adopt (i := i) (N := fun a => own i a ∨ a = b) (s := .o2 (ll ++ [l])) (ov := some (.ref p)) (H1 := upd H1 p (.lst (qs.map V.ref ++ [.ref b]))) r (fun a o z y => by rw [upd_ne fun k => y (by rw [k]; exact h1)]; exact sm a o z) (same_mut r1.same (r.fresh i p h1)) (fun a z => by
              rcases z with z | z
              · exact r.fresh i a z
              · rw [z]
                exact r.same.free nb) (fun a z y => by
              rcases z with z | z
              · exact absurd z y
              · rw [z]
                exact nb) (fun a z => by
              by_cases e : a = p
              · rw [e]
                exact ⟨_, upd_same⟩
              · rw [upd_ne e]
                rcases z with z | z
                · exact r1.dom i a z
                · rw [z]
                  exact ⟨_, hb⟩) (fun a z => .inl z) ⟨p, qs ++ [b], rfl, .inl h1, by rw [List.map_append]; exact upd_same, ?_⟩
          · have eσ : σ.set i (some (.ref p)) = σ := by
              apply List.ext_getElem?
              intro j
              by_cases hj : i = j
              · subst hj
                rw [List.getElem?_set_self (List.getElem?_eq_some_iff.mp q1).1, q1]
              · rw [List.getElem?_set_ne hj]
            rw [eσ] at rr
            exact q _ _ _ rr
          · have hid : ∀ a, Hd.O ⟨O0, fun j a => if j = i then (own i a ∨ a = b) else own j a, gs⟩ a → a = b ∨ Hd.O ⟨O0, own, gs⟩ a := fun a z => by
              rcases z with z | ⟨j, z⟩
              · exact .inr (.inl z)
              · have z' : if j = i then (own i a ∨ a = b) else own j a := z
                split at z'
                · rcases z' with z' | z'
                  · exact .inr (.inr ⟨i, z'⟩)
                  · exact .inl z'
                · exact .inr (.inr ⟨j, z'⟩)
            have pin : Hd.O ⟨O0, fun j a => if j = i then (own i a ∨ a = b) else own j a, gs⟩ p := .inr ⟨i, by show if i = i then (own i p ∨ p = b) else own i p; rw [if_pos rfl]; exact .inl h1⟩
            have v1 : Same (hide (Hd.O ⟨O0, own, gs⟩) H) (hide (Hd.O ⟨O0, fun j a => if j = i then (own i a ∨ a = b) else own j a, gs⟩) (upd H1 p (.lst (qs.map V.ref ++ [.ref b])))) := by
              rw [hide_upd pin]
              exact hide_same sm fun a z => (hid a z).elim (fun e => .inr (by rw [e]; exact nb)) .inl
            have v2 : Same (hide (fun a => a = b ∨ Hd.O ⟨O0, own, gs⟩ a) H1) (hide (Hd.O ⟨O0, fun j a => if j = i then (own i a ∨ a = b) else own j a, gs⟩) (upd H1 p (.lst (qs.map V.ref ++ [.ref b])))) := by
              rw [hide_upd pin]
              exact hide_more hid
            have n1 := h3.mono (H' := upd H1 p (.lst (qs.map V.ref ++ [.ref b]))) (P' := fun a => own i a ∨ a = b) v1 (fun q o hq mq y => by
              obtain ⟨_, nq, _⟩ := h3.mem q mq
              rw [upd_ne nq]
              exact sm q o y) fun q y _ => .inl y
            exact n1.snoc (.inr rfl) nbp nbq (by rw [upd_ne nbp]; exact hb) (DrAll.mono v2 _ _ db)
        · rw [if_neg hz] at q
          exact q.elim
      | _ => exact q.elim
  · exact q.elim
theorem atI_neg1 {α : Type} {l : List α} {y : α} (h : atI l (-1) = some y) : l ≠ [] ∧ l[l.length - 1]? = some y := by
  unfold atI ixN at h
  rw [if_neg (by decide)] at h
  by_cases z : -(l.length : Int) ≤ -1
  · rw [if_pos z] at h
    have e : ((-1 : Int) + l.length).toNat = l.length - 1 := by omega
    refine ⟨fun k => by rw [k] at z; simp at z, ?_⟩
    rw [← e]
    exact h
  · rw [if_neg z] at h
    cases h
theorem ds_inner (i : Nat) {k1 : Nat} {m1 m2 m3 : Pos} (h : DE X C E te c e) (hN : X.N[i]? = some x := by rfl) (hv : Vis X.env.scope x := by first | exact Or.inl rfl | exact Or.inr (Or.inl rfl) | exact Or.inr (Or.inr rfl)) (hd : (x == ("__debug__" : Str)) = false := by decide) (hc : (x == ("__classdict__" : Str)) = false := by decide)
    (hbase : attributeBase (.Subscript (.Name x p0) (.UnaryOp .USub (.Constant (.int 1) k1 m1) m2) m3) "append" X.env (eval (.Subscript (.Name x p0) (.UnaryOp .USub (.Constant (.int 1) k1 m1) m2) m3) X.env) = eval (.Subscript (.Name x p0) (.UnaryOp .USub (.Constant (.int 1) k1 m1) m2) m3) X.env := by rfl)
    (hfew : ((backTo cpos (starEach [e] X.env)).all (fun x => !x.1) && (backToKw cpos (keywordEach [] X.env)).all (fun x => x.1.isSome) && decide ([e].length + ([] : List Keyword).length + (if ([] : List Keyword).isEmpty then 0 else 1) < 30)) = true := by rfl)
    (hline : (apos.endLine == cpos.line) = true := by rfl) (hs : starEach (e :: []) X.env = (false, eval e X.env) :: starEach [] X.env := by rfl) (hplain : (backTo cpos (starEach [] X.env)).any (·.1) = false := by rfl)
    (hsw : swapsWith (.Call (.Attribute (.Subscript (.Name x p0) (.UnaryOp .USub (.Constant (.int 1) k1 m1) m2) m3) "append" apos) [e] [] cpos) none pos.line X.env = pure false := by rfl) :
    DS X C E (tDrop (tBM X.K "list" rAppend (tOp (rIx X.K) (tVar i) (tUn (rU fun i => .int (-i)) (tC (.int 1)))) (tCons te tNil))) (cInner i c) (.Expr (.Call (.Attribute (.Subscript (.Name x p0) (.UnaryOp .USub (.Constant (.int 1) k1 m1) m2) m3) "append" apos) [e] [] cpos) pos) := by
  refine ⟨ps_expr (pe_bm PySem.F.plainAttrs_list PySem.F.slot_list_append PySem.F.type_list_append mt_append (pe_ix ix_seq (pe_var hN hv hd hc) (pe_un un_neg pe_int) (fun _ _ => rfl)) (pa_cons h.pe pa_nil hs) hbase hfew hline hs hplain) hsw, fun H0 O0 own gs G σ H D r q => ?_⟩
  unfold cInner at q
  split at q
  · rename_i ll el
    obtain ⟨p, qs, q1, h1, h2, h3⟩ := r.owned2 el
    split at q
    · rename_i l eL
      obtain ⟨ne, eL2⟩ := atI_neg1 eL
      obtain ⟨b, vs, f1, f2, f3, f4, f5⟩ := h3.get eL2
      have ea : atI (qs.map V.ref) (-1) = some (.ref b) := by
        unfold atI at eL ⊢
        rw [List.length_map, h3.len]
        have ej : ixN ll.length (-1) = some (ll.length - 1) := by
          unfold ixN
          have : 0 < ll.length := List.length_pos_iff.mpr ne
          rw [if_neg (by decide), if_pos (by omega)]
          congr 1
          omega
        rw [ej]
        show (qs.map V.ref)[ll.length - 1]? = _
        rw [List.getElem?_map, f1]
        rfl
      refine ⟨_, q1, 1, rfl, .inl ⟨p, _, -1, _, rfl, rfl, .of h2, ea, ?_⟩⟩
      refine ⟨.inl ⟨rfl, vs, .of f4⟩, ?_⟩
      refine h.snd H0 ⟨O0, own, gs⟩ G σ H _ r ?_
      cases e1 : c G with
      | ex k p =>
        rw [e1] at q
        exact q
      | bad =>
        rw [e1] at q
        exact q
      | ok pv =>
        rw [e1, R.bind_ok] at q
        intro w H1 sm rw'
        cases e2 : pv.toD with
        | ex i j => exact absurd e2 (noex_toD pv i j)
        | bad =>
          rw [e2] at q
          exact q.elim
        | ok d =>
          rw [e2, R.bind_ok] at q
          by_cases hz : l.length < 16777216
          · rw [if_pos hz] at q
            have r1 := r.grow sm
            have vis := hide_same sm fun a (z : Hd.O ⟨O0, own, gs⟩ a) => Or.inl (b := H a = none) z
            have da := DrAll.mono vis _ _ f5
            have hb : Hd.O ⟨O0, own, gs⟩ b := .inr ⟨i, f2⟩
            refine ⟨b, vs, w, rfl, rfl, sm b _ f4, by rw [line_eq, f5.len]; exact hz, ?_⟩
            have hv2 : hide (Hd.O ⟨O0, own, gs⟩) (upd H1 b (.lst (vs ++ [w]))) = hide (Hd.O ⟨O0, own, gs⟩) H1 := hide_upd hb
            have n1 := (h3.mono (H' := H1) (P' := own i) vis (fun q o _ _ y => sm q o y) fun _ y _ => y).set f1 (da.app (.cons (rw'.toD e2) .nil))
            refine q own σ _ ⟨same_mut r1.same (r.fresh i b f2), r.sub, r.fresh, fun j a z => ?_, r.dis, by rw [List.length_set]; exact r.len, fun j s e => ?_, fun g m => by rw [hv2]; exact r1.gh g m⟩
            · by_cases e : a = b
              · rw [e]
                exact ⟨_, upd_same⟩
              · rw [upd_ne e]
                exact r1.dom j a z
            · rw [hv2]
              rcases get_set e with ⟨g1, g2, g3⟩ | ⟨g1, g2⟩
              · subst g1 g2
                exact ⟨_, q1, p, qs, rfl, h1, by rw [upd_ne (Ne.symm f3)]; exact sm p _ h2, n1⟩
              · obtain ⟨ov, y1, y2⟩ := r1.slot j s g2
                refine ⟨ov, y1, y2.mono (Same.refl _) fun a o ha y => ?_⟩
                rw [upd_ne fun z => g1 (r.dis i j b f2 (by rw [← z]; exact ha))]
                exact y
          · rw [if_neg hz] at q
            exact q.elim
    · exact q.elim
  · exact q.elim
end
end BT
/-! while without a count of turns; short words for what is printed. -/
namespace BT
open PySem PySem.Spec PyProof.Rows L2
theorem cWhile_mono {t : CT} {b : CS} : ∀ {n m : Nat} {G : Ev}, n ≤ m → cWhile t b n G ≠ .bad → cWhile t b m G = cWhile t b n G
  | 0, _, _, _, h => absurd rfl h
  | n + 1, 0, _, k, _ => by omega
  | n + 1, m + 1, G, k, h => by
    unfold cWhile at h ⊢
    cases e : t G with
    | ex i j => rfl
    | bad => rfl
    | ok c =>
      rw [e] at h
      cases c with
      | false => rfl
      | true =>
        simp only [R.bind_ok, if_true] at h ⊢
        cases e2 : b G with
        | ex i j => rfl
        | bad => rfl
        | ok x =>
          rw [e2] at h
          obtain ⟨f, G2⟩ := x
          cases f with
          | ret p => rfl
          | nx => exact cWhile_mono (by omega) h
open Classical in
noncomputable def cWh (t : CT) (b : CS) : CS := fun G => if h : ∃ n, cWhile t b n G ≠ .bad then cWhile t b (Classical.choose h) G else .bad
theorem cWh_of {t : CT} {b : CS} {G : Ev} {n : Nat} (h : cWhile t b n G ≠ .bad) : cWh t b G = cWhile t b n G := by
  have hh : ∃ n, cWhile t b n G ≠ .bad := ⟨n, h⟩
  unfold cWh
  rw [dif_pos hh]
  have k := Classical.choose_spec hh
  rcases Nat.le_total (Classical.choose hh) n with z | z
  · exact (cWhile_mono z k).symm
  · exact cWhile_mono z h
theorem cWh_ne {t : CT} {b : CS} {G : Ev} (h : cWh t b G ≠ .bad) : ∃ n, cWhile t b n G ≠ .bad := by
  unfold cWh at h
  split at h
  · assumption
  · exact absurd rfl h
theorem cWhile_succ (t : CT) (b : CS) (n : Nat) (G : Ev) : cWhile t b (n + 1) G = (t G).bind fun c => if c = true then (b G).bind fun x => match x.1 with
    | .nx => cWhile t b n x.2
    | .ret p => .ok (.ret p, x.2) else .ok (.nx, G) := rfl
/-- a turn -/
theorem cWh_step (t : CT) (b : CS) (G : Ev) : cWh t b G = (t G).bind fun c => if c = true then (b G).bind fun x => match x.1 with
    | .nx => cWh t b x.2
    | .ret p => .ok (.ret p, x.2) else .ok (.nx, G) := by
  cases e : t G with
  | ex i j =>
    rw [cWh_of (n := 1) (by unfold cWhile; rw [e]; intro z; cases z)]
    unfold cWhile
    rw [e]
    rfl
  | bad =>
    unfold cWh
    rw [dif_neg]
    · rfl
    · rintro ⟨n, h⟩
      cases n with
      | zero => exact h rfl
      | succ n =>
        unfold cWhile at h
        rw [e] at h
        exact h rfl
  | ok c =>
    cases c with
    | false =>
      rw [cWh_of (n := 1) (by unfold cWhile; rw [e]; intro z; cases z)]
      unfold cWhile
      rw [e]
      rfl
    | true =>
      simp only [R.bind_ok, if_true]
      cases e2 : b G with
      | ex i j =>
        rw [cWh_of (n := 1) (by unfold cWhile; rw [e]; simp only [R.bind_ok, if_true]; rw [e2]; intro z; cases z)]
        unfold cWhile
        rw [e]
        simp only [R.bind_ok, if_true]
        rw [e2]
        rfl
      | bad =>
        unfold cWh
        rw [dif_neg]
        · rfl
        · rintro ⟨n, h⟩
          cases n with
          | zero => exact h rfl
          | succ n =>
            unfold cWhile at h
            rw [e] at h
            simp only [R.bind_ok, if_true] at h
            rw [e2] at h
            exact h rfl
      | ok x =>
        obtain ⟨f, G2⟩ := x
        cases f with
        | ret p =>
          have st : ∀ n, cWhile t b (n + 1) G = .ok (.ret p, G2) := fun n => by
            rw [cWhile_succ, e, R.bind_ok, if_pos rfl, e2]
            rfl
          rw [cWh_of (n := 1) (by rw [st]; intro z; cases z), st]
          rfl
        | nx =>
          have st : ∀ n, cWhile t b (n + 1) G = cWhile t b n G2 := fun n => by
            rw [cWhile_succ, e, R.bind_ok, if_pos rfl, e2]
            rfl
          show _ = cWh t b G2
          by_cases hb : ∃ n, cWhile t b n G2 ≠ .bad
          · obtain ⟨n, hn⟩ := hb
            rw [cWh_of hn, cWh_of (n := n + 1) (by rw [st]; exact hn), st]
          · have z : cWh t b G2 = .bad := by
              unfold cWh
              rw [dif_neg hb]
            rw [z]
            unfold cWh
            rw [dif_neg]
            rintro ⟨n, h⟩
            cases n with
            | zero => exact h rfl
            | succ n =>
              rw [st] at h
              exact hb ⟨n, h⟩
theorem snds_wh {K : PySem.W.Frag} {C : Addr} {E : XK} {tt : TT} {tb : TS} {t : CT} {b : CS} (st : SndT K C E tt t) (sb : SndS K C E tb b) : SndS K C E (tWhile tt tb) (cWh t b) := fun H0 O0 own gs G σ H D r q => by
  by_cases h : cWh t b G = .bad
  · rw [h] at q
    exact q.elim
  · obtain ⟨n, hn⟩ := cWh_ne h
    rw [cWh_of hn] at q
    exact snds_while st sb n H0 O0 own gs G σ H D r q
/-- Boolean: nothing is named, a name is a parameter or of the def's own -/
theorem loc_by {sc : Scope} {x : Str} (h : (sc.names.lookup x = some .local) ∨ (sc.names.lookup x = some .cell)) : Loc sc x := h
section
variable {X : Cx} {C : Addr} {E : XK} {te : TE} {c : CE} {e e2 : Expr} {x : Str} {pos' pos : Pos} {body : List Stmt} {tb : TS} {b : CS}
theorem q_wh {tt : TT} {ct : CT} (hp : PassesOwn (model X.prog X.w) X.A X.env X.xe) (h : DT X C E tt ct e) (k : DB X C E tb b body) : DS X C E (tWhile tt tb) (cWh ct b) (.While e body [] pos) := ⟨ps_while hp h.pt k.ps, snds_wh h.snd k.snd⟩
theorem q_set (i : Nat) (hN : X.N.Nodup) (h : DE X C E te c e) (hi : X.N[i]? = some x := by rfl) (hx : Loc X.env.scope x := by first | exact .inl rfl | exact .inr rfl) (hs : swapsWith e (some (.Name x pos')) pos.line X.env = pure false := by rfl) (hf : X.fn x = true ∨ X.env.scope.names.lookup x = some .local := by first | exact .inl rfl | exact .inr rfl) :
    DS X C E (tAsg te (gName i)) (cSet i c) (.Assign [.Name x pos'] e pos) := ds_set hN hi hx h hs hf
theorem q_own (i : Nat) (hN : X.N.Nodup) (h : DE X C E te c e) (hi : X.N[i]? = some x := by rfl) (hx : Loc X.env.scope x := by first | exact .inl rfl | exact .inr rfl) (hs : swapsWith e (some (.Name x pos')) pos.line X.env = pure false := by rfl) (hf : X.fn x = true ∨ X.env.scope.names.lookup x = some .local := by first | exact .inl rfl | exact .inr rfl) :
    DS X C E (tAsg te (gName i)) (cOwn i c) (.Assign [.Name x pos'] e pos) := ds_own hN hi hx h hs hf
theorem q_new0 (i : Nat) {q1 : Pos} (hN : X.N.Nodup) (hi : X.N[i]? = some x := by rfl) (hx : Loc X.env.scope x := by first | exact .inl rfl | exact .inr rfl) (hs : swapsWith (.List [] q1) (some (.Name x pos')) pos.line X.env = pure false := by rfl) (hf : X.fn x = true ∨ X.env.scope.names.lookup x = some .local := by first | exact .inl rfl | exact .inr rfl) :
    DS X C E (tAsg (tLst tNil) (gName i)) (cNew0 i) (.Assign [.Name x pos'] (.List [] q1) pos) := ds_new0 hN hi hx hs hf
theorem q_new1 (i : Nat) {q1 q2 : Pos} (hN : X.N.Nodup) (hi : X.N[i]? = some x := by rfl) (hx : Loc X.env.scope x := by first | exact .inl rfl | exact .inr rfl) (hs : swapsWith (.List [.List [] q1] q2) (some (.Name x pos')) pos.line X.env = pure false := by rfl) (hf : X.fn x = true ∨ X.env.scope.names.lookup x = some .local := by first | exact .inl rfl | exact .inr rfl) :
    DS X C E (tAsg (tLst (tCons (tLst tNil) tNil)) (gName i)) (cNew1 i) (.Assign [.Name x pos'] (.List [.List [] q1] q2) pos) := ds_new1 hN hi hx hs hf
theorem q_add (i : Nat) (hN : X.N.Nodup) (h : DE X C E te c e) (hi : X.N[i]? = some x := by rfl) (hx : Loc X.env.scope x := by first | exact .inl rfl | exact .inr rfl) (hf : X.fn x = true ∨ X.env.scope.names.lookup x = some .local := by first | exact .inl rfl | exact .inr rfl) : DS X C E (tAug i te (rI0 fun i j => .int (i + j))) (cAug i vAddI c) (.AugAssign (.Name x pos') .Add e pos) := ds_augAdd hN hi hx h hf
theorem q_sub (i : Nat) (hN : X.N.Nodup) (h : DE X C E te c e) (hi : X.N[i]? = some x := by rfl) (hx : Loc X.env.scope x := by first | exact .inl rfl | exact .inr rfl) (hf : X.fn x = true ∨ X.env.scope.names.lookup x = some .local := by first | exact .inl rfl | exact .inr rfl) : DS X C E (tAug i te (rI0 fun i j => .int (i - j))) (cAug i vSub c) (.AugAssign (.Name x pos') .Sub e pos) := ds_augSub hN hi hx h hf
theorem q_div (i : Nat) (hN : X.N.Nodup) (h : DE X C E te c e) (hi : X.N[i]? = some x := by rfl) (hx : Loc X.env.scope x := by first | exact .inl rfl | exact .inr rfl) (hf : X.fn x = true ∨ X.env.scope.names.lookup x = some .local := by first | exact .inl rfl | exact .inr rfl) : DS X C E (tAug i te (rI CDiv fun i j => .int (i / j))) (cAug i vDiv c) (.AugAssign (.Name x pos') .FloorDiv e pos) := ds_augDiv hN hi hx h hf
theorem q_nm (i : Nat) (hN : X.N.Nodup) (hi : X.N[i]? = some x := by rfl) (hx : Loc X.env.scope x := by first | exact .inl rfl | exact .inr rfl) (hf : X.fn x = true ∨ X.env.scope.names.lookup x = some .local := by first | exact .inl rfl | exact .inr rfl) : DG X (gName i) (gnm i) [i] (.Name x pos) := dg_name hN hi hx hf
theorem q_gc {es : List Expr} {is : List Nat} (i : Nat) (hN : X.N.Nodup) (k : DGs X is es) (hi : X.N[i]? = some x := by rfl) (hx : Loc X.env.scope x := by first | exact .inl rfl | exact .inr rfl) (hf : X.fn x = true ∨ X.env.scope.names.lookup x = some .local := by first | exact .inl rfl | exact .inr rfl)
    (hs : (assignEach (.Name x pos :: es) X.env).map (·.2) = assign (.Name x pos) X.env :: (assignEach es X.env).map (·.2) := by rfl) : DGs X (i :: is) (.Name x pos :: es) := dgs_cons hN hi hx k hf hs
theorem q_par (i j : Nat) {y : Str} {a b : Expr} {ta : TA} {ca : CA} {px py pt : Pos} {kt k2 pt2} (hc : X.calm = true) (hN : X.N.Nodup) (h : DA X C E ta ca [a, b]) (hi : X.N[i]? = some x := by rfl) (hj : X.N[j]? = some y := by rfl) (hij : i ≠ j := by decide) (hx : X.env.scope.names.lookup x = some .local := by rfl) (hy : X.env.scope.names.lookup y = some .local := by rfl)
    (hw : swappedStores [.Tuple [.Name x px, .Name y py] kt pt] (.Tuple [a, b] k2 pt2) X.env = pure (some [x, y]) := by rfl) (hs : swapsWithSole [.Tuple [.Name x px, .Name y py] kt pt] (.Tuple [a, b] k2 pt2) pos.line X.env = pure false := by rfl) :
    DS X C E (tPar i j ta) (cPar i j ca) (.Assign [.Tuple [.Name x px, .Name y py] kt pt] (.Tuple [a, b] k2 pt2) pos) := ds_par hc hN hi hj hij hx hy h hw hs
end
/-! the contract that a def's own meaning is -/
section
variable {P : Program} {w : World} {K : PySem.W.Frag} {mg : Str → Option Value} {base : Heap} {C : Addr}
theorem fn_run {x : Str} {st : Stmt} {k : Nat} {c : CS} (N ps : List Str) (at_ : At K mg x st) (S : FnScope N ps (defScope st)) (hn : ps.length ≤ N.length)
    (bd : ∀ (kV doc pm : Value) (an : Option Addr) (cdv ct : Value) (us : List Value), us.length = ps.length → bindArgs (PySem.W.fnOf x x (defArgs st) (defBody st) (defScope st) .none kV doc pm an cdv ct) ⟨us, []⟩ = pure (ps.zip us))
    (hb : ∀ (fa : Addr) (cdv : Value) (A : Around) (outer : List Env) (s : Shared) (H : Hp) (E : XK), Room k (A.deeper (envOfC x (defScope st) s.heap.objs.size fa cdv)) → Passes (L2.CX P w) (cxD P w K mg base N x (defScope st) fa cdv A outer s H E) E →
      PassesOwn (model P w) (cxD P w K mg base N x (defScope st) fa cdv A outer s H E).A (cxD P w K mg base N x (defScope st) fa cdv A outer s H E).env (cxD P w K mg base N x (defScope st) fa cdv A outer s H E).xe →
      Takes (cxD P w K mg base N x (defScope st) fa cdv A outer s H E) (fun cls d _ H => E cls d H) →
      ∃ ts, DB (cxD P w K mg base N x (defScope st) fa cdv A outer s H E) C E ts c (defBody st)) : FnA P w K mg base C (k + 1) x ps (runF N.length c) :=
  fn_ok at_ S hn bd (fun _ _ _ => rfl) hb
end
end BT
/-! Words for what stands within a comprehension: the written part is named. -/
namespace BT
open PySem PySem.Spec PyProof.Rows L2
def cNeg (c : CE) : CE := fun G => (c G).bind fun p => match p.d with | .int i => .ok (.st (.int (-i))) | _ => .bad
def cRev (c : CE) : CE := fun G => (c G).bind vRev
def cDrop (c : CE) : CS := fun G => (c G).bind fun _ => .ok (.nx, G)
section
variable (K : PySem.W.Frag) (mg : Str → Option Value) {X : Cx} {C : Addr} {E : XK} {a b c e : Expr} {es : List Expr} {ta tb tc te : TE} {ca cb cc : CE} {pos p : Pos} {k : Nat} {tA : TA} {cA : CA}
theorem k_add (ha : DE X C E ta ca a) (hb : DE X C E tb cb b) (hK : X.K = K := by rfl) : DE X C E (tOp (rAdd K) ta tb) (cOp2 vAdd ca cb) (.BinOp a .Add b pos) := by
  subst hK
  exact de_add ha hb
theorem k_eq (hr : Room k X.A) (ha : DE X C E ta ca a) (hb : DE X C E tb cb b) (hK : X.K = K := by rfl) : DE X C E (tOp (rEqD K) ta tb) (cOp2 vEq ca cb) (.Compare a [.Eq] [b] pos) := by
  subst hK
  exact de_eq hr ha hb
theorem k_ne (hr : Room k X.A) (ha : DE X C E ta ca a) (hb : DE X C E tb cb b) (hK : X.K = K := by rfl) : DE X C E (tOp (rNeD K) ta tb) (cOp2 vNe ca cb) (.Compare a [.NotEq] [b] pos) := by
  subst hK
  exact de_ne hr ha hb
theorem k_in (hr : Room k X.A) (ha : DE X C E ta ca a) (hb : DE X C E tb cb b) (hm : behindInMarks .In b = false := by rfl) (hK : X.K = K := by rfl) : DE X C E (tOp (rInA K) ta tb) (cOp2 vIn ca cb) (.Compare a [.In] [b] pos) := by
  subst hK
  exact de_in hr ha hb hm
theorem k_notIn (hr : Room k X.A) (ha : DE X C E ta ca a) (hb : DE X C E tb cb b) (hm : behindInMarks .NotIn b = false := by rfl) (hK : X.K = K := by rfl) : DE X C E (tOp (rNotInA K) ta tb) (cOp2 vNotIn ca cb) (.Compare a [.NotIn] [b] pos) := by
  subst hK
  exact de_notIn hr ha hb hm
theorem kt_eq (hr : Room k X.A) (ha : DE X C E ta ca a) (hb : DE X C E tb cb b) (hK : X.K = K := by rfl) : DT X C E (tTest (tOp (rEqD K) ta tb)) (cT (cOp2 vEq ca cb)) (.Compare a [.Eq] [b] pos) := by
  subst hK
  exact dt_eq hr ha hb
theorem kt_ne (hr : Room k X.A) (ha : DE X C E ta ca a) (hb : DE X C E tb cb b) (hK : X.K = K := by rfl) : DT X C E (tTest (tOp (rNeD K) ta tb)) (cT (cOp2 vNe ca cb)) (.Compare a [.NotEq] [b] pos) := by
  subst hK
  exact dt_ne hr ha hb
theorem kt_in (hr : Room k X.A) (ha : DE X C E ta ca a) (hb : DE X C E tb cb b) (hm : behindInMarks .In b = false := by rfl) (hK : X.K = K := by rfl) : DT X C E (tTest (tOp (rInA K) ta tb)) (cT (cOp2 vIn ca cb)) (.Compare a [.In] [b] pos) := by
  subst hK
  exact dt_in hr ha hb hm
theorem kt_notIn (hr : Room k X.A) (ha : DE X C E ta ca a) (hb : DE X C E tb cb b) (hm : behindInMarks .NotIn b = false := by rfl) (hK : X.K = K := by rfl) : DT X C E (tTest (tOp (rNotInA K) ta tb)) (cT (cOp2 vNotIn ca cb)) (.Compare a [.NotIn] [b] pos) := by
  subst hK
  exact dt_notIn hr ha hb hm
theorem k_idx (ha : DE X C E ta ca a) (hb : DE X C E tb cb b) (hs : PlainIx b := by exact fun _ _ => rfl) (hK : X.K = K := by rfl) : DE X C E (tOp (rIx K) ta tb) (cOp2 idxD ca cb) (.Subscript a b pos) := by
  subst hK
  exact de_idx ha hb hs
theorem k_slice {tl th : TO} {cl cu : CO} {lo hi : Option Expr} {p2 : Pos} (a : DE X C E te ca e) (l : DO X C E tl cl lo) (u : DO X C E th cu hi) (hK : X.K = K := by rfl) : DE X C E (tSl (rSlAll K) te tl th) (cSl vCut ca cl cu) (.Subscript e (.Slice lo hi none p2) pos) := by
  subst hK
  exact de_slice a l u
theorem k_rev {j : Nat} {p1 p2 p3 : Pos} (h : DE X C E te ca e) (hK : X.K = K := by rfl) : DE X C E (tRevL K te) (cRev ca) (.Subscript e (.Slice none none (some (.UnaryOp .USub (.Constant (.int 1) j p1) p2)) p3) pos) := by
  subst hK
  exact de_rev h
theorem k_len (hm : X.mg "len" = none) (a : DA X C E tA cA (e :: es)) (hg : Gl X "len" := by rfl) (he : starEach (e :: es) X.env = (false, eval e X.env) :: starEach es X.env := by rfl) (hpl : (backTo pos (starEach es X.env)).any (·.1) = false := by rfl) (hK : X.K = K := by rfl) :
    DE X C E (tCB (fun xs H Q => ∃ x n, xs = [x] ∧ LenV K x H n ∧ Q (.int n) H) tA) (cB gLen cA) (.Call (.Name "len" p) (e :: es) [] pos) := by
  subst hK
  exact de_len hm a hg he hpl
theorem k_tuple (hm : X.mg "tuple" = none) (a : DA X C E tA cA (e :: es)) (hg : Gl X "tuple" := by rfl) (he : starEach (e :: es) X.env = (false, eval e X.env) :: starEach es X.env := by rfl) (hpl : (backTo pos (starEach es X.env)).any (·.1) = false := by rfl) (hK : X.K = K := by rfl) :
    DE X C E (tCB (fun xs H Q => ∃ p ys, xs = [.ref p] ∧ ((SqL K H p ys ∧ ∀ l, H l = none → Q (.ref l) (upd H l (.tup ys))) ∨ (SqT K H p ys ∧ Q (.ref p) H))) tA) (cB gTuple cA) (.Call (.Name "tuple" p) (e :: es) [] pos) := by
  subst hK
  exact de_tuple hm a hg he hpl
theorem k_list (hm : X.mg "list" = none) (a : DA X C E tA cA (e :: es)) (hg : Gl X "list" := by rfl) (he : starEach (e :: es) X.env = (false, eval e X.env) :: starEach es X.env := by rfl) (hpl : (backTo pos (starEach es X.env)).any (·.1) = false := by rfl) (hK : X.K = K := by rfl) :
    DE X C E (tCB (fun xs H Q => ∃ p ys, xs = [.ref p] ∧ (SqL K H p ys ∨ SqT K H p ys) ∧ ∀ l, H l = none → Q (.ref l) (upd H l (.lst ys))) tA) (cB gList cA) (.Call (.Name "list" p) (e :: es) [] pos) := by
  subst hK
  exact de_list hm a hg he hpl
theorem k_glob {x : Str} {d : D} (g : GlobD K mg x d) (hg : Gl X x := by rfl) (hd : (x == ("__debug__" : Str)) = false := by decide) (hK : X.K = K := by rfl) (hM : X.mg = mg := by rfl) : DE X C E (tGlob mg x) (cLit d) (.Name x pos) := by
  subst hK
  subst hM
  exact de_glob g hg hd
theorem k_call0 {P : Program} {w : World} {base : Heap} {x : Str} {ps : List Str} {f : List D → R PV} {j : Nat} (F : FnA P w K mg base C j x ps f) (hr : Room j X.A) (a : DA X C E tA cA (e :: es)) (hg : Gl X x := by rfl)
    (hd : (x == ("__debug__" : Str)) = false := by decide) (he : starEach (e :: es) X.env = (false, eval e X.env) :: starEach es X.env := by rfl) (hpl : (backTo pos (starEach es X.env)).any (·.1) = false := by rfl) (hK : X.K = K := by rfl) (hM : X.mg = mg := by rfl) (hP : X.prog = P := by rfl) (hw : X.w = w := by rfl) (hB : X.base = base := by rfl) :
    DE X C E (tCall (spD K C ps.length f) [] E0 tA) (cCall0 (cRes ps.length f) cA) (.Call (.Name x p) (e :: es) [] pos) := by
  subst hK
  subst hM
  subst hP
  subst hw
  subst hB
  exact de_call0 F hr a hg hd he hpl
theorem ki_seq {tg : Expr} (h : DE X C E te ca e) (hK : X.K = K := by rfl) : DI X C E tg (iSeq K te) (cSeqI ca) e := by
  subst hK
  exact di_seq h
end
end BT
/-! What the top leaves; the row's end. -/
namespace BT
open PySem PySem.Spec PyProof.Rows L2
/-! ### a constant of the top, as data -/
mutual
def vB (K : PySem.W.Frag) : D → Value → Bool
  | .non, .none => true
  | .bl b, .bool c => b == c
  | .int i, .int j _ => decide (i = j)
  | .str x, .str y _ => decide (x = y)
  | .tup ds, .ref a => (match K.lookup a with
    | some ⟨.type c, _, .seq its _, _⟩ => decide (c = "tuple") && (decide (its.size ≤ sizeLine) && vsB K ds its.toList)
    | _ => false)
  | _, _ => false
def vsB (K : PySem.W.Frag) : List D → List Value → Bool
  | [], [] => true
  | d :: ds, u :: us => vB K d u && vsB K ds us
  | _, _ => false
end
mutual
theorem vB_ok {K : PySem.W.Frag} : ∀ (d : D) (u : Value), vB K d u = true → ∃ v, RelV v u ∧ ∀ H, Dr K H v d
  | .non, u, h => by
    cases u <;> first | exact ⟨.non, rfl, fun _ => .non⟩ | cases h
  | .bl b, u, h => by
    cases u with
    | bool c =>
      have e : b = c := eq_of_beq (show (b == c) = true from h)
      exact ⟨.bl b, by rw [e]; rfl, fun _ => .bl b⟩
    | _ => cases h
  | .int i, u, h => by
    cases u with
    | int j t =>
      have e : i = j := of_decide_eq_true h
      exact ⟨.int i, ⟨t, by rw [e]⟩, fun _ => .int i⟩
    | _ => cases h
  | .str x, u, h => by
    cases u with
    | str y t =>
      have e : x = y := of_decide_eq_true h
      exact ⟨.str x, ⟨t, by rw [e]⟩, fun _ => .str x⟩
    | _ => cases h
  | .tup ds, u, h => by
    cases u with
    | ref a =>
      unfold vB at h
      cases q : K.lookup a with
      | none =>
        rw [q] at h
        cases h
      | some o =>
        obtain ⟨oc, od, dt, osl⟩ := o
        rw [q] at h
        cases oc with
        | type c =>
          cases dt with
          | seq its n =>
            have h' : (decide (c = "tuple") && (decide (its.size ≤ sizeLine) && vsB K ds its.toList)) = true := h
            obtain ⟨h1, h2⟩ := Bool.and_eq_true_iff.mp h'
            obtain ⟨h3, h4⟩ := Bool.and_eq_true_iff.mp h2
            obtain ⟨vs, e1, e2⟩ := vsB_ok ds _ h4
            exact ⟨.ref a, rfl, fun H => .tup (.inr ⟨_, its, n, q, congrArg Value.type (of_decide_eq_true h1), rfl, of_decide_eq_true h3, e1⟩) (e2 H)⟩
          | _ => cases h
        | _ => cases dt <;> cases h
    | _ => cases h
  | .lst _, u, h => by cases u <;> cases h
  | .arg _, u, h => by cases u <;> cases h
  | .opq, u, h => by cases u <;> cases h
theorem vsB_ok {K : PySem.W.Frag} : ∀ (ds : List D) (us : List Value), vsB K ds us = true → ∃ vs, Vals vs us ∧ ∀ H, DrAll K H vs ds
  | [], [], _ => ⟨[], .nil, fun _ => .nil⟩
  | [], _ :: _, h => by cases h
  | _ :: _, [], h => by cases h
  | d :: ds, u :: us, h => by
    obtain ⟨h1, h2⟩ := Bool.and_eq_true_iff.mp (show (vB K d u && vsB K ds us) = true from h)
    obtain ⟨v, e1, e2⟩ := vB_ok d u h1
    obtain ⟨vs, e3, e4⟩ := vsB_ok ds us h2
    exact ⟨v :: vs, .cons e1 e3, fun H => .cons (e2 H) (e4 H)⟩
end
def gB (K : PySem.W.Frag) (g : Str × D) : Bool := match PySem.W.nsIn K mainGlobals g.1 with
  | some (some u) => vB K g.2 u
  | _ => false
theorem gB_ok {K : PySem.W.Frag} {h : Heap} {mg : Str → Option Value} (X : K.In h) (G : h.Ns mainGlobals mg) {x : Str} {d : D} (c : gB K (x, d) = true) : GlobD K mg x d := by
  unfold gB at c
  cases e : PySem.W.nsIn K mainGlobals x with
  | none =>
    rw [show PySem.W.nsIn K mainGlobals (x, d).1 = none from e] at c
    cases c
  | some o =>
    rw [show PySem.W.nsIn K mainGlobals (x, d).1 = some o from e] at c
    cases o with
    | none => cases c
    | some u =>
      obtain ⟨v, h1, h2⟩ := vB_ok d u c
      exact ⟨u, v, PySem.W.mg_of X G e, h1, h2⟩
/-! ### what is looked at behind the top: facts, constants, defs -/
def dD (n : Str) (st : Stmt) : He.DefD := ⟨(n, none), n, n, defArgs st, defBody st, defScope st, [], []⟩
abbrev AlB : Type := He.AlD × Bool
def obsB (fa : List He.Fa) (gl : List (Str × D)) (fn : List He.DefD) (K : PySem.W.Frag) : AlB := (He.obsD fa fn K, gl.all (gB K))
def SaysB (fa : List He.Fa) (gl : List (Str × D)) (fn : List He.DefD) (K : PySem.W.Frag) : Prop := obsB fa gl fn K = (He.valD fn, true)
/-- n: how many objects stand behind the top -/
def hookB (n : Nat) (fa : List He.Fa) (gl : List (Str × D)) (fn : List He.DefD) : PySem.W.Hook where
  α := AlB
  obs := fun s => obsB fa gl fn (He.frG s.heap.get? (List.range n))
  val := fun _ => (He.valD fn, true)
  says := fun _ h => ∃ K : PySem.W.Frag, K.In h ∧ SaysB fa gl fn K
  of := fun _ _ e => ⟨_, He.frG_in, e⟩
  keeps := fun _ _ _ ⟨K, hK, c⟩ k => ⟨K, PySem.W.Frag.In.keeps hK k, c⟩
def obB (n : Nat) (fa : List He.Fa) (gl : List (Str × D)) (fn : List He.DefD) (s : PySem.W.SharedT) : AlB := obsB fa gl fn (He.frG (HandSHeadRun.getT s) (List.range n))
theorem obB_eq {n : Nat} {fa : List He.Fa} {gl : List (Str × D)} {fn : List He.DefD} (s : PySem.W.SharedT) : obB n fa gl fn s = (hookB n fa gl fn).obs s.abs := by
  have e : HandSHeadRun.getT s = s.abs.heap.get? := funext (HandSHeadRun.getT_eq s)
  unfold obB
  rw [e]
  rfl
section
variable {fa : List He.Fa} {gl : List (Str × D)} {fn : List He.DefD} {K : PySem.W.Frag} {h : Heap} {mg : Str → Option Value}
theorem SaysB.d (c : SaysB fa gl fn K) : He.SaysD fa fn K := congrArg Prod.fst c
theorem SaysB.glob (c : SaysB fa gl fn K) (X : K.In h) (G : h.Ns mainGlobals mg) (i : Nat) {x : Str} {d : D} (e : gl[i]? = some (x, d) := by rfl) : GlobD K mg x d :=
  gB_ok X G (List.all_eq_true.mp (congrArg Prod.snd c) _ (List.mem_of_getElem? e))
theorem SaysB.free (c : SaysB fa gl fn K) (X : K.In h) (G : h.Ns mainGlobals mg) (i : Nat) {x : Str} (e : fa[i]? = some (.free x) := by rfl) : mg x = none := He.free_ok X G (c.d.fact i e)
theorem SaysB.at_ (c : SaysB fa gl fn K) (X : K.In h) (G : h.Ns mainGlobals mg) (i j : Nat) {x : Str} {st : Stmt} (e : fn[i]? = some (dD x st) := by rfl) (e2 : fa[j]? = some (.glo x) := by rfl) : At K mg x st := by
  obtain ⟨fd, F⟩ := c.d.def_ i e
  obtain ⟨oc, od, dV, kV, doc, pm, an, cdv, ct, osl, e3, lk, hc, hd, hk⟩ := F.ex
  rcases hd with ⟨_, hd⟩ | ⟨ne, _⟩
  · subst hd
    exact ⟨_, fd, ⟨⟨oc, od, kV, doc, pm, an, cdv, ct, osl, e3, lk, hc⟩, F.kp⟩, He.glo_ok X G (c.d.fact j e2)⟩
  · exact absurd rfl ne
end
/-! ### the end: the promise of the row's def, the written part found -/
theorem walk_any {r : PySem.W.OpenSpec} {k : Nat} {q : Program} {loose : List Str} {XP : (Str → Option Value) → Heap → Prop} {YP : World → Heap → Prop} {d : DefRec} {CX : World → CXT} {ps : List Str} {sp : World → PySem.W.Frag → Sp}
    (hwell : r.wellSaid = true) (hdf : d.params.defaults = []) (hlen : r.args.length = ps.length) (hr : Room k callerA)
    (F : ∀ (w : World) (mg : Str → Option Value) (fa : Addr) (h : Heap), YP w h → h.Ns mainGlobals mg → mg d.name = some (.ref fa) → ∃ K : PySem.W.Frag, K.In h ∧
      ∃ fd : FuncData, (∀ (s : Shared) (us : List Value), us.length = ps.length → BindsTo s fd ⟨us, []⟩ (ps.zip us)) ∧
        ∀ base : Heap, K.In base → base.Ns mainGlobals mg → FnOk r.prog w K mg base (CX w) k fa fd ps (sp w K))
    (hsp : ∀ (w : World) (K : PySem.W.Frag) (H : Hp) (xs : List V) (a : PySem.W.Codec.denoteAll r.args), PySem.W.Codec.withinAll r.args a = true → PySem.W.Codec.app r.args r.asked a = true → DwAll K H xs (PySem.W.Codec.encAll r.args a) →
      sp w K xs H (fun v H' => Dw K H' v (r.ret.enc (PySem.W.Codec.app r.args r.f a))) fun _ _ _ => False)
    (hCX : ∀ (w : World) (H : Hp) (s : Shared) (e : Value) (s' : Shared), CX w [] H s (fun _ _ _ => False) e s' → False) :
    PySem.W.WalkOS q loose XP YP r d [] (fun f vs => PySem.call f vs) := by
  intro w s₀ s₁ mg mb G Y fa o pm cd doc dV kV ho hd hcd hD hmg hg args vals as hpre hlay hrd hwl hlo
  obtain ⟨a, e1, e2⟩ := PySem.W.os_pre_some hpre
  obtain ⟨e3, hwi⟩ := PySem.W.Codec.encAll_of_decAll r.args args a e1
  subst e3
  obtain ⟨K, KX, fd, hb, hF⟩ := F w mg fa _ Y G.T.g hmg
  have done := spec_call (R := []) (cl := classAt s₀.heap) (d0 := r.ret.enc (PySem.W.Codec.app r.args r.f a)) KX G.T.g G.T.b G.T.builtins G.T.nolimit hg hwl
    (pl_encAll _ _) (layable_weight hlay) hr hF hb (by rw [encAll_len]; exact hlen)
    (fun H xs _ hS => hsp w K H xs a hwi e2 hS) fun H e s' => hCX w H s₁ e s'
  refine PySem.W.enter_call (codeAny_mono done ?_)
  intro r' s' hq
  obtain ⟨u, as', e4, h1, h2, h3, h4⟩ := hq
  subst e4
  refine ⟨.inl ⟨u, _, as', rfl, fun _ => rfl, h1, ?_, ?_⟩, h2, h3, h4⟩
  · exact (PySem.W.OpenSpec.post_iff hwell hwi _ _).mpr rfl
  · intro z
    cases z
theorem cx_none (P : Program) (w : World) (H : Hp) (s : Shared) (e : Value) (s' : Shared) (c : L2.CX P w [] H s (fun _ _ _ => False) e s') : False := by
  obtain ⟨_, _, _, _, _, _, _, _, _, _, _, _, z⟩ := c
  exact z
theorem hide_no (H : Hp) : hide (fun _ => False) H = H := by
  funext b
  exact if_neg (fun z => z)
theorem dr_arg {K : PySem.W.Frag} {H : Hp} {v : V} {ns : List Int} (h : Dw K H v (.list (ns.map PySem.W.WData.int))) : Dr K H v (.arg ns) := by
  cases h with
  | lst hs ha =>
    have e := ints_dw ns _ ha
    subst e
    exact .arg hs
theorem dr_int {K : PySem.W.Frag} {H : Hp} {v : V} {n : Int} (h : Dw K H v (.int n)) : Dr K H v (.int n) := by
  cases h
  exact .int n
/-- a list of whole numbers is given back -/
theorem sp_ints {K : PySem.W.Frag} {C : Addr} {n : Nat} {f : List D → R PV} {H : Hp} {xs : List V} {ds : List D} {ns : List Int} {E : XK} (hn : ds.length = n) (hx : DrAll K H xs ds) {pv : PV} (e : f ds = .ok pv) (ep : pv.lk = .lst (ns.map D.int)) :
    spD K C n f xs H (fun v H' => Dw K H' v (.list (ns.map PySem.W.WData.int))) E := by
  refine ⟨ds, fun _ => False, hn, fun _ z => z.elim, by rw [hide_no]; exact hx, ?_⟩
  rw [e]
  intro v H' _ r
  have z := r.look
  rw [ep] at z
  cases z with
  | lst hs ha =>
    have e2 := DrAll.ints_eq ha
    subst e2
    exact .lst (.of hs) (dw_ints ns)
theorem room_caller {k : Nat} (h : k ≤ 100) : Room k callerA := Room.mono (k := 100) ⟨rfl, by decide, by decide⟩ h
/-- what the row's end asks of the def that the row names -/
theorem fn_end {P : Program} {w : World} {K : PySem.W.Frag} {mg : Str → Option Value} {h : Heap} {C fa : Addr} {k n : Nat} {x : Str} {ps : List Str} {f : List D → R PV} (hn : ps.length = n) (T : ∀ base, FnA P w K mg base C k x ps f) (hm : mg x = some (.ref fa)) :
    ∃ fd : FuncData, (∀ (s : Shared) (us : List Value), us.length = ps.length → BindsTo s fd ⟨us, []⟩ (ps.zip us)) ∧ ∀ base : Heap, K.In base → base.Ns mainGlobals mg → FnOk P w K mg base (L2.CX P w) k fa fd ps (spD K C n f) := by
  subst hn
  obtain ⟨a, fd, _, gm, _, _, hb, oc, od, osl, lk⟩ := (T h).ex
  rw [hm] at gm
  injection gm with gm
  injection gm with gm
  subst gm
  refine ⟨fd, fun s us hu => .of_eq (hb us hu), fun base _ _ => ?_⟩
  obtain ⟨a2, fd2, F2, gm2, _, _, _, oc2, od2, osl2, lk2⟩ := (T base).ex
  rw [hm] at gm2
  injection gm2 with gm2
  injection gm2 with gm2
  subst gm2
  rw [lk] at lk2
  injection lk2 with lk2
  injection lk2 with _ _ e _
  injection e with e
  subst e
  exact F2
/-- a request's bytes -/
def AR (l : List Nat) : List Int := l.map fun (n : Nat) => (n : Int)
theorem nats_of {lo hi : Int} (h0 : 0 ≤ lo) : ∀ {l : List Int}, l.all (PySem.W.Codec.inInt lo hi) = true → ∃ bs : List Nat, l = AR bs ∧ ∀ b ∈ bs, (b : Int) ≤ hi
  | [], _ => ⟨[], rfl, fun _ z => by cases z⟩
  | z :: l, h => by
    rw [List.all_cons, Bool.and_eq_true] at h
    obtain ⟨bs, e, k⟩ := nats_of h0 h.2
    have hz := PySem.W.Codec.inInt_iff.mp h.1
    refine ⟨z.toNat :: bs, ?_, fun b m => ?_⟩
    · rw [e]
      show z :: AR bs = ((z.toNat : Nat) : Int) :: AR bs
      rw [Int.toNat_of_nonneg (by omega)]
    · rcases List.mem_cons.mp m with e2 | m
      · omega
      · exact k b m
theorem toNat_AR (l : List Nat) : (AR l).map Int.toNat = l := by
  unfold AR
  rw [List.map_map]
  exact List.map_id'' (fun _ => rfl) l
end BT
/-! Reading a meaning: rules by which simp runs it. -/
namespace BT
open PySem PySem.Spec PyProof.Rows L2
section
variable {α β : Type} {a a' : R α} {f g : α → R β}
theorem R.bind_congr (h : a = a') : a.bind f = a'.bind f := by rw [h]
theorem z_bind_ite {c : Prop} [Decidable c] {b : R α} : (if c then a else b).bind f = if c then a.bind f else b.bind f := by
  by_cases h : c
  · rw [if_pos h, if_pos h]
  · rw [if_neg h, if_neg h]
theorem R.bind_bind {γ : Type} {r : R α} {k : β → R γ} : (r.bind f).bind k = r.bind fun x => (f x).bind k := by cases r <;> rfl
end
/-! statements -/
def seqK (b : CS) (x : Fl × Ev) : R (Fl × Ev) := match x.1 with
  | .nx => b x.2
  | .ret p => .ok (.ret p, x.2)
theorem z_seqK_nx (b : CS) (G : Ev) : seqK b (.nx, G) = b G := rfl
theorem z_seqK_ret (b : CS) (p : PV) (G : Ev) : seqK b (.ret p, G) = .ok (.ret p, G) := rfl
section
variable {a b : CS} {t u : CT} {c d : CE} {G : Ev} {i : Nat} {ca : CA} {it : CI} {tg : CG} {n : Nat} {ds : List D}
theorem z_seq : cSeq a b G = (a G).bind (seqK b) := rfl
theorem z_nx : cNext G = .ok (.nx, G) := rfl
theorem z_if : cIfS t a b G = (t G).bind fun x => if x = true then a G else b G := rfl
theorem z_ret : cRet c G = (c G).bind fun p => .ok (.ret p.out, G) := rfl
theorem z_retN : cRetN G = .ok (.ret (.st .non), G) := rfl
theorem z_freeze : cFreeze i a G = a (freezeAt i G) := rfl
theorem z_set : cSet i c G = (c G).bind fun p => p.toD.bind fun d => .ok (.nx, G.set i (.sh d)) := rfl
def ownK (i : Nat) (G : Ev) (p : PV) : R (Fl × Ev) := match p with
  | .fr l => .ok (.nx, G.set i (.ow l))
  | _ => .bad
theorem z_own : cOwn i c G = (c G).bind (ownK i G) := rfl
theorem z_ownK (l : List D) : ownK i G (.fr l) = .ok (.nx, G.set i (.ow l)) := rfl
def augK (i : Nat) (g : PV → PV → R PV) (c : CE) (G : Ev) (s : Option Sl) : R (Fl × Ev) := match s with
  | some (.sh d) => (c G).bind fun p => (g (.st d) p).bind fun z => z.toD.bind fun y => .ok (.nx, G.set i (.sh y))
  | _ => .bad
theorem z_aug {g : PV → PV → R PV} : cAug i g c G = augK i g c G G[i]? := rfl
theorem z_augK {g : PV → PV → R PV} (dd : D) : augK i g c G (some (.sh dd)) = (c G).bind fun p => (g (.st dd) p).bind fun z => z.toD.bind fun y => .ok (.nx, G.set i (.sh y)) := rfl
def appK (i : Nat) (c : CE) (G : Ev) (s : Option Sl) : R (Fl × Ev) := match s with
  | some (.ow l) => (c G).bind fun p => p.toD.bind fun d => if l.length < 16777216 then .ok (.nx, G.set i (.ow (l ++ [d]))) else .bad
  | _ => .bad
theorem z_append : cAppend i c G = appK i c G G[i]? := rfl
theorem z_appK (l : List D) : appK i c G (some (.ow l)) = (c G).bind fun p => p.toD.bind fun d => if l.length < 16777216 then .ok (.nx, G.set i (.ow (l ++ [d]))) else .bad := rfl
def extK (i : Nat) (G : Ev) (l : List D) (p : PV) : R (Fl × Ev) := match seqD p.d with
  | some m => if l.length + m.length ≤ 16777216 then .ok (.nx, G.set i (.ow (l ++ m))) else .bad
  | none => .bad
def exK (i : Nat) (c : CE) (G : Ev) (s : Option Sl) : R (Fl × Ev) := match s with
  | some (.ow l) => (c G).bind (extK i G l)
  | _ => .bad
theorem z_extend : cExtend i c G = exK i c G G[i]? := rfl
theorem z_exK (l : List D) : exK i c G (some (.ow l)) = (c G).bind (extK i G l) := rfl
theorem z_extK_fr (l m : List D) : extK i G l (.fr m) = if l.length + m.length ≤ 16777216 then .ok (.nx, G.set i (.ow (l ++ m))) else .bad := rfl
theorem z_extK_bo (l m : List D) : extK i G l (.bo m) = if l.length + m.length ≤ 16777216 then .ok (.nx, G.set i (.ow (l ++ m))) else .bad := rfl
theorem z_extK_l (l m : List D) : extK i G l (.st (.lst m)) = if l.length + m.length ≤ 16777216 then .ok (.nx, G.set i (.ow (l ++ m))) else .bad := rfl
theorem z_extK_t (l m : List D) : extK i G l (.st (.tup m)) = if l.length + m.length ≤ 16777216 then .ok (.nx, G.set i (.ow (l ++ m))) else .bad := rfl
theorem z_extK {l m : List D} {p : PV} (e : seqD p.d = some m) (h : l.length + m.length ≤ 16777216) : extK i G l p = .ok (.nx, G.set i (.ow (l ++ m))) := by
  unfold extK
  rw [e]
  exact if_pos h
theorem z_asg : cAsg tg c G = (c G).bind fun p => p.toD.bind fun d => (tg d G).bind fun G' => .ok (.nx, G') := rfl
theorem z_gnm (d : D) : gnm i d G = .ok (G.set i (.sh d)) := rfl
theorem z_gtp {is : List Nat} {l : List D} (h : l.length = is.length) : gtp is (.tup l) G = .ok (setAll is l G) := if_pos h
theorem z_setAll1 {is : List Nat} {dd : D} : setAll (i :: is) (dd :: ds) G = setAll is ds (G.set i (.sh dd)) := rfl
theorem z_setAll0 : setAll [] [] G = G := rfl
def parK (i j : Nat) (G : Ev) (ps : List PV) : R (Fl × Ev) := match ps with
  | [p, q] => p.toD.bind fun d => q.toD.bind fun d' => .ok (.nx, (G.set i (.sh d)).set j (.sh d'))
  | _ => .bad
theorem z_par {j : Nat} : cPar i j ca G = (ca G).bind (parK i j G) := rfl
theorem z_parK {j : Nat} (p q : PV) : parK i j G [p, q] = p.toD.bind fun d => q.toD.bind fun d' => .ok (.nx, (G.set i (.sh d)).set j (.sh d')) := rfl
theorem z_drop : cDrop c G = (c G).bind fun _ => .ok (.nx, G) := rfl
theorem z_for : cFor it tg a G = (it G).bind fun l => forL tg a l G := rfl
def fin (r : R (Fl × Ev)) : R PV := match r with
  | .ok (.nx, _) => .ok (.st .non)
  | .ok (.ret p, _) => .ok p
  | .ex k p => .ex k p
  | .bad => .bad
theorem z_run : runF n a ds = fin (a (begun n ds)) := rfl
theorem z_fin_nx : fin (.ok (.nx, G)) = .ok (.st .non) := rfl
theorem z_fin_ret (p : PV) : fin (.ok (.ret p, G)) = .ok p := rfl
theorem z_fin_ex (k p : Int) : fin (.ex k p) = .ex k p := rfl
theorem z_fin_ite {c : Prop} [Decidable c] {x y : R (Fl × Ev)} : fin (if c then x else y) = if c then fin x else fin y := by
  by_cases h : c
  · rw [if_pos h, if_pos h]
  · rw [if_neg h, if_neg h]
theorem z_begun : begun n ds = ds.map Sl.sh ++ List.replicate (n - ds.length) Sl.un := rfl
/-! a for's turns -/
def forK (tg : CG) (b : CS) (r : List D) (x : Fl × Ev) : R (Fl × Ev) := match x.1 with
  | .nx => forL tg b r x.2
  | .ret p => .ok (.ret p, x.2)
theorem z_for_nil : forL tg a [] G = .ok (.nx, G) := rfl
theorem z_for_cons (dd : D) : forL tg a (dd :: ds) G = (tg dd G).bind fun G1 => (a G1).bind (forK tg a ds) := rfl
theorem z_forK_nx : forK tg a ds (.nx, G) = forL tg a ds G := rfl
theorem z_forK_ret (p : PV) : forK tg a ds (.ret p, G) = .ok (.ret p, G) := rfl
noncomputable def whK (t : CT) (b : CS) (x : Fl × Ev) : R (Fl × Ev) := match x.1 with
  | .nx => cWh t b x.2
  | .ret p => .ok (.ret p, x.2)
theorem z_wh : cWh t a G = (t G).bind fun x => if x = true then (a G).bind (whK t a) else .ok (.nx, G) := cWh_step t a G
theorem z_whK_nx : whK t a (.nx, G) = cWh t a G := rfl
theorem z_whK_ret (p : PV) : whK t a (.ret p, G) = .ok (.ret p, G) := rfl
/-! tests -/
theorem z_T : cT c G = (c G).bind boolOf := rfl
theorem z_boolOf (b : Bool) : boolOf (.st (.bl b)) = .ok b := rfl
theorem z_andT : cAndT t u G = (t G).bind fun x => if x = true then u G else .ok false := rfl
theorem z_orT : cOrT t u G = (t G).bind fun x => if x = true then .ok true else u G := rfl
theorem z_notT : cNotT t G = (t G).bind fun x => .ok (!x) := rfl
theorem z_yes : cYes G = .ok true := rfl
/-! expressions -/
def varK (s : Option Sl) : R PV := match s with
  | some (.sh d) => .ok (.st d)
  | some (.ow l) => .ok (.bo l)
  | some (.o2 ll) => .ok (.b2 ll)
  | _ => .bad
theorem z_var : cVar i G = varK G[i]? := rfl
theorem z_varK_sh (dd : D) : varK (some (.sh dd)) = .ok (.st dd) := rfl
theorem z_varK_ow : varK (some (.ow ds)) = .ok (.bo ds) := rfl
theorem z_varK_o2 (ll : List (List D)) : varK (some (.o2 ll)) = .ok (.b2 ll) := rfl
theorem z_lit (dd : D) : cLit dd G = .ok (.st dd) := rfl
theorem z_op {g : PV → PV → R PV} : cOp2 g c d G = (c G).bind fun p => (d G).bind fun q => g p q := rfl
theorem z_chain {g g' : PV → PV → R PV} {e : CE} : cChain g g' c d e G = (c G).bind fun p => (d G).bind fun q => (g p q).bind fun z => (boolOf z).bind fun k => if k = true then (e G).bind fun w => g' q w else .ok (.st (.bl false)) := rfl
theorem z_ifE : cIfE t c d G = (t G).bind fun x => if x = true then c G else d G := rfl
theorem z_andE : cAndE c d G = (c G).bind fun p => (boolOf p).bind fun x => if x = true then d G else .ok (.st (.bl false)) := rfl
theorem z_orE : cOrE c d G = (c G).bind fun p => (boolOf p).bind fun x => if x = true then .ok (.st (.bl true)) else d G := rfl
theorem z_notE : cNotE c G = (c G).bind fun p => (boolOf p).bind fun x => .ok (.st (.bl (!x))) := rfl
theorem z_nil : cNil G = .ok [] := rfl
theorem z_cons : cCons c ca G = (c G).bind fun p => (ca G).bind fun ps => .ok (p :: ps) := rfl
theorem z_B {g : List PV → R PV} : cB g ca G = (ca G).bind g := rfl
theorem z_call {f : List D → R PV} : cCall f ca G = (ca G).bind fun ps => (toDs ps).bind f := rfl
theorem z_call0 {f : List D → R PV} : cCall0 f ca G = (ca G).bind fun ps => (toDs ps).bind fun ds => calm (f ds) := rfl
theorem z_res {f : List D → R PV} (h : ds.length = n) : cRes n f ds = f ds := if_pos h
theorem z_calm (p : PV) : calm (.ok p) = .ok p := rfl
theorem z_sl {g : PV → Option Int → Option Int → R PV} {lo hi : CO} : cSl g c lo hi G = (c G).bind fun p => (lo G).bind fun l => (hi G).bind fun u => g p l u := rfl
theorem z_part : cPart c G = (c G).bind intOf := rfl
theorem z_nopart : cNoPart G = .ok none := rfl
theorem z_intOf (j : Int) : intOf (.st (.int j)) = .ok (some j) := rfl
def negK (p : PV) : R PV := match p.d with | .int i => .ok (.st (.int (-i))) | _ => .bad
theorem z_neg : cNeg c G = (c G).bind negK := rfl
theorem z_negK (j : Int) : negK (.st (.int j)) = .ok (.st (.int (-j))) := rfl
theorem z_rev : cRev c G = (c G).bind vRev := rfl
def seqIK (d : D) : R (List D) := match walkD d with
  | some l => .ok l
  | none => .bad
theorem z_seqI : cSeqI c G = (c G).bind fun p => p.toD.bind seqIK := rfl
theorem z_seqIK_l : seqIK (.lst ds) = .ok ds := rfl
theorem z_seqIK_t : seqIK (.tup ds) = .ok ds := rfl
theorem z_seqIK_a (ns : List Int) : seqIK (.arg ns) = .ok (ns.map D.int) := rfl
/-! operations at values -/
theorem z_d_st (dd : D) : (PV.st dd).d = dd := rfl
theorem z_d_bo : (PV.bo ds).d = .lst ds := rfl
theorem z_d_fr : (PV.fr ds).d = .lst ds := rfl
theorem z_lk_st (dd : D) : (PV.st dd).lk = dd := rfl
theorem z_lk_bo : (PV.bo ds).lk = .lst ds := rfl
theorem z_lk_fr : (PV.fr ds).lk = .lst ds := rfl
theorem z_add_ii (i j : Int) : vAdd (.st (.int i)) (.st (.int j)) = .ok (.st (.int (i + j))) := rfl
theorem z_add (p q : PV) : vAdd p q = addD p.d q.d := rfl
theorem z_addD_ii (i j : Int) : addD (.int i) (.int j) = .ok (.st (.int (i + j))) := rfl
theorem z_addD_l (x y : List D) (h : x.length + y.length ≤ 16777216) : addD (.lst x) (.lst y) = .ok (.fr (x ++ y)) := lim_ok h
theorem z_addD_t (x y : List D) (h : x.length + y.length ≤ 16777216) : addD (.tup x) (.tup y) = .ok (.st (.tup (x ++ y))) := lim_ok h
theorem z_addI (i j : Int) : vAddI (.st (.int i)) (.st (.int j)) = .ok (.st (.int (i + j))) := rfl
theorem z_sub (i j : Int) : vSub (.st (.int i)) (.st (.int j)) = .ok (.st (.int (i - j))) := rfl
theorem z_mod {i j : Int} (h : 0 < j) : vMod (.st (.int i)) (.st (.int j)) = .ok (.st (.int (i % j))) := if_pos h
theorem z_div {i j : Int} (h : 0 < j ∧ j < 1073741824) : vDiv (.st (.int i)) (.st (.int j)) = .ok (.st (.int (i / j))) := if_pos h
theorem z_mul {i j : Int} (h : (-(2 ^ 64) < i ∧ i < 2 ^ 64) ∨ (-(2 ^ 64) < j ∧ j < 2 ^ 64)) : vMul (.st (.int i)) (.st (.int j)) = .ok (.st (.int (i * j))) := if_pos h
theorem z_lt (i j : Int) : vLt (.st (.int i)) (.st (.int j)) = .ok (.st (.bl (decide (i < j)))) := rfl
theorem z_le (i j : Int) : vLe (.st (.int i)) (.st (.int j)) = .ok (.st (.bl (decide (i ≤ j)))) := rfl
theorem z_gt (i j : Int) : vGt (.st (.int i)) (.st (.int j)) = .ok (.st (.bl (decide (j < i)))) := rfl
theorem z_ge (i j : Int) : vGe (.st (.int i)) (.st (.int j)) = .ok (.st (.bl (decide (j ≤ i)))) := rfl
theorem z_eq (p q : PV) : vEq p q = (eqD p.lk q.lk).bind fun b => .ok (.st (.bl b)) := rfl
theorem z_ne (p q : PV) : vNe p q = (eqD p.lk q.lk).bind fun b => .ok (.st (.bl (!b))) := rfl
theorem z_eqD_ii (i j : Int) : eqD (.int i) (.int j) = .ok (decide (i = j)) := by
  unfold eqD
  rw [if_pos (by rfl)]
  have e : PyData.eqv (.int i) (.int j) = decide (i = j) := by
    show (i == j) = _
    by_cases h : i = j
    · rw [h]
      simp
    · simp [h]
  exact congrArg R.ok e
theorem z_isN (p : PV) : vIsN p (.st .non) = .ok (.st (.bl p.lk.isNon)) := rfl
def idxK (o : Option D) : R PV := match o with
  | some d => .ok (.st d)
  | none => .bad
theorem z_idxK (dd : D) : idxK (some dd) = .ok (.st dd) := rfl
theorem z_len_l : gLen [.st (.lst ds)] = .ok (.st (.int (ds.length : Nat))) := rfl
theorem z_list_l : gList [.st (.lst ds)] = .ok (.fr ds) := rfl
theorem z_tuple_l : gTuple [.st (.lst ds)] = .ok (.st (.tup ds)) := rfl
theorem z_idx_l (j : Int) : idxD (.st (.lst ds)) (.st (.int j)) = idxK (atI ds j) := by
  cases e : atI ds j <;> simp [idxD, idxN, PV.items, PV.d, e, idxK]
theorem z_cut_l (lo hi : Option Int) : vCut (.st (.lst ds)) lo hi = .ok (.fr (cutD ds lo hi)) := rfl
theorem z_vrev_l : vRev (.st (.lst ds)) = .ok (.fr ds.reverse) := rfl
theorem z_len_t : gLen [.st (.tup ds)] = .ok (.st (.int (ds.length : Nat))) := rfl
theorem z_list_t : gList [.st (.tup ds)] = .ok (.fr ds) := rfl
theorem z_tuple_t : gTuple [.st (.tup ds)] = .ok (.st (.tup ds)) := rfl
theorem z_idx_t (j : Int) : idxD (.st (.tup ds)) (.st (.int j)) = idxK (atI ds j) := by
  cases e : atI ds j <;> simp [idxD, idxN, PV.items, PV.d, e, idxK]
theorem z_cut_t (lo hi : Option Int) : vCut (.st (.tup ds)) lo hi = .ok (.st (.tup (cutD ds lo hi))) := rfl
theorem z_len_a (ns : List Int) : gLen [.st (.arg ns)] = .ok (.st (.int ((ns.map D.int).length : Nat))) := rfl
theorem z_list_a (ns : List Int) : gList [.st (.arg ns)] = .ok (.fr (ns.map D.int)) := rfl
theorem z_tuple_a (ns : List Int) : gTuple [.st (.arg ns)] = .ok (.st (.tup (ns.map D.int))) := rfl
theorem z_idx_a (ns : List Int) (j : Int) : idxD (.st (.arg ns)) (.st (.int j)) = idxK (atI (ns.map D.int) j) := by
  cases e : atI (ns.map D.int) j <;> simp [idxD, idxN, PV.items, PV.d, e, idxK]
theorem z_cut_a (ns : List Int) (lo hi : Option Int) : vCut (.st (.arg ns)) lo hi = .ok (.fr (cutD (ns.map D.int) lo hi)) := rfl
theorem z_vrev_a (ns : List Int) : vRev (.st (.arg ns)) = .ok (.fr (ns.map D.int).reverse) := rfl
theorem z_len_bo : gLen [.bo ds] = .ok (.st (.int (ds.length : Nat))) := rfl
theorem z_list_bo : gList [.bo ds] = .ok (.fr ds) := rfl
theorem z_tuple_bo : gTuple [.bo ds] = .ok (.st (.tup ds)) := rfl
theorem z_idx_bo (j : Int) : idxD (.bo ds) (.st (.int j)) = idxK (atI ds j) := by
  cases e : atI ds j <;> simp [idxD, idxN, PV.items, PV.d, e, idxK]
theorem z_cut_bo (lo hi : Option Int) : vCut (.bo ds) lo hi = .ok (.fr (cutD ds lo hi)) := rfl
theorem z_vrev_bo : vRev (.bo ds) = .ok (.fr ds.reverse) := rfl
theorem z_len_fr : gLen [.fr ds] = .ok (.st (.int (ds.length : Nat))) := rfl
theorem z_list_fr : gList [.fr ds] = .ok (.fr ds) := rfl
theorem z_tuple_fr : gTuple [.fr ds] = .ok (.st (.tup ds)) := rfl
theorem z_idx_fr (j : Int) : idxD (.fr ds) (.st (.int j)) = idxK (atI ds j) := by
  cases e : atI ds j <;> simp [idxD, idxN, PV.items, PV.d, e, idxK]
theorem z_cut_fr (lo hi : Option Int) : vCut (.fr ds) lo hi = .ok (.fr (cutD ds lo hi)) := rfl
theorem z_vrev_fr : vRev (.fr ds) = .ok (.fr ds.reverse) := rfl
theorem z_tupl {ps : List PV} : gTupl ps = (toDs ps).bind fun ds => lim ds.length (.ok (.st (.tup ds))) := rfl
theorem z_lis {ps : List PV} : gLis ps = (toDs ps).bind fun ds => lim ds.length (.ok (.fr ds)) := rfl
theorem z_lim {α : Type} {n : Nat} {r : R α} (h : n ≤ 16777216) : lim n r = r := if_pos h
theorem atI_nat {α : Type} {l : List α} {j : Nat} : atI l (j : Int) = l[j]? := by
  unfold atI ixN
  rw [if_pos (by omega)]
  by_cases h : (j : Int) < l.length
  · rw [if_pos h]
    rfl
  · rw [if_neg h]
    have : l.length ≤ j := by omega
    rw [List.getElem?_eq_none this]
    rfl
/-! comprehensions -/
def lcK (n : Nat) (r : R (List D)) : R PV := match r with
  | .ok o => if n ≤ 16777216 then .ok (.fr o) else .bad
  | _ => .bad
theorem z_lc {e : CE} {vs : List Nat} : cLc it tg t e vs G = (it G).bind fun l => lcK l.length (lcL tg t e (wipeG G vs) l) := rfl
theorem z_lcK {k : Nat} (h : k ≤ 16777216) : lcK k (.ok ds) = .ok (.fr ds) := if_pos h
theorem z_lc_nil {e : CE} : lcL tg t e G [] = .ok [] := rfl
theorem z_lc_cons {e : CE} (dd : D) : lcL tg t e G (dd :: ds) = (tg dd G).bind fun G1 => (t G1).bind fun b => if b = true then (e G1).bind fun p => p.toD.bind fun y => (lcL tg t e G ds).bind fun o => .ok (y :: o) else lcL tg t e G ds := rfl
end
/-- a comprehension that maps and tests -/
theorem lc_map {α : Type} {tg : CG} {t : CT} {e : CE} {G : Ev} (m : α → D) (p : α → Bool) (y : α → D) : ∀ xs : List α, (∀ x ∈ xs, ∃ G1, tg (m x) G = .ok G1 ∧ t G1 = .ok (p x) ∧ (p x = true → ∃ pv, e G1 = .ok pv ∧ pv.toD = .ok (y x))) → lcL tg t e G (xs.map m) = .ok ((xs.filter p).map y)
  | [], _ => rfl
  | x :: xs, h => by
    obtain ⟨G1, h1, h2, h3⟩ := h x (List.mem_cons_self ..)
    have ih := lc_map m p y xs fun z hz => h z (List.mem_cons_of_mem _ hz)
    rw [List.map_cons, z_lc_cons, h1, R.bind_ok, h2, R.bind_ok, ih]
    cases hp : p x with
    | true =>
      obtain ⟨pv, h4, h5⟩ := h3 hp
      rw [if_pos rfl, h4, R.bind_ok, h5, R.bind_ok, R.bind_ok, List.filter_cons, if_pos hp]
      rfl
    | false => rw [if_neg Bool.false_ne_true, List.filter_cons, if_neg (by rw [hp]; exact Bool.false_ne_true)]
end BT
/-! == and in of data whose depth is known. -/
namespace BT
open PySem PySem.Spec PyProof.Rows L2
/-- data that == may look at, at most n lists deep -/
structure ShP (n : Nat) (d : D) : Prop where
  lay : d.py.canLay0 = true
  dep : d.py.depth ≤ n
section
variable {n m : Nat}
theorem ShP.mono {d : D} (h : ShP n d) (k : n ≤ m) : ShP m d := ⟨h.lay, Nat.le_trans h.dep k⟩
theorem sh_non : ShP n .non := ⟨by simp [D.py, PyData.canLay0], by simp [D.py, PyData.depth]⟩
theorem sh_bl (b : Bool) : ShP n (.bl b) := ⟨by simp [D.py, PyData.canLay0], by simp [D.py, PyData.depth]⟩
theorem sh_int (i : Int) : ShP n (.int i) := ⟨by simp [D.py, PyData.canLay0], by simp [D.py, PyData.depth]⟩
theorem sh_str {x : Str} (h : x.cps.all (· < 0x110000) = true) : ShP n (.str x) := ⟨by simp only [D.py, PyData.canLay0]; exact h, by simp [D.py, PyData.depth]⟩
theorem pys_all : ∀ (l : List D), (∀ x ∈ l, ShP n x) → PyData.canLayAll0 (D.pys l) = true ∧ PyData.depthAll (D.pys l) ≤ n
  | [], _ => ⟨rfl, Nat.zero_le _⟩
  | d :: r, h => by
    obtain ⟨h1, h2⟩ := h d (List.mem_cons_self ..)
    obtain ⟨h3, h4⟩ := pys_all r fun x hx => h x (List.mem_cons_of_mem _ hx)
    constructor
    · show (PyData.canLay0 d.py && PyData.canLayAll0 (D.pys r)) = true
      rw [h1, h3]
      rfl
    · show max d.py.depth (PyData.depthAll (D.pys r)) ≤ n
      omega
theorem sh_lst {l : List D} (h : ∀ x ∈ l, ShP n x) : ShP (n + 1) (.lst l) := ⟨by simp only [D.py, PyData.canLay0]; exact (pys_all l h).1, by simp only [D.py, PyData.depth]; exact Nat.succ_le_succ (pys_all l h).2⟩
theorem sh_tup {l : List D} (h : ∀ x ∈ l, ShP n x) : ShP (n + 1) (.tup l) := ⟨by simp only [D.py, PyData.canLay0]; exact (pys_all l h).1, by simp only [D.py, PyData.depth]; exact Nat.succ_le_succ (pys_all l h).2⟩
theorem ShP.sh {d : D} (h : ShP n d) (k : n ≤ 64) : SeqAt.shaped d.py = true := by
  unfold SeqAt.shaped
  rw [h.lay, decide_eq_true (Nat.le_trans h.dep k)]
  rfl
theorem eqD_of {x y : D} (h : ShP n x) (h2 : ShP m y) (k : n ≤ 64) (k2 : m ≤ 64) : eqD x y = .ok (PyData.eqv x.py y.py) := by
  unfold eqD
  rw [h.sh k, h2.sh k2]
  rfl
/-- whether this is the empty list -/
theorem eqD_nil {l : List D} (h : ∀ x ∈ l, ShP n x) (k : n < 64) : eqD (.lst l) (.lst []) = .ok l.isEmpty := by
  rw [eqD_of (sh_lst h) (sh_lst (n := 0) fun x hx => by cases hx) k (by decide)]
  cases l with
  | nil => rfl
  | cons a r => rfl
theorem eqD_tnil {l : List D} (h : ∀ x ∈ l, ShP n x) (k : n < 64) : eqD (.tup l) (.tup []) = .ok l.isEmpty := by
  rw [eqD_of (sh_tup h) (sh_tup (n := 0) fun x hx => by cases hx) k (by decide)]
  cases l with
  | nil => rfl
  | cons a r => rfl
end
/-! whole numbers that are not negative -/
def I (l : List Nat) : List D := l.map fun (n : Nat) => D.int (n : Int)
theorem sh_I (l : List Nat) : ∀ x ∈ I l, ShP 0 x := fun x h => by
  obtain ⟨n, _, e⟩ := List.mem_map.mp h
  rw [← e]
  exact sh_int _
theorem eqv_I : ∀ a b : List Nat, PyData.eqvAll (D.pys (I a)) (D.pys (I b)) = decide (a = b)
  | [], [] => rfl
  | [], _ :: _ => rfl
  | _ :: _, [] => rfl
  | x :: a, y :: b => by
    show (((x : Int) == (y : Int)) && PyData.eqvAll (D.pys (I a)) (D.pys (I b))) = _
    rw [eqv_I a b]
    by_cases h : x = y
    · subst h
      rw [beq_self_eq_true]
      simp
    · have e : ((x : Int) == (y : Int)) = false := by
        rw [beq_eq_false_iff_ne]
        omega
      rw [e]
      simp [h]
theorem eqD_I (a b : List Nat) : eqD (.lst (I a)) (.lst (I b)) = .ok (decide (a = b)) := by
  rw [eqD_of (sh_lst (sh_I a)) (sh_lst (sh_I b)) (by decide) (by decide)]
  exact congrArg R.ok (eqv_I a b)
theorem eqD_It (a b : List Nat) : eqD (.tup (I a)) (.tup (I b)) = .ok (decide (a = b)) := by
  rw [eqD_of (sh_tup (sh_I a)) (sh_tup (sh_I b)) (by decide) (by decide)]
  exact congrArg R.ok (eqv_I a b)
theorem mem_I (x : Nat) (l : List Nat) : memD (.int (x : Int)) (I l) = l.contains x := by
  induction l with
  | nil => rfl
  | cons y l ih =>
    show (PyData.eqv (.int (y : Int)) (.int (x : Int)) || memD (.int (x : Int)) (I l)) = _
    rw [ih, List.contains_cons]
    congr 1
    show ((y : Int) == (x : Int)) = (x == y)
    by_cases h : y = x
    · subst h
      rw [beq_self_eq_true, beq_self_eq_true]
    · have e : ((y : Int) == (x : Int)) = false := by
        rw [beq_eq_false_iff_ne]
        omega
      have e2 : (x == y) = false := by
        rw [beq_eq_false_iff_ne]
        omega
      rw [e, e2]
theorem flat_I (l : List Nat) : (I l).all D.flat = true := by
  rw [List.all_eq_true]
  intro x h
  obtain ⟨n, _, e⟩ := List.mem_map.mp h
  rw [← e]
  rfl
theorem inD_I {q : PV} {x : Nat} {l : List Nat} (h : q.items = some (I l)) : inD (.int (x : Int)) q = .ok (l.contains x) := by
  unfold inD
  rw [h]
  dsimp only
  rw [flat_I, mem_I]
  rfl
end BT
namespace BW
open PySem PySem.Spec PyProof.Rows L2 BT
abbrev PP : Program := PySem.Challenge.pw_blocktrees_s08_slug
def top (i : Nat) : Stmt := PP.main.body.getD i (.Pass ⟨0, 0, 0, 0⟩)
def d_LAST_CODE : D := (.int 1114111)
def d_FIRST_SURROGATE : D := (.int 55296)
def d_LAST_SURROGATE : D := (.int 57343)
def d_LEAST_CODES : D := (.tup [(.int 0), (.int 0), (.int 128), (.int 2048), (.int 65536)])
def d_LEADS : D := (.tup [(.int 0), (.int 0), (.int 192), (.int 224), (.int 240)])
def d_WHITE : D := (.tup [(.int 32), (.int 9), (.int 10), (.int 13)])
def d_HYPHEN : D := (.int 45)
def d_LOW_LINE : D := (.int 95)
def d_MOST_SLUG : D := (.int 30)
def d_NO_TEXT : D := (.int (-24))
/-- what the top leaves -/
structure Tx (K : PySem.W.Frag) (mg : Str → Option Value) : Prop where
  at_is_code : At K mg "is_code" (top 6)
  at_size_by_lead : At K mg "size_by_lead" (top 7)
  at_sequence_at : At K mg "sequence_at" (top 8)
  at_decoded : At K mg "decoded" (top 9)
  at_size_of : At K mg "size_of" (top 10)
  at_bytes_of : At K mg "bytes_of" (top 11)
  at_encoded : At K mg "encoded" (top 12)
  at_codes_of : At K mg "codes_of" (top 13)
  at_words : At K mg "words" (top 19)
  at_slug_sign : At K mg "slug_sign" (top 20)
  at_slug_word : At K mg "slug_word" (top 21)
  at_slug_of : At K mg "slug_of" (top 22)
  at_answered : At K mg "answered" (top 25)
  at_slug : At K mg "slug" (top 26)
  g_LAST_CODE : GlobD K mg "LAST_CODE" d_LAST_CODE
  g_FIRST_SURROGATE : GlobD K mg "FIRST_SURROGATE" d_FIRST_SURROGATE
  g_LAST_SURROGATE : GlobD K mg "LAST_SURROGATE" d_LAST_SURROGATE
  g_LEAST_CODES : GlobD K mg "LEAST_CODES" d_LEAST_CODES
  g_LEADS : GlobD K mg "LEADS" d_LEADS
  g_WHITE : GlobD K mg "WHITE" d_WHITE
  g_HYPHEN : GlobD K mg "HYPHEN" d_HYPHEN
  g_LOW_LINE : GlobD K mg "LOW_LINE" d_LOW_LINE
  g_MOST_SLUG : GlobD K mg "MOST_SLUG" d_MOST_SLUG
  g_NO_TEXT : GlobD K mg "NO_TEXT" d_NO_TEXT
  n_len : mg "len" = none
  n_ord : mg "ord" = none
  n_range : mg "range" = none
  n_tuple : mg "tuple" = none
section
variable {P : Program} {w : World} {K : PySem.W.Frag} {mg : Str → Option Value} {base : Heap} {C : Addr}
noncomputable def c_is_code : CS := (cRet (cAndE (cOp2 vLe (cVar 0) (cLit d_LAST_CODE)) (cNotE (cChain vLe vLe (cLit d_FIRST_SURROGATE) (cVar 0) (cLit d_LAST_SURROGATE)))))
noncomputable def f_is_code : List D → R PV := runF 1 c_is_code
theorem w_is_code (T : Tx K mg) : FnA P w K mg base C 1 "is_code" ["code"] f_is_code := by
  have hN : (["code"] : List Str).Nodup := by decide +kernel
  exact fn_run ["code"] ["code"] T.at_is_code ⟨rfl, rfl, rfl, by decide +kernel, rfl, by decide +kernel, by decide +kernel⟩ (by decide) (fun _ _ _ _ _ _ us hl => match us, hl with | [_], _ => rfl) fun fa cdv A outer s H E hr hx hp tk => ⟨_, (db_one (ds_ret (BT.de_and (de_le (de_var 0) (de_glob T.g_LAST_CODE)) (de_one (de_not (de_lele (de_glob T.g_FIRST_SURROGATE) (de_var 0) (de_glob T.g_LAST_SURROGATE)))))))⟩
noncomputable def c_size_by_lead : CS := (cSeq (cIfS (cT (cOp2 vLt (cVar 0) (cLit (.int 128)))) (cRet (cLit (.int 1))) cNext)
  (cSeq (cIfS (cOrT (cT (cOp2 vLt (cVar 0) (cLit (.int 192)))) (cT (cOp2 vGe (cVar 0) (cLit (.int 248))))) (cRet (cLit (.int 0))) cNext)
  (cSeq (cIfS (cT (cOp2 vLt (cVar 0) (cLit (.int 224)))) (cRet (cLit (.int 2))) cNext)
  (cRet (cIfE (cT (cOp2 vLt (cVar 0) (cLit (.int 240)))) (cLit (.int 3)) (cLit (.int 4)))))))
noncomputable def f_size_by_lead : List D → R PV := runF 1 c_size_by_lead
theorem w_size_by_lead (T : Tx K mg) : FnA P w K mg base C 1 "size_by_lead" ["byte"] f_size_by_lead := by
  have hN : (["byte"] : List Str).Nodup := by decide +kernel
  exact fn_run ["byte"] ["byte"] T.at_size_by_lead ⟨rfl, rfl, rfl, by decide +kernel, rfl, by decide +kernel, by decide +kernel⟩ (by decide) (fun _ _ _ _ _ _ us hl => match us, hl with | [_], _ => rfl) fun fa cdv A outer s H E hr hx hp tk => ⟨_, (db_cons (ds_if (dt_lt (de_var 0) de_int) (db_one (ds_ret de_int)) db_nil)
  (db_cons (ds_if (dt_w (dw_or (dt_lt (de_var 0) de_int) (dw_or1 (dt_ge (de_var 0) de_int)))) (db_one (ds_ret de_int)) db_nil)
  (db_cons (ds_if (dt_lt (de_var 0) de_int) (db_one (ds_ret de_int)) db_nil)
  (db_one (ds_ret (de_if (dt_lt (de_var 0) de_int) de_int de_int))))))⟩
noncomputable def b_sequence_at_0 : CS := (cSeq (cIfS (cNotT (cT (cChain vLe vLt (cLit (.int 128)) (cVar 4) (cLit (.int 192))))) (cRet (cLit .non)) cNext)
  (cSet 3 (cOp2 vSub (cOp2 vAdd (cOp2 vMul (cVar 3) (cLit (.int 64))) (cVar 4)) (cLit (.int 128)))))
noncomputable def c_sequence_at : CS := (cSeq (cSet 2 (cCall (cRes 1 f_size_by_lead) (cCons (cOp2 idxD (cVar 0) (cVar 1)) cNil)))
  (cSeq (cIfS (cOrT (cT (cOp2 vEq (cVar 2) (cLit (.int 0)))) (cT (cOp2 vGt (cOp2 vAdd (cVar 1) (cVar 2)) (cB gLen (cCons (cVar 0) cNil))))) (cRet (cLit .non)) cNext)
  (cSeq (cSet 3 (cOp2 vSub (cOp2 idxD (cVar 0) (cVar 1)) (cOp2 idxD (cLit d_LEADS) (cVar 2))))
  (cSeq (cFor (cSeqI (cSl vCut (cVar 0) (cPart (cOp2 vAdd (cVar 1) (cLit (.int 1)))) (cPart (cOp2 vAdd (cVar 1) (cVar 2))))) (gnm 4) b_sequence_at_0)
  (cSeq (cIfS (cOrT (cT (cOp2 vLt (cVar 3) (cOp2 idxD (cLit d_LEAST_CODES) (cVar 2)))) (cNotT (cT (cCall (cRes 1 f_is_code) (cCons (cVar 3) cNil))))) (cRet (cLit .non)) cNext)
  (cRet (cB gTupl (cCons (cVar 3) (cCons (cVar 2) cNil)))))))))
noncomputable def f_sequence_at : List D → R PV := runF 5 c_sequence_at
theorem w_sequence_at (T : Tx K mg) (F_size_by_lead : FnA P w K mg base C 1 "size_by_lead" ["byte"] f_size_by_lead) (F_is_code : FnA P w K mg base C 1 "is_code" ["code"] f_is_code) : FnA P w K mg base C 2 "sequence_at" ["data", "at"] f_sequence_at := by
  have F_size_by_lead := F_size_by_lead.mono (show 1 ≤ 1 by decide)
  have F_is_code := F_is_code.mono (show 1 ≤ 1 by decide)
  have hN : (["data", "at", "size", "code", "byte"] : List Str).Nodup := by decide +kernel
  exact fn_run ["data", "at", "size", "code", "byte"] ["data", "at"] T.at_sequence_at ⟨rfl, rfl, rfl, by decide +kernel, rfl, by decide +kernel, by decide +kernel⟩ (by decide) (fun _ _ _ _ _ _ us hl => match us, hl with | [_, _], _ => rfl) fun fa cdv A outer s H E hr hx hp tk => ⟨_, (db_cons (q_set 2 hN (BT.de_call F_size_by_lead hr hx (da_cons (de_idx (de_var 0) (de_var 1)) da_nil)))
  (db_cons (ds_if (dt_w (dw_or (dt_eq hr (de_var 2) de_int) (dw_or1 (dt_gt (de_add (de_var 1) (de_var 2)) (de_len T.n_len (da_cons (de_var 0) da_nil)))))) (db_one (ds_ret de_non)) db_nil)
  (db_cons (q_set 3 hN (de_sub (de_idx (de_var 0) (de_var 1)) (de_idx (de_glob T.g_LEADS) (de_var 2))))
  (db_cons (ds_for hp rfl (di_seq (de_slice (de_var 0) (do_some (de_add (de_var 1) de_int)) (do_some (de_add (de_var 1) (de_var 2))))) (q_nm 4 hN) (noex_gnm 4) (db_cons (ds_if (dt_not (dt_lelt de_int (de_var 4) de_int)) (db_one (ds_ret de_non)) db_nil)
  (db_one (q_set 3 hN (de_sub (de_add (de_mul (de_var 3) de_int) (de_var 4)) de_int)))))
  (db_cons (ds_if (dt_w (dw_or (dt_lt (de_var 3) (de_idx (de_glob T.g_LEAST_CODES) (de_var 2))) (dw_or1 (dt_not (dt_val (BT.de_call F_is_code hr hx (da_cons (de_var 3) da_nil))))))) (db_one (ds_ret de_non)) db_nil)
  (db_one (ds_ret (de_tup (da_cons (de_var 3) (da_cons (de_var 2) da_nil))))))))))⟩
noncomputable def t_decoded_0 : CT := (cT (cOp2 vLt (cVar 2) (cB gLen (cCons (cVar 0) cNil))))
noncomputable def b_decoded_0 : CS := (cSeq (cSet 3 (cCall (cRes 2 f_sequence_at) (cCons (cVar 0) (cCons (cVar 2) cNil))))
  (cSeq (cIfS (cT (cOp2 vIsN (cVar 3) (cLit .non))) (cRet (cLit .non)) cNext)
  (cSeq (cAppend 1 (cOp2 idxD (cVar 3) (cLit (.int 0))))
  (cAug 2 vAddI (cOp2 idxD (cVar 3) (cLit (.int 1)))))))
noncomputable def c_decoded : CS := (cSeq (cOwn 1 (cB gLis cNil))
  (cSeq (cSet 2 (cLit (.int 0)))
  (cSeq (cWh t_decoded_0 b_decoded_0)
  (cRet (cB gTuple (cCons (cVar 1) cNil))))))
noncomputable def f_decoded : List D → R PV := runF 4 c_decoded
theorem w_decoded (T : Tx K mg) (F_sequence_at : FnA P w K mg base C 2 "sequence_at" ["data", "at"] f_sequence_at) : FnA P w K mg base C 3 "decoded" ["data"] f_decoded := by
  have F_sequence_at := F_sequence_at.mono (show 2 ≤ 2 by decide)
  have hN : (["data", "found", "at", "one"] : List Str).Nodup := by decide +kernel
  exact fn_run ["data", "found", "at", "one"] ["data"] T.at_decoded ⟨rfl, rfl, rfl, by decide +kernel, rfl, by decide +kernel, by decide +kernel⟩ (by decide) (fun _ _ _ _ _ _ us hl => match us, hl with | [_], _ => rfl) fun fa cdv A outer s H E hr hx hp tk => ⟨_, (db_cons (q_own 1 hN (de_lst da_nil))
  (db_cons (q_set 2 hN de_int)
  (db_cons (q_wh hp (dt_lt (de_var 2) (de_len T.n_len (da_cons (de_var 0) da_nil))) (db_cons (q_set 3 hN (BT.de_call F_sequence_at hr hx (da_cons (de_var 0) (da_cons (de_var 2) da_nil))))
  (db_cons (ds_if (dt_isN (de_var 3) de_non) (db_one (ds_ret de_non)) db_nil)
  (db_cons (ds_append 1 (de_idx (de_var 3) de_int))
  (db_one (q_add 2 hN (de_idx (de_var 3) de_int)))))))
  (db_one (ds_ret (de_tuple T.n_tuple (da_cons (de_var 1) da_nil)))))))⟩
noncomputable def e_size_of_0 : CE := (cVar 1)
noncomputable def t_size_of_0 : CT := (cT (cOp2 vGe (cVar 0) (cVar 1)))
noncomputable def c_size_of : CS := (cRet (cOp2 vAdd (cLit (.int 1)) (cB gLen (cCons (cLc (cSeqI (cSl vCut (cLit d_LEAST_CODES) (cPart (cLit (.int 2))) cNoPart)) (gnm 1) t_size_of_0 e_size_of_0 [1]) cNil))))
noncomputable def f_size_of : List D → R PV := runF 2 c_size_of
theorem w_size_of (T : Tx K mg) : FnA P w K mg base C 1 "size_of" ["code"] f_size_of := by
  have hN : (["code", "least"] : List Str).Nodup := by decide +kernel
  exact fn_run ["code", "least"] ["code"] T.at_size_of ⟨rfl, rfl, rfl, by decide +kernel, rfl, by decide +kernel, by decide +kernel⟩ (by decide) (fun _ _ _ _ _ _ us hl => match us, hl with | [_], _ => rfl) fun fa cdv A outer s H E hr hx hp tk => ⟨_, (db_one (ds_ret (de_add de_int (de_len T.n_len (da_cons (de_lc [("least", 1)] rfl hN (di_seq (de_slice (de_glob T.g_LEAST_CODES) (do_some de_int) do_none)) (by kernel_rfl) (fun _ _ _ _ _ => (q_nm 1 hN)) (fun _ _ _ _ _ => (dts_one (dt_ge (de_var 0) (de_var 1)))) (fun _ _ _ _ _ => (de_var 1)) (by decide)) da_nil)))))⟩
noncomputable def b_bytes_of_0 : CS := (cSeq (cAppend 2 (cOp2 vAdd (cLit (.int 128)) (cOp2 vMod (cVar 3) (cLit (.int 64)))))
  (cAug 3 vDiv (cLit (.int 64))))
noncomputable def c_bytes_of : CS := (cSeq (cSet 1 (cCall (cRes 1 f_size_of) (cCons (cVar 0) cNil)))
  (cSeq (cOwn 2 (cB gLis cNil))
  (cSeq (cSet 3 (cVar 0))
  (cSeq (cFor (cRng1 (cCons (cOp2 vSub (cVar 1) (cLit (.int 1))) cNil)) (gnm 4) b_bytes_of_0)
  (cSeq (cAppend 2 (cOp2 vAdd (cOp2 idxD (cLit d_LEADS) (cVar 1)) (cVar 3)))
  (cRet (cRev (cVar 2))))))))
noncomputable def f_bytes_of : List D → R PV := runF 5 c_bytes_of
theorem w_bytes_of (T : Tx K mg) (F_size_of : FnA P w K mg base C 1 "size_of" ["code"] f_size_of) : FnA P w K mg base C 2 "bytes_of" ["code"] f_bytes_of := by
  have F_size_of := F_size_of.mono (show 1 ≤ 1 by decide)
  have hN : (["code", "size", "found", "rest", "turn"] : List Str).Nodup := by decide +kernel
  exact fn_run ["code", "size", "found", "rest", "turn"] ["code"] T.at_bytes_of ⟨rfl, rfl, rfl, by decide +kernel, rfl, by decide +kernel, by decide +kernel⟩ (by decide) (fun _ _ _ _ _ _ us hl => match us, hl with | [_], _ => rfl) fun fa cdv A outer s H E hr hx hp tk => ⟨_, (db_cons (q_set 1 hN (BT.de_call F_size_of hr hx (da_cons (de_var 0) da_nil)))
  (db_cons (q_own 2 hN (de_lst da_nil))
  (db_cons (q_set 3 hN (de_var 0))
  (db_cons (ds_for hp rfl (di_range1 T.n_range (da_cons (de_sub (de_var 1) de_int) da_nil)) (q_nm 4 hN) (noex_gnm 4) (db_cons (ds_append 2 (de_add de_int (de_mod (de_var 3) de_int)))
  (db_one (q_div 3 hN de_int))))
  (db_cons (ds_append 2 (de_add (de_idx (de_glob T.g_LEADS) (de_var 1)) (de_var 3)))
  (db_one (ds_ret (de_rev (de_var 2)))))))))⟩
noncomputable def b_encoded_0 : CS := (cExtend 1 (cCall (cRes 1 f_bytes_of) (cCons (cVar 2) cNil)))
noncomputable def c_encoded : CS := (cSeq (cOwn 1 (cB gLis cNil))
  (cSeq (cFor (cSeqI (cVar 0)) (gnm 2) b_encoded_0)
  (cRet (cVar 1))))
noncomputable def f_encoded : List D → R PV := runF 3 c_encoded
theorem w_encoded (T : Tx K mg) (F_bytes_of : FnA P w K mg base C 2 "bytes_of" ["code"] f_bytes_of) : FnA P w K mg base C 3 "encoded" ["codes"] f_encoded := by
  have F_bytes_of := F_bytes_of.mono (show 2 ≤ 2 by decide)
  have hN : (["codes", "found", "code"] : List Str).Nodup := by decide +kernel
  exact fn_run ["codes", "found", "code"] ["codes"] T.at_encoded ⟨rfl, rfl, rfl, by decide +kernel, rfl, by decide +kernel, by decide +kernel⟩ (by decide) (fun _ _ _ _ _ _ us hl => match us, hl with | [_], _ => rfl) fun fa cdv A outer s H E hr hx hp tk => ⟨_, (db_cons (q_own 1 hN (de_lst da_nil))
  (db_cons (ds_for hp rfl (di_seq (de_var 0)) (q_nm 2 hN) (noex_gnm 2) (db_one (ds_extend 1 (BT.de_call F_bytes_of hr hx (da_cons (de_var 2) da_nil)))))
  (db_one (ds_ret (de_var 1)))))⟩
noncomputable def e_codes_of_0 : CE := (cB gOrd (cCons (cVar 1) cNil))
noncomputable def c_codes_of : CS := (cRet (cB gTuple (cCons (cLc (cTxtI (cVar 0)) (gnm 1) cYes e_codes_of_0 [1]) cNil)))
noncomputable def f_codes_of : List D → R PV := runF 2 c_codes_of
theorem w_codes_of (T : Tx K mg) : FnA P w K mg base C 1 "codes_of" ["text"] f_codes_of := by
  have hN : (["text", "sign"] : List Str).Nodup := by decide +kernel
  exact fn_run ["text", "sign"] ["text"] T.at_codes_of ⟨rfl, rfl, rfl, by decide +kernel, rfl, by decide +kernel, by decide +kernel⟩ (by decide) (fun _ _ _ _ _ _ us hl => match us, hl with | [_], _ => rfl) fun fa cdv A outer s H E hr hx hp tk => ⟨_, (db_one (ds_ret (de_tuple T.n_tuple (da_cons (de_lc [("sign", 1)] rfl hN (di_text (de_var 0)) (by kernel_rfl) (fun _ _ _ _ _ => (q_nm 1 hN)) (fun _ _ _ _ _ => dts_nil) (fun _ _ _ _ _ => (de_ord T.n_ord (da_cons (de_var 1) da_nil))) (by decide)) da_nil))))⟩
noncomputable def b_words_0 : CS := (cIfS (cT (cOp2 vIn (cVar 3) (cVar 1))) (cAppend2 2 (cB gLis cNil)) (cInner 2 (cVar 3)))
noncomputable def e_words_1 : CE := (cVar 4)
noncomputable def t_words_1 : CT := (cT (cOp2 vNe (cVar 4) (cB gLis cNil)))
noncomputable def c_words : CS := (cSeq (cNew1 2)
  (cSeq (cFor (cSeqI (cVar 0)) (gnm 3) b_words_0)
  (cFreeze 2 (cRet (cLc (cSeqI (cVar 2)) (gnm 4) t_words_1 e_words_1 [4])))))
noncomputable def f_words : List D → R PV := runF 5 c_words
theorem w_words (T : Tx K mg) : FnA P w K mg base C 1 "words" ["codes", "between"] f_words := by
  have hN : (["codes", "between", "found", "code", "word"] : List Str).Nodup := by decide +kernel
  exact fn_run ["codes", "between", "found", "code", "word"] ["codes", "between"] T.at_words ⟨rfl, rfl, rfl, by decide +kernel, rfl, by decide +kernel, by decide +kernel⟩ (by decide) (fun _ _ _ _ _ _ us hl => match us, hl with | [_, _], _ => rfl) fun fa cdv A outer s H E hr hx hp tk => ⟨_, (db_cons (q_new1 2 hN)
  (db_cons (ds_for hp rfl (di_seq (de_var 0)) (q_nm 3 hN) (noex_gnm 3) (db_one (ds_if (dt_in hr (de_var 3) (de_var 1)) (db_one (ds_append2 2 (de_lst da_nil))) (db_one (ds_inner 2 (de_var 3))))))
  (db_freeze 2 (db_one (ds_ret (de_lc [("word", 4)] rfl hN (di_seq (de_var 2)) (by kernel_rfl) (fun _ _ _ _ _ => (q_nm 4 hN)) (fun _ _ _ _ _ => (dts_one (kt_ne K hr (de_var 4) (de_lst da_nil)))) (fun _ _ _ _ _ => (de_var 4)) (by decide)))))))⟩
noncomputable def c_slug_sign : CS := (cSeq (cIfS (cT (cChain vLe vLe (cLit (.int 65)) (cVar 0) (cLit (.int 90)))) (cRet (cB gLis (cCons (cOp2 vAdd (cVar 0) (cLit (.int 32))) cNil))) cNext)
  (cRet (cIfE (cOrT (cT (cChain vLe vLe (cLit (.int 97)) (cVar 0) (cLit (.int 122)))) (cT (cChain vLe vLe (cLit (.int 48)) (cVar 0) (cLit (.int 57))))) (cB gLis (cCons (cVar 0) cNil)) (cB gLis cNil))))
noncomputable def f_slug_sign : List D → R PV := runF 1 c_slug_sign
theorem w_slug_sign (T : Tx K mg) : FnA P w K mg base C 1 "slug_sign" ["code"] f_slug_sign := by
  have hN : (["code"] : List Str).Nodup := by decide +kernel
  exact fn_run ["code"] ["code"] T.at_slug_sign ⟨rfl, rfl, rfl, by decide +kernel, rfl, by decide +kernel, by decide +kernel⟩ (by decide) (fun _ _ _ _ _ _ us hl => match us, hl with | [_], _ => rfl) fun fa cdv A outer s H E hr hx hp tk => ⟨_, (db_cons (ds_if (dt_lele de_int (de_var 0) de_int) (db_one (ds_ret (de_lst (da_cons (de_add (de_var 0) de_int) da_nil)))) db_nil)
  (db_one (ds_ret (de_if (dt_w (dw_or (dt_lele de_int (de_var 0) de_int) (dw_or1 (dt_lele de_int (de_var 0) de_int)))) (de_lst (da_cons (de_var 0) da_nil)) (de_lst da_nil)))))⟩
noncomputable def b_slug_word_0 : CS := (cExtend 1 (cCall (cRes 1 f_slug_sign) (cCons (cVar 2) cNil)))
noncomputable def c_slug_word : CS := (cSeq (cOwn 1 (cB gLis cNil))
  (cSeq (cFor (cSeqI (cVar 0)) (gnm 2) b_slug_word_0)
  (cRet (cVar 1))))
noncomputable def f_slug_word : List D → R PV := runF 3 c_slug_word
theorem w_slug_word (T : Tx K mg) (F_slug_sign : FnA P w K mg base C 1 "slug_sign" ["code"] f_slug_sign) : FnA P w K mg base C 2 "slug_word" ["word"] f_slug_word := by
  have F_slug_sign := F_slug_sign.mono (show 1 ≤ 1 by decide)
  have hN : (["word", "found", "code"] : List Str).Nodup := by decide +kernel
  exact fn_run ["word", "found", "code"] ["word"] T.at_slug_word ⟨rfl, rfl, rfl, by decide +kernel, rfl, by decide +kernel, by decide +kernel⟩ (by decide) (fun _ _ _ _ _ _ us hl => match us, hl with | [_], _ => rfl) fun fa cdv A outer s H E hr hx hp tk => ⟨_, (db_cons (q_own 1 hN (de_lst da_nil))
  (db_cons (ds_for hp rfl (di_seq (de_var 0)) (q_nm 2 hN) (noex_gnm 2) (db_one (ds_extend 1 (BT.de_call F_slug_sign hr hx (da_cons (de_var 2) da_nil)))))
  (db_one (ds_ret (de_var 1)))))⟩
noncomputable def b_slug_of_0 : CS := (cSeq (cSet 3 (cCall (cRes 1 f_slug_word) (cCons (cVar 2) cNil)))
  (cIfS (cT (cOp2 vNe (cVar 3) (cB gLis cNil))) (cSeq (cExtend 1 (cIfE (cT (cOp2 vNe (cVar 1) (cB gLis cNil))) (cB gLis (cCons (cLit d_HYPHEN) cNil)) (cB gLis cNil)))
  (cExtend 1 (cVar 3))) cNext))
noncomputable def c_slug_of : CS := (cSeq (cOwn 1 (cB gLis cNil))
  (cSeq (cFor (cSeqI (cCall (cRes 2 f_words) (cCons (cVar 0) (cCons (cOp2 vAdd (cLit d_WHITE) (cB gTupl (cCons (cLit d_HYPHEN) (cCons (cLit d_LOW_LINE) cNil)))) cNil)))) (gnm 2) b_slug_of_0)
  (cRet (cIfE (cT (cOp2 vNe (cVar 1) (cB gLis cNil))) (cB gTuple (cCons (cSl vCut (cVar 1) cNoPart (cPart (cLit d_MOST_SLUG))) cNil)) (cCall (cRes 1 f_codes_of) (cCons (cLit (.str "section")) cNil))))))
noncomputable def f_slug_of : List D → R PV := runF 4 c_slug_of
theorem w_slug_of (T : Tx K mg) (F_words : FnA P w K mg base C 1 "words" ["codes", "between"] f_words) (F_slug_word : FnA P w K mg base C 2 "slug_word" ["word"] f_slug_word) (F_codes_of : FnA P w K mg base C 1 "codes_of" ["text"] f_codes_of) : FnA P w K mg base C 3 "slug_of" ["codes"] f_slug_of := by
  have F_words := F_words.mono (show 1 ≤ 2 by decide)
  have F_slug_word := F_slug_word.mono (show 2 ≤ 2 by decide)
  have F_codes_of := F_codes_of.mono (show 1 ≤ 2 by decide)
  have hN : (["codes", "found", "word", "letters"] : List Str).Nodup := by decide +kernel
  exact fn_run ["codes", "found", "word", "letters"] ["codes"] T.at_slug_of ⟨rfl, rfl, rfl, by decide +kernel, rfl, by decide +kernel, by decide +kernel⟩ (by decide) (fun _ _ _ _ _ _ us hl => match us, hl with | [_], _ => rfl) fun fa cdv A outer s H E hr hx hp tk => ⟨_, (db_cons (q_own 1 hN (de_lst da_nil))
  (db_cons (ds_for hp rfl (di_seq (BT.de_call F_words hr hx (da_cons (de_var 0) (da_cons (de_add (de_glob T.g_WHITE) (de_tup (da_cons (de_glob T.g_HYPHEN) (da_cons (de_glob T.g_LOW_LINE) da_nil)))) da_nil)))) (q_nm 2 hN) (noex_gnm 2) (db_cons (q_set 3 hN (BT.de_call F_slug_word hr hx (da_cons (de_var 2) da_nil)))
  (db_one (ds_if (dt_ne hr (de_var 3) (de_lst da_nil)) (db_cons (ds_extend 1 (de_if (dt_ne hr (de_var 1) (de_lst da_nil)) (de_lst (da_cons (de_glob T.g_HYPHEN) da_nil)) (de_lst da_nil)))
  (db_one (ds_extend 1 (de_var 3)))) db_nil))))
  (db_one (ds_ret (de_if (dt_ne hr (de_var 1) (de_lst da_nil)) (de_tuple T.n_tuple (da_cons (de_slice (de_var 1) do_none (do_some (de_glob T.g_MOST_SLUG))) da_nil)) (BT.de_call F_codes_of hr hx (da_cons de_str da_nil)))))))⟩
noncomputable def c_answered : CS := (cSeq (cSet 1 (cCall (cRes 1 f_encoded) (cCons (cVar 0) cNil)))
  (cRet (cOp2 vAdd (cB gLis (cCons (cB gLen (cCons (cVar 1) cNil)) cNil)) (cVar 1))))
noncomputable def f_answered : List D → R PV := runF 2 c_answered
theorem w_answered (T : Tx K mg) (F_encoded : FnA P w K mg base C 3 "encoded" ["codes"] f_encoded) : FnA P w K mg base C 4 "answered" ["codes"] f_answered := by
  have F_encoded := F_encoded.mono (show 3 ≤ 3 by decide)
  have hN : (["codes", "data"] : List Str).Nodup := by decide +kernel
  exact fn_run ["codes", "data"] ["codes"] T.at_answered ⟨rfl, rfl, rfl, by decide +kernel, rfl, by decide +kernel, by decide +kernel⟩ (by decide) (fun _ _ _ _ _ _ us hl => match us, hl with | [_], _ => rfl) fun fa cdv A outer s H E hr hx hp tk => ⟨_, (db_cons (q_set 1 hN (BT.de_call F_encoded hr hx (da_cons (de_var 0) da_nil)))
  (db_one (ds_ret (de_add (de_lst (da_cons (de_len T.n_len (da_cons (de_var 1) da_nil)) da_nil)) (de_var 1)))))⟩
noncomputable def c_slug : CS := (cSeq (cSet 1 (cCall (cRes 1 f_decoded) (cCons (cVar 0) cNil)))
  (cRet (cIfE (cT (cOp2 vIsN (cVar 1) (cLit .non))) (cB gLis (cCons (cLit d_NO_TEXT) cNil)) (cCall (cRes 1 f_answered) (cCons (cCall (cRes 1 f_slug_of) (cCons (cVar 1) cNil)) cNil)))))
noncomputable def f_slug : List D → R PV := runF 2 c_slug
theorem w_slug (T : Tx K mg) (F_decoded : FnA P w K mg base C 3 "decoded" ["data"] f_decoded) (F_slug_of : FnA P w K mg base C 3 "slug_of" ["codes"] f_slug_of) (F_answered : FnA P w K mg base C 4 "answered" ["codes"] f_answered) : FnA P w K mg base C 5 "slug" ["text"] f_slug := by
  have F_decoded := F_decoded.mono (show 3 ≤ 4 by decide)
  have F_slug_of := F_slug_of.mono (show 3 ≤ 4 by decide)
  have F_answered := F_answered.mono (show 4 ≤ 4 by decide)
  have hN : (["text", "codes"] : List Str).Nodup := by decide +kernel
  exact fn_run ["text", "codes"] ["text"] T.at_slug ⟨rfl, rfl, rfl, by decide +kernel, rfl, by decide +kernel, by decide +kernel⟩ (by decide) (fun _ _ _ _ _ _ us hl => match us, hl with | [_], _ => rfl) fun fa cdv A outer s H E hr hx hp tk => ⟨_, (db_cons (q_set 1 hN (BT.de_call F_decoded hr hx (da_cons (de_var 0) da_nil)))
  (db_one (ds_ret (de_if (dt_isN (de_var 1) de_non) (de_lst (da_cons (de_glob T.g_NO_TEXT) da_nil)) (BT.de_call F_answered hr hx (da_cons (BT.de_call F_slug_of hr hx (da_cons (de_var 1) da_nil)) da_nil))))))⟩
end
end BW
namespace BW
open PySem PySem.Spec PyProof.Rows L2 BT
/-! bytes and code points -/
theorem ar_map (l : List Nat) : (AR l).map D.int = I l := by
  unfold AR I
  rw [List.map_map]
  rfl
theorem ilen (l : List Nat) : (I l).length = l.length := List.length_map ..
theorem icons (a : Nat) (l : List Nat) : I (a :: l) = .int (a : Int) :: I l := rfl
theorem inil : I [] = [] := rfl
theorem iapp (a b : List Nat) : I (a ++ b) = I a ++ I b := List.map_append
theorem iget (l : List Nat) (k : Nat) : (I l)[k]? = (l[k]?).map fun (n : Nat) => D.int (n : Int) := List.getElem?_map ..
theorem idrop (l : List Nat) (k : Nat) : (I l).drop k = I (l.drop k) := List.map_drop.symm
theorem itake (l : List Nat) (k : Nat) : (I l).take k = I (l.take k) := List.map_take.symm
theorem cut_nn {α : Type} (l : List α) (i j : Nat) : BT.cutD l (some (i : Int)) (some (j : Int)) = (l.drop i).take (j - i) := by
  unfold BT.cutD
  rw [HT.sIx_nat, HT.sIx_nat]
  by_cases h : i ≤ l.length
  · rw [Nat.min_eq_left h]
    by_cases h2 : j ≤ l.length
    · rw [Nat.min_eq_left h2]
    · rw [Nat.min_eq_right (by omega), List.take_of_length_le (by rw [List.length_drop]; omega), List.take_of_length_le (by rw [List.length_drop]; omega)]
  · rw [show min i l.length = l.length by omega, List.drop_length, List.drop_of_length_le (show l.length ≤ i by omega)]
    simp
theorem cut_n {α : Type} (l : List α) (i : Nat) : BT.cutD l (some (i : Int)) none = l.drop i := by
  unfold BT.cutD
  rw [HT.sIx_nat, HT.sIx_none]
  by_cases h : i ≤ l.length
  · rw [Nat.min_eq_left h, List.take_of_length_le (by rw [List.length_drop]; omega)]
  · rw [Nat.min_eq_right (by omega), List.drop_length, List.drop_of_length_le (by omega)]
    simp
theorem cut_0n {α : Type} (l : List α) (j : Nat) : BT.cutD l none (some (j : Int)) = l.take j := by
  unfold BT.cutD
  rw [HT.sIx_nat, HT.sIx_none, List.drop_zero, Nat.sub_zero]
  by_cases h : j ≤ l.length
  · rw [Nat.min_eq_left h]
  · rw [Nat.min_eq_right (by omega), List.take_of_length_le (by omega), List.take_of_length_le (by omega)]
def isC (n : Int) : Bool := decide (n ≤ 1114111) && !(decide (55296 ≤ n) && decide (n ≤ 57343))
theorem e_is_code (n : Int) : f_is_code [.int n] = .ok (.st (.bl (isC n))) := by
  simp only [f_is_code, c_is_code, d_LAST_CODE, d_FIRST_SURROGATE, d_LAST_SURROGATE, z_bind_ite, z_seqK_nx, z_seqK_ret, z_seq, z_nx, z_if, z_ret, z_retN, z_freeze, z_set, z_own, z_ownK, z_aug, z_augK, z_append, z_appK, z_extend, z_exK, z_extK_fr, z_extK_bo, z_extK_l, z_extK_t, z_extK, z_asg, z_gnm, z_gtp, z_setAll1, z_setAll0, z_par, z_parK, z_drop, z_for, z_run, z_fin_nx, z_fin_ret, z_fin_ex, z_fin_ite, z_forK_nx, z_forK_ret, z_whK_nx, z_whK_ret, z_T, z_boolOf, z_andT, z_orT, z_notT, z_yes, z_var, z_varK_sh, z_varK_ow, z_varK_o2, z_lit, z_op, z_chain, z_ifE, z_andE, z_orE, z_notE, z_nil, z_cons, z_B, z_call, z_call0, z_res, z_calm, z_sl, z_part, z_nopart, z_intOf, z_neg, z_negK, z_rev, z_seqI, z_seqIK_l, z_seqIK_t, z_seqIK_a, z_add, z_addD_ii, z_addD_l, z_addD_t, z_addI, z_sub, z_mod, z_div, z_mul, z_lt, z_le, z_gt, z_ge, z_eq, z_ne, z_eqD_ii, z_isN, z_idxK, z_len_l, z_list_l, z_tuple_l, z_idx_l, z_cut_l, z_vrev_l, z_len_t, z_list_t, z_tuple_t, z_idx_t, z_cut_t, z_len_a, z_list_a, z_tuple_a, z_idx_a, z_cut_a, z_vrev_a, z_len_bo, z_list_bo, z_tuple_bo, z_idx_bo, z_cut_bo, z_vrev_bo, z_len_fr, z_list_fr, z_tuple_fr, z_idx_fr, z_cut_fr, z_vrev_fr, z_tupl, z_lis, z_lim, z_lc, R.bind_ok, R.bind_ex, R.bind_bad, toD_st, toD_fr, toDs_nil, toDs_cons, out_st, out_fr, out_bo, out_b2, z_d_st, z_d_bo, z_d_fr, z_lk_st, z_lk_bo, z_lk_fr, Bool.false_eq_true, D.isNon, begun, freezeAt, List.map_cons, List.map_nil, List.length_cons, List.length_nil, List.getElem?_cons_zero, List.getElem?_cons_succ, List.set_cons_zero, List.set_cons_succ, List.replicate_succ, List.replicate_zero, List.cons_append, List.nil_append, if_true, if_false, Nat.reduceAdd, Nat.reduceSub, Nat.reduceLeDiff, Nat.reduceLT, Nat.reduceEqDiff, decide_eq_true_eq, Bool.not_eq_true', decide_eq_false_iff_not, Int.reduceNeg, reduceIte, List.nil_append]
  unfold isC
  by_cases h : n ≤ 1114111 <;> by_cases h2 : 55296 ≤ n <;> simp [h, h2]
theorem isC_f (n : Int) : (isC n = false) = (1114111 < n ∨ 55296 ≤ n ∧ n ≤ 57343) := by
  apply propext
  unfold isC
  rw [Bool.and_eq_false_iff, decide_eq_false_iff_not, Bool.not_eq_false', Bool.and_eq_true, decide_eq_true_eq, decide_eq_true_eq]
  omega
theorem e_size_by_lead (b : Int) : f_size_by_lead [.int b] = .ok (.st (.int (if b < 128 then 1 else if b < 192 then 0 else if 248 ≤ b then 0 else if b < 224 then 2 else if b < 240 then 3 else 4))) := by
  simp only [f_size_by_lead, c_size_by_lead, z_bind_ite, z_seqK_nx, z_seqK_ret, z_seq, z_nx, z_if, z_ret, z_retN, z_freeze, z_set, z_own, z_ownK, z_aug, z_augK, z_append, z_appK, z_extend, z_exK, z_extK_fr, z_extK_bo, z_extK_l, z_extK_t, z_extK, z_asg, z_gnm, z_gtp, z_setAll1, z_setAll0, z_par, z_parK, z_drop, z_for, z_run, z_fin_nx, z_fin_ret, z_fin_ex, z_fin_ite, z_forK_nx, z_forK_ret, z_whK_nx, z_whK_ret, z_T, z_boolOf, z_andT, z_orT, z_notT, z_yes, z_var, z_varK_sh, z_varK_ow, z_varK_o2, z_lit, z_op, z_chain, z_ifE, z_andE, z_orE, z_notE, z_nil, z_cons, z_B, z_call, z_call0, z_res, z_calm, z_sl, z_part, z_nopart, z_intOf, z_neg, z_negK, z_rev, z_seqI, z_seqIK_l, z_seqIK_t, z_seqIK_a, z_add, z_addD_ii, z_addD_l, z_addD_t, z_addI, z_sub, z_mod, z_div, z_mul, z_lt, z_le, z_gt, z_ge, z_eq, z_ne, z_eqD_ii, z_isN, z_idxK, z_len_l, z_list_l, z_tuple_l, z_idx_l, z_cut_l, z_vrev_l, z_len_t, z_list_t, z_tuple_t, z_idx_t, z_cut_t, z_len_a, z_list_a, z_tuple_a, z_idx_a, z_cut_a, z_vrev_a, z_len_bo, z_list_bo, z_tuple_bo, z_idx_bo, z_cut_bo, z_vrev_bo, z_len_fr, z_list_fr, z_tuple_fr, z_idx_fr, z_cut_fr, z_vrev_fr, z_tupl, z_lis, z_lim, z_lc, R.bind_ok, R.bind_ex, R.bind_bad, toD_st, toD_fr, toDs_nil, toDs_cons, out_st, out_fr, out_bo, out_b2, z_d_st, z_d_bo, z_d_fr, z_lk_st, z_lk_bo, z_lk_fr, Bool.false_eq_true, D.isNon, begun, freezeAt, List.map_cons, List.map_nil, List.length_cons, List.length_nil, List.getElem?_cons_zero, List.getElem?_cons_succ, List.set_cons_zero, List.set_cons_succ, List.replicate_succ, List.replicate_zero, List.cons_append, List.nil_append, if_true, if_false, Nat.reduceAdd, Nat.reduceSub, Nat.reduceLeDiff, Nat.reduceLT, Nat.reduceEqDiff, decide_eq_true_eq, Bool.not_eq_true', decide_eq_false_iff_not, Int.reduceNeg, reduceIte, List.nil_append]
  repeat' split
  all_goals rfl
theorem x_leads (k : Nat) (v : Int) (h : [(0 : Int), 0, 192, 224, 240][k]? = some v) : idxD (.st d_LEADS) (.st (.int k)) = .ok (.st (.int v)) := by
  unfold d_LEADS
  rw [z_idx_t, BT.atI_nat]
  match k, h with
  | 0, h => cases h; rfl
  | 1, h => cases h; rfl
  | 2, h => cases h; rfl
  | 3, h => cases h; rfl
  | 4, h => cases h; rfl
  | k + 5, h => simp at h
theorem x_least (k : Nat) (v : Int) (h : [(0 : Int), 0, 128, 2048, 65536][k]? = some v) : idxD (.st d_LEAST_CODES) (.st (.int k)) = .ok (.st (.int v)) := by
  unfold d_LEAST_CODES
  rw [z_idx_t, BT.atI_nat]
  match k, h with
  | 0, h => cases h; rfl
  | 1, h => cases h; rfl
  | 2, h => cases h; rfl
  | 3, h => cases h; rfl
  | 4, h => cases h; rfl
  | k + 5, h => simp at h
theorem leads_1 : idxD (.st d_LEADS) (.st (.int 1)) = .ok (.st (.int 0)) := x_leads 1 0 rfl
theorem least_1 : idxD (.st d_LEAST_CODES) (.st (.int 1)) = .ok (.st (.int 0)) := x_least 1 0 rfl
theorem leads_2 : idxD (.st d_LEADS) (.st (.int 2)) = .ok (.st (.int 192)) := x_leads 2 192 rfl
theorem least_2 : idxD (.st d_LEAST_CODES) (.st (.int 2)) = .ok (.st (.int 128)) := x_least 2 128 rfl
theorem leads_3 : idxD (.st d_LEADS) (.st (.int 3)) = .ok (.st (.int 224)) := x_leads 3 224 rfl
theorem least_3 : idxD (.st d_LEAST_CODES) (.st (.int 3)) = .ok (.st (.int 2048)) := x_least 3 2048 rfl
theorem leads_4 : idxD (.st d_LEADS) (.st (.int 4)) = .ok (.st (.int 240)) := x_leads 4 240 rfl
theorem least_4 : idxD (.st d_LEAST_CODES) (.st (.int 4)) = .ok (.st (.int 65536)) := x_least 4 65536 rfl
theorem mul64 (i : Int) : vMul (.st (.int i)) (.st (.int 64)) = .ok (.st (.int (i * 64))) := z_mul (.inr (by omega))
section
variable {bs : List Nat} {p a : Nat} {r : List Nat}
theorem at_drop (h : bs.drop p = a :: r) : atI (I bs) (p : Int) = some (.int (a : Int)) := by
  rw [BT.atI_nat, iget]
  have e : bs[p]? = some a := by
    have z : (bs.drop p)[0]? = some a := by rw [h]; rfl
    rwa [List.getElem?_drop, Nat.add_zero] at z
  rw [e]
  rfl
theorem len_drop (h : bs.drop p = a :: r) : bs.length = p + 1 + r.length := by
  have z := congrArg List.length h
  rw [List.length_drop, List.length_cons] at z
  omega
theorem drop_next (h : bs.drop p = a :: r) : bs.drop (p + 1) = r := by
  rw [← List.drop_drop, h]
  rfl
theorem cut_next (h : bs.drop p = a :: r) (s : Nat) (hs : 1 ≤ s) : BT.cutD (I bs) (some ((p : Int) + 1)) (some ((p : Int) + s)) = I (r.take (s - 1)) := by
  have e1 : (p : Int) + 1 = ((p + 1 : Nat) : Int) := by omega
  have e2 : (p : Int) + s = ((p + s : Nat) : Int) := by omega
  rw [e1, e2, cut_nn, idrop, drop_next h, itake]
  congr 2
  omega
theorem cut_next1 (h : bs.drop p = a :: r) : BT.cutD (I bs) (some ((p : Int) + 1)) (some ((p : Int) + 1)) = I (r.take 0) := cut_next h 1 (by omega)
theorem cut_next2 (h : bs.drop p = a :: r) : BT.cutD (I bs) (some ((p : Int) + 1)) (some ((p : Int) + 2)) = I (r.take 1) := cut_next h 2 (by omega)
theorem cut_next3 (h : bs.drop p = a :: r) : BT.cutD (I bs) (some ((p : Int) + 1)) (some ((p : Int) + 3)) = I (r.take 2) := cut_next h 3 (by omega)
theorem cut_next4 (h : bs.drop p = a :: r) : BT.cutD (I bs) (some ((p : Int) + 1)) (some ((p : Int) + 4)) = I (r.take 3) := cut_next h 4 (by omega)
def seqOut (o : Option (Nat × List Nat)) (n : Nat) : R PV := match o with
  | none => .ok (.st .non)
  | some (c, rest) => .ok (.st (.tup [.int (c : Int), .int ((n - rest.length : Nat) : Int)]))
theorem e_seq0 (h : bs.drop p = a :: r) (ha : 128 ≤ a ∧ a < 192 ∨ 248 ≤ a) : f_sequence_at [.arg (AR bs), .int (p : Int)] = .ok (.st .non) := by
  have hs : f_size_by_lead [.int (a : Int)] = .ok (.st (.int 0)) := by
    rw [e_size_by_lead]
    repeat' split
    all_goals first | rfl | omega
  simp only [f_sequence_at, c_sequence_at, z_bind_ite, z_seqK_nx, z_seqK_ret, z_seq, z_nx, z_if, z_ret, z_retN, z_freeze, z_set, z_own, z_ownK, z_aug, z_augK, z_append, z_appK, z_extend, z_exK, z_extK_fr, z_extK_bo, z_extK_l, z_extK_t, z_extK, z_asg, z_gnm, z_gtp, z_setAll1, z_setAll0, z_par, z_parK, z_drop, z_for, z_run, z_fin_nx, z_fin_ret, z_fin_ex, z_fin_ite, z_forK_nx, z_forK_ret, z_whK_nx, z_whK_ret, z_T, z_boolOf, z_andT, z_orT, z_notT, z_yes, z_var, z_varK_sh, z_varK_ow, z_varK_o2, z_lit, z_op, z_chain, z_ifE, z_andE, z_orE, z_notE, z_nil, z_cons, z_B, z_call, z_call0, z_res, z_calm, z_sl, z_part, z_nopart, z_intOf, z_neg, z_negK, z_rev, z_seqI, z_seqIK_l, z_seqIK_t, z_seqIK_a, z_add, z_addD_ii, z_addD_l, z_addD_t, z_addI, z_sub, z_mod, z_div, z_mul, z_lt, z_le, z_gt, z_ge, z_eq, z_ne, z_eqD_ii, z_isN, z_idxK, z_len_l, z_list_l, z_tuple_l, z_idx_l, z_cut_l, z_vrev_l, z_len_t, z_list_t, z_tuple_t, z_idx_t, z_cut_t, z_len_a, z_list_a, z_tuple_a, z_idx_a, z_cut_a, z_vrev_a, z_len_bo, z_list_bo, z_tuple_bo, z_idx_bo, z_cut_bo, z_vrev_bo, z_len_fr, z_list_fr, z_tuple_fr, z_idx_fr, z_cut_fr, z_vrev_fr, z_tupl, z_lis, z_lim, z_lc, R.bind_ok, R.bind_ex, R.bind_bad, toD_st, toD_fr, toDs_nil, toDs_cons, out_st, out_fr, out_bo, out_b2, z_d_st, z_d_bo, z_d_fr, z_lk_st, z_lk_bo, z_lk_fr, Bool.false_eq_true, D.isNon, begun, freezeAt, List.map_cons, List.map_nil, List.length_cons, List.length_nil, List.getElem?_cons_zero, List.getElem?_cons_succ, List.set_cons_zero, List.set_cons_succ, List.replicate_succ, List.replicate_zero, List.cons_append, List.nil_append, if_true, if_false, Nat.reduceAdd, Nat.reduceSub, Nat.reduceLeDiff, Nat.reduceLT, Nat.reduceEqDiff, decide_eq_true_eq, Bool.not_eq_true', decide_eq_false_iff_not, Int.reduceNeg, reduceIte, List.nil_append, ar_map, at_drop h, hs, decide_true]
theorem e_seq1 (h : bs.drop p = a :: r) (ha : a < 128) : f_sequence_at [.arg (AR bs), .int (p : Int)] = .ok (.st (.tup [.int (a : Int), .int 1])) := by
  have hs : f_size_by_lead [.int (a : Int)] = .ok (.st (.int 1)) := by
    rw [e_size_by_lead, if_pos (by omega)]
  have hl := len_drop h
  have h0 : ¬ ((1 : Int) = 0) := by omega
  have h1 : ¬ ((bs.length : Int) < (p : Int) + 1) := by omega
  have h2 : ¬ ((a : Int) - 0 < 0) := by omega
  have h3 : isC ((a : Int) - 0) = true := by unfold isC; simp; omega
  simp only [f_sequence_at, c_sequence_at, z_bind_ite, z_seqK_nx, z_seqK_ret, z_seq, z_nx, z_if, z_ret, z_retN, z_freeze, z_set, z_own, z_ownK, z_aug, z_augK, z_append, z_appK, z_extend, z_exK, z_extK_fr, z_extK_bo, z_extK_l, z_extK_t, z_extK, z_asg, z_gnm, z_gtp, z_setAll1, z_setAll0, z_par, z_parK, z_drop, z_for, z_run, z_fin_nx, z_fin_ret, z_fin_ex, z_fin_ite, z_forK_nx, z_forK_ret, z_whK_nx, z_whK_ret, z_T, z_boolOf, z_andT, z_orT, z_notT, z_yes, z_var, z_varK_sh, z_varK_ow, z_varK_o2, z_lit, z_op, z_chain, z_ifE, z_andE, z_orE, z_notE, z_nil, z_cons, z_B, z_call, z_call0, z_res, z_calm, z_sl, z_part, z_nopart, z_intOf, z_neg, z_negK, z_rev, z_seqI, z_seqIK_l, z_seqIK_t, z_seqIK_a, z_add, z_addD_ii, z_addD_l, z_addD_t, z_addI, z_sub, z_mod, z_div, z_mul, z_lt, z_le, z_gt, z_ge, z_eq, z_ne, z_eqD_ii, z_isN, z_idxK, z_len_l, z_list_l, z_tuple_l, z_idx_l, z_cut_l, z_vrev_l, z_len_t, z_list_t, z_tuple_t, z_idx_t, z_cut_t, z_len_a, z_list_a, z_tuple_a, z_idx_a, z_cut_a, z_vrev_a, z_len_bo, z_list_bo, z_tuple_bo, z_idx_bo, z_cut_bo, z_vrev_bo, z_len_fr, z_list_fr, z_tuple_fr, z_idx_fr, z_cut_fr, z_vrev_fr, z_tupl, z_lis, z_lim, z_lc, R.bind_ok, R.bind_ex, R.bind_bad, toD_st, toD_fr, toDs_nil, toDs_cons, out_st, out_fr, out_bo, out_b2, z_d_st, z_d_bo, z_d_fr, z_lk_st, z_lk_bo, z_lk_fr, Bool.false_eq_true, D.isNon, begun, freezeAt, List.map_cons, List.map_nil, List.length_cons, List.length_nil, List.getElem?_cons_zero, List.getElem?_cons_succ, List.set_cons_zero, List.set_cons_succ, List.replicate_succ, List.replicate_zero, List.cons_append, List.nil_append, if_true, if_false, Nat.reduceAdd, Nat.reduceSub, Nat.reduceLeDiff, Nat.reduceLT, Nat.reduceEqDiff, decide_eq_true_eq, Bool.not_eq_true', decide_eq_false_iff_not, Int.reduceNeg, reduceIte, List.nil_append, ar_map, at_drop h, hs, ilen, h0, h1, leads_1, least_1, h2, h3, cut_next1 h, List.take_zero, inil, z_for_nil, e_is_code, decide_true, decide_false, Bool.not_true]
  rw [Int.sub_zero]
theorem e_seq2 {b : Nat} (h : bs.drop p = a :: b :: r) (ha : 192 ≤ a ∧ a < 224) : f_sequence_at [.arg (AR bs), .int (p : Int)] = if 128 ≤ b ∧ b < 192 ∧ 194 ≤ a then .ok (.st (.tup [.int ((a % 32 * 64 + b % 64 : Nat) : Int), .int 2])) else .ok (.st .non) := by
  have hs : f_size_by_lead [.int (a : Int)] = .ok (.st (.int 2)) := by
    rw [e_size_by_lead]
    repeat' split
    all_goals first | rfl | omega
  have hl := len_drop h
  simp only [List.length_cons] at hl
  have h0 : ¬ ((2 : Int) = 0) := by omega
  have h1 : ¬ ((bs.length : Int) < (p : Int) + 2) := by omega
  simp only [f_sequence_at, c_sequence_at, z_bind_ite, z_seqK_nx, z_seqK_ret, z_seq, z_nx, z_if, z_ret, z_retN, z_freeze, z_set, z_own, z_ownK, z_aug, z_augK, z_append, z_appK, z_extend, z_exK, z_extK_fr, z_extK_bo, z_extK_l, z_extK_t, z_extK, z_asg, z_gnm, z_gtp, z_setAll1, z_setAll0, z_par, z_parK, z_drop, z_for, z_run, z_fin_nx, z_fin_ret, z_fin_ex, z_fin_ite, z_forK_nx, z_forK_ret, z_whK_nx, z_whK_ret, z_T, z_boolOf, z_andT, z_orT, z_notT, z_yes, z_var, z_varK_sh, z_varK_ow, z_varK_o2, z_lit, z_op, z_chain, z_ifE, z_andE, z_orE, z_notE, z_nil, z_cons, z_B, z_call, z_call0, z_res, z_calm, z_sl, z_part, z_nopart, z_intOf, z_neg, z_negK, z_rev, z_seqI, z_seqIK_l, z_seqIK_t, z_seqIK_a, z_add, z_addD_ii, z_addD_l, z_addD_t, z_addI, z_sub, z_mod, z_div, z_mul, z_lt, z_le, z_gt, z_ge, z_eq, z_ne, z_eqD_ii, z_isN, z_idxK, z_len_l, z_list_l, z_tuple_l, z_idx_l, z_cut_l, z_vrev_l, z_len_t, z_list_t, z_tuple_t, z_idx_t, z_cut_t, z_len_a, z_list_a, z_tuple_a, z_idx_a, z_cut_a, z_vrev_a, z_len_bo, z_list_bo, z_tuple_bo, z_idx_bo, z_cut_bo, z_vrev_bo, z_len_fr, z_list_fr, z_tuple_fr, z_idx_fr, z_cut_fr, z_vrev_fr, z_tupl, z_lis, z_lim, z_lc, R.bind_ok, R.bind_ex, R.bind_bad, toD_st, toD_fr, toDs_nil, toDs_cons, out_st, out_fr, out_bo, out_b2, z_d_st, z_d_bo, z_d_fr, z_lk_st, z_lk_bo, z_lk_fr, Bool.false_eq_true, D.isNon, begun, freezeAt, List.map_cons, List.map_nil, List.length_cons, List.length_nil, List.getElem?_cons_zero, List.getElem?_cons_succ, List.set_cons_zero, List.set_cons_succ, List.replicate_succ, List.replicate_zero, List.cons_append, List.nil_append, if_true, if_false, Nat.reduceAdd, Nat.reduceSub, Nat.reduceLeDiff, Nat.reduceLT, Nat.reduceEqDiff, decide_eq_true_eq, Bool.not_eq_true', decide_eq_false_iff_not, Int.reduceNeg, reduceIte, List.nil_append, ar_map, at_drop h, hs, ilen, h0, h1, leads_2, mul64, least_2, cut_next2 h, List.take_succ_cons, List.take_zero, icons, inil, z_for_nil, z_for_cons, b_sequence_at_0, e_is_code, decide_true, decide_false, Bool.not_true, isC_f]
  repeat' split
  all_goals first | rfl | omega | exact congrArg (fun z => R.ok (PV.st (D.tup [D.int z, D.int 2]))) (by omega)
/-- .. too short -/
theorem e_short2 (h : bs.drop p = a :: r) (ha : 192 ≤ a ∧ a < 224) (hr : r.length < 1) : f_sequence_at [.arg (AR bs), .int (p : Int)] = .ok (.st .non) := by
  have hs : f_size_by_lead [.int (a : Int)] = .ok (.st (.int 2)) := by
    rw [e_size_by_lead]
    repeat' split
    all_goals first | rfl | omega
  have hl := len_drop h
  have h0 : ¬ ((2 : Int) = 0) := by omega
  have h1 : ((bs.length : Int) < (p : Int) + 2) := by omega
  simp only [f_sequence_at, c_sequence_at, z_bind_ite, z_seqK_nx, z_seqK_ret, z_seq, z_nx, z_if, z_ret, z_retN, z_freeze, z_set, z_own, z_ownK, z_aug, z_augK, z_append, z_appK, z_extend, z_exK, z_extK_fr, z_extK_bo, z_extK_l, z_extK_t, z_extK, z_asg, z_gnm, z_gtp, z_setAll1, z_setAll0, z_par, z_parK, z_drop, z_for, z_run, z_fin_nx, z_fin_ret, z_fin_ex, z_fin_ite, z_forK_nx, z_forK_ret, z_whK_nx, z_whK_ret, z_T, z_boolOf, z_andT, z_orT, z_notT, z_yes, z_var, z_varK_sh, z_varK_ow, z_varK_o2, z_lit, z_op, z_chain, z_ifE, z_andE, z_orE, z_notE, z_nil, z_cons, z_B, z_call, z_call0, z_res, z_calm, z_sl, z_part, z_nopart, z_intOf, z_neg, z_negK, z_rev, z_seqI, z_seqIK_l, z_seqIK_t, z_seqIK_a, z_add, z_addD_ii, z_addD_l, z_addD_t, z_addI, z_sub, z_mod, z_div, z_mul, z_lt, z_le, z_gt, z_ge, z_eq, z_ne, z_eqD_ii, z_isN, z_idxK, z_len_l, z_list_l, z_tuple_l, z_idx_l, z_cut_l, z_vrev_l, z_len_t, z_list_t, z_tuple_t, z_idx_t, z_cut_t, z_len_a, z_list_a, z_tuple_a, z_idx_a, z_cut_a, z_vrev_a, z_len_bo, z_list_bo, z_tuple_bo, z_idx_bo, z_cut_bo, z_vrev_bo, z_len_fr, z_list_fr, z_tuple_fr, z_idx_fr, z_cut_fr, z_vrev_fr, z_tupl, z_lis, z_lim, z_lc, R.bind_ok, R.bind_ex, R.bind_bad, toD_st, toD_fr, toDs_nil, toDs_cons, out_st, out_fr, out_bo, out_b2, z_d_st, z_d_bo, z_d_fr, z_lk_st, z_lk_bo, z_lk_fr, Bool.false_eq_true, D.isNon, begun, freezeAt, List.map_cons, List.map_nil, List.length_cons, List.length_nil, List.getElem?_cons_zero, List.getElem?_cons_succ, List.set_cons_zero, List.set_cons_succ, List.replicate_succ, List.replicate_zero, List.cons_append, List.nil_append, if_true, if_false, Nat.reduceAdd, Nat.reduceSub, Nat.reduceLeDiff, Nat.reduceLT, Nat.reduceEqDiff, decide_eq_true_eq, Bool.not_eq_true', decide_eq_false_iff_not, Int.reduceNeg, reduceIte, List.nil_append, ar_map, at_drop h, hs, ilen, h0, h1, decide_true]
theorem e_seq3 {b c : Nat} (h : bs.drop p = a :: b :: c :: r) (ha : 224 ≤ a ∧ a < 240) : f_sequence_at [.arg (AR bs), .int (p : Int)] = if 128 ≤ b ∧ b < 192 ∧ 128 ≤ c ∧ c < 192 ∧ 2048 ≤ a % 16 * 4096 + b % 64 * 64 + c % 64 ∧ (a % 16 * 4096 + b % 64 * 64 + c % 64 < 55296 ∨ 57343 < a % 16 * 4096 + b % 64 * 64 + c % 64) then .ok (.st (.tup [.int ((a % 16 * 4096 + b % 64 * 64 + c % 64 : Nat) : Int), .int 3])) else .ok (.st .non) := by
  have hs : f_size_by_lead [.int (a : Int)] = .ok (.st (.int 3)) := by
    rw [e_size_by_lead]
    repeat' split
    all_goals first | rfl | omega
  have hl := len_drop h
  simp only [List.length_cons] at hl
  have h0 : ¬ ((3 : Int) = 0) := by omega
  have h1 : ¬ ((bs.length : Int) < (p : Int) + 3) := by omega
  simp only [f_sequence_at, c_sequence_at, z_bind_ite, z_seqK_nx, z_seqK_ret, z_seq, z_nx, z_if, z_ret, z_retN, z_freeze, z_set, z_own, z_ownK, z_aug, z_augK, z_append, z_appK, z_extend, z_exK, z_extK_fr, z_extK_bo, z_extK_l, z_extK_t, z_extK, z_asg, z_gnm, z_gtp, z_setAll1, z_setAll0, z_par, z_parK, z_drop, z_for, z_run, z_fin_nx, z_fin_ret, z_fin_ex, z_fin_ite, z_forK_nx, z_forK_ret, z_whK_nx, z_whK_ret, z_T, z_boolOf, z_andT, z_orT, z_notT, z_yes, z_var, z_varK_sh, z_varK_ow, z_varK_o2, z_lit, z_op, z_chain, z_ifE, z_andE, z_orE, z_notE, z_nil, z_cons, z_B, z_call, z_call0, z_res, z_calm, z_sl, z_part, z_nopart, z_intOf, z_neg, z_negK, z_rev, z_seqI, z_seqIK_l, z_seqIK_t, z_seqIK_a, z_add, z_addD_ii, z_addD_l, z_addD_t, z_addI, z_sub, z_mod, z_div, z_mul, z_lt, z_le, z_gt, z_ge, z_eq, z_ne, z_eqD_ii, z_isN, z_idxK, z_len_l, z_list_l, z_tuple_l, z_idx_l, z_cut_l, z_vrev_l, z_len_t, z_list_t, z_tuple_t, z_idx_t, z_cut_t, z_len_a, z_list_a, z_tuple_a, z_idx_a, z_cut_a, z_vrev_a, z_len_bo, z_list_bo, z_tuple_bo, z_idx_bo, z_cut_bo, z_vrev_bo, z_len_fr, z_list_fr, z_tuple_fr, z_idx_fr, z_cut_fr, z_vrev_fr, z_tupl, z_lis, z_lim, z_lc, R.bind_ok, R.bind_ex, R.bind_bad, toD_st, toD_fr, toDs_nil, toDs_cons, out_st, out_fr, out_bo, out_b2, z_d_st, z_d_bo, z_d_fr, z_lk_st, z_lk_bo, z_lk_fr, Bool.false_eq_true, D.isNon, begun, freezeAt, List.map_cons, List.map_nil, List.length_cons, List.length_nil, List.getElem?_cons_zero, List.getElem?_cons_succ, List.set_cons_zero, List.set_cons_succ, List.replicate_succ, List.replicate_zero, List.cons_append, List.nil_append, if_true, if_false, Nat.reduceAdd, Nat.reduceSub, Nat.reduceLeDiff, Nat.reduceLT, Nat.reduceEqDiff, decide_eq_true_eq, Bool.not_eq_true', decide_eq_false_iff_not, Int.reduceNeg, reduceIte, List.nil_append, ar_map, at_drop h, hs, ilen, h0, h1, leads_3, mul64, least_3, cut_next3 h, List.take_succ_cons, List.take_zero, icons, inil, z_for_nil, z_for_cons, b_sequence_at_0, e_is_code, decide_true, decide_false, Bool.not_true, isC_f]
  repeat' split
  all_goals first | rfl | omega | exact congrArg (fun z => R.ok (PV.st (D.tup [D.int z, D.int 3]))) (by omega)
/-- .. too short -/
theorem e_short3 (h : bs.drop p = a :: r) (ha : 224 ≤ a ∧ a < 240) (hr : r.length < 2) : f_sequence_at [.arg (AR bs), .int (p : Int)] = .ok (.st .non) := by
  have hs : f_size_by_lead [.int (a : Int)] = .ok (.st (.int 3)) := by
    rw [e_size_by_lead]
    repeat' split
    all_goals first | rfl | omega
  have hl := len_drop h
  have h0 : ¬ ((3 : Int) = 0) := by omega
  have h1 : ((bs.length : Int) < (p : Int) + 3) := by omega
  simp only [f_sequence_at, c_sequence_at, z_bind_ite, z_seqK_nx, z_seqK_ret, z_seq, z_nx, z_if, z_ret, z_retN, z_freeze, z_set, z_own, z_ownK, z_aug, z_augK, z_append, z_appK, z_extend, z_exK, z_extK_fr, z_extK_bo, z_extK_l, z_extK_t, z_extK, z_asg, z_gnm, z_gtp, z_setAll1, z_setAll0, z_par, z_parK, z_drop, z_for, z_run, z_fin_nx, z_fin_ret, z_fin_ex, z_fin_ite, z_forK_nx, z_forK_ret, z_whK_nx, z_whK_ret, z_T, z_boolOf, z_andT, z_orT, z_notT, z_yes, z_var, z_varK_sh, z_varK_ow, z_varK_o2, z_lit, z_op, z_chain, z_ifE, z_andE, z_orE, z_notE, z_nil, z_cons, z_B, z_call, z_call0, z_res, z_calm, z_sl, z_part, z_nopart, z_intOf, z_neg, z_negK, z_rev, z_seqI, z_seqIK_l, z_seqIK_t, z_seqIK_a, z_add, z_addD_ii, z_addD_l, z_addD_t, z_addI, z_sub, z_mod, z_div, z_mul, z_lt, z_le, z_gt, z_ge, z_eq, z_ne, z_eqD_ii, z_isN, z_idxK, z_len_l, z_list_l, z_tuple_l, z_idx_l, z_cut_l, z_vrev_l, z_len_t, z_list_t, z_tuple_t, z_idx_t, z_cut_t, z_len_a, z_list_a, z_tuple_a, z_idx_a, z_cut_a, z_vrev_a, z_len_bo, z_list_bo, z_tuple_bo, z_idx_bo, z_cut_bo, z_vrev_bo, z_len_fr, z_list_fr, z_tuple_fr, z_idx_fr, z_cut_fr, z_vrev_fr, z_tupl, z_lis, z_lim, z_lc, R.bind_ok, R.bind_ex, R.bind_bad, toD_st, toD_fr, toDs_nil, toDs_cons, out_st, out_fr, out_bo, out_b2, z_d_st, z_d_bo, z_d_fr, z_lk_st, z_lk_bo, z_lk_fr, Bool.false_eq_true, D.isNon, begun, freezeAt, List.map_cons, List.map_nil, List.length_cons, List.length_nil, List.getElem?_cons_zero, List.getElem?_cons_succ, List.set_cons_zero, List.set_cons_succ, List.replicate_succ, List.replicate_zero, List.cons_append, List.nil_append, if_true, if_false, Nat.reduceAdd, Nat.reduceSub, Nat.reduceLeDiff, Nat.reduceLT, Nat.reduceEqDiff, decide_eq_true_eq, Bool.not_eq_true', decide_eq_false_iff_not, Int.reduceNeg, reduceIte, List.nil_append, ar_map, at_drop h, hs, ilen, h0, h1, decide_true]
theorem e_seq4 {b c d : Nat} (h : bs.drop p = a :: b :: c :: d :: r) (ha : 240 ≤ a ∧ a < 248) : f_sequence_at [.arg (AR bs), .int (p : Int)] = if 128 ≤ b ∧ b < 192 ∧ 128 ≤ c ∧ c < 192 ∧ 128 ≤ d ∧ d < 192 ∧ 65536 ≤ a % 8 * 262144 + b % 64 * 4096 + c % 64 * 64 + d % 64 ∧ a % 8 * 262144 + b % 64 * 4096 + c % 64 * 64 + d % 64 ≤ 1114111 then .ok (.st (.tup [.int ((a % 8 * 262144 + b % 64 * 4096 + c % 64 * 64 + d % 64 : Nat) : Int), .int 4])) else .ok (.st .non) := by
  have hs : f_size_by_lead [.int (a : Int)] = .ok (.st (.int 4)) := by
    rw [e_size_by_lead]
    repeat' split
    all_goals first | rfl | omega
  have hl := len_drop h
  simp only [List.length_cons] at hl
  have h0 : ¬ ((4 : Int) = 0) := by omega
  have h1 : ¬ ((bs.length : Int) < (p : Int) + 4) := by omega
  simp only [f_sequence_at, c_sequence_at, z_bind_ite, z_seqK_nx, z_seqK_ret, z_seq, z_nx, z_if, z_ret, z_retN, z_freeze, z_set, z_own, z_ownK, z_aug, z_augK, z_append, z_appK, z_extend, z_exK, z_extK_fr, z_extK_bo, z_extK_l, z_extK_t, z_extK, z_asg, z_gnm, z_gtp, z_setAll1, z_setAll0, z_par, z_parK, z_drop, z_for, z_run, z_fin_nx, z_fin_ret, z_fin_ex, z_fin_ite, z_forK_nx, z_forK_ret, z_whK_nx, z_whK_ret, z_T, z_boolOf, z_andT, z_orT, z_notT, z_yes, z_var, z_varK_sh, z_varK_ow, z_varK_o2, z_lit, z_op, z_chain, z_ifE, z_andE, z_orE, z_notE, z_nil, z_cons, z_B, z_call, z_call0, z_res, z_calm, z_sl, z_part, z_nopart, z_intOf, z_neg, z_negK, z_rev, z_seqI, z_seqIK_l, z_seqIK_t, z_seqIK_a, z_add, z_addD_ii, z_addD_l, z_addD_t, z_addI, z_sub, z_mod, z_div, z_mul, z_lt, z_le, z_gt, z_ge, z_eq, z_ne, z_eqD_ii, z_isN, z_idxK, z_len_l, z_list_l, z_tuple_l, z_idx_l, z_cut_l, z_vrev_l, z_len_t, z_list_t, z_tuple_t, z_idx_t, z_cut_t, z_len_a, z_list_a, z_tuple_a, z_idx_a, z_cut_a, z_vrev_a, z_len_bo, z_list_bo, z_tuple_bo, z_idx_bo, z_cut_bo, z_vrev_bo, z_len_fr, z_list_fr, z_tuple_fr, z_idx_fr, z_cut_fr, z_vrev_fr, z_tupl, z_lis, z_lim, z_lc, R.bind_ok, R.bind_ex, R.bind_bad, toD_st, toD_fr, toDs_nil, toDs_cons, out_st, out_fr, out_bo, out_b2, z_d_st, z_d_bo, z_d_fr, z_lk_st, z_lk_bo, z_lk_fr, Bool.false_eq_true, D.isNon, begun, freezeAt, List.map_cons, List.map_nil, List.length_cons, List.length_nil, List.getElem?_cons_zero, List.getElem?_cons_succ, List.set_cons_zero, List.set_cons_succ, List.replicate_succ, List.replicate_zero, List.cons_append, List.nil_append, if_true, if_false, Nat.reduceAdd, Nat.reduceSub, Nat.reduceLeDiff, Nat.reduceLT, Nat.reduceEqDiff, decide_eq_true_eq, Bool.not_eq_true', decide_eq_false_iff_not, Int.reduceNeg, reduceIte, List.nil_append, ar_map, at_drop h, hs, ilen, h0, h1, leads_4, mul64, least_4, cut_next4 h, List.take_succ_cons, List.take_zero, icons, inil, z_for_nil, z_for_cons, b_sequence_at_0, e_is_code, decide_true, decide_false, Bool.not_true, isC_f]
  repeat' split
  all_goals first | rfl | omega | exact congrArg (fun z => R.ok (PV.st (D.tup [D.int z, D.int 4]))) (by omega)
/-- .. too short -/
theorem e_short4 (h : bs.drop p = a :: r) (ha : 240 ≤ a ∧ a < 248) (hr : r.length < 3) : f_sequence_at [.arg (AR bs), .int (p : Int)] = .ok (.st .non) := by
  have hs : f_size_by_lead [.int (a : Int)] = .ok (.st (.int 4)) := by
    rw [e_size_by_lead]
    repeat' split
    all_goals first | rfl | omega
  have hl := len_drop h
  have h0 : ¬ ((4 : Int) = 0) := by omega
  have h1 : ((bs.length : Int) < (p : Int) + 4) := by omega
  simp only [f_sequence_at, c_sequence_at, z_bind_ite, z_seqK_nx, z_seqK_ret, z_seq, z_nx, z_if, z_ret, z_retN, z_freeze, z_set, z_own, z_ownK, z_aug, z_augK, z_append, z_appK, z_extend, z_exK, z_extK_fr, z_extK_bo, z_extK_l, z_extK_t, z_extK, z_asg, z_gnm, z_gtp, z_setAll1, z_setAll0, z_par, z_parK, z_drop, z_for, z_run, z_fin_nx, z_fin_ret, z_fin_ex, z_fin_ite, z_forK_nx, z_forK_ret, z_whK_nx, z_whK_ret, z_T, z_boolOf, z_andT, z_orT, z_notT, z_yes, z_var, z_varK_sh, z_varK_ow, z_varK_o2, z_lit, z_op, z_chain, z_ifE, z_andE, z_orE, z_notE, z_nil, z_cons, z_B, z_call, z_call0, z_res, z_calm, z_sl, z_part, z_nopart, z_intOf, z_neg, z_negK, z_rev, z_seqI, z_seqIK_l, z_seqIK_t, z_seqIK_a, z_add, z_addD_ii, z_addD_l, z_addD_t, z_addI, z_sub, z_mod, z_div, z_mul, z_lt, z_le, z_gt, z_ge, z_eq, z_ne, z_eqD_ii, z_isN, z_idxK, z_len_l, z_list_l, z_tuple_l, z_idx_l, z_cut_l, z_vrev_l, z_len_t, z_list_t, z_tuple_t, z_idx_t, z_cut_t, z_len_a, z_list_a, z_tuple_a, z_idx_a, z_cut_a, z_vrev_a, z_len_bo, z_list_bo, z_tuple_bo, z_idx_bo, z_cut_bo, z_vrev_bo, z_len_fr, z_list_fr, z_tuple_fr, z_idx_fr, z_cut_fr, z_vrev_fr, z_tupl, z_lis, z_lim, z_lc, R.bind_ok, R.bind_ex, R.bind_bad, toD_st, toD_fr, toDs_nil, toDs_cons, out_st, out_fr, out_bo, out_b2, z_d_st, z_d_bo, z_d_fr, z_lk_st, z_lk_bo, z_lk_fr, Bool.false_eq_true, D.isNon, begun, freezeAt, List.map_cons, List.map_nil, List.length_cons, List.length_nil, List.getElem?_cons_zero, List.getElem?_cons_succ, List.set_cons_zero, List.set_cons_succ, List.replicate_succ, List.replicate_zero, List.cons_append, List.nil_append, if_true, if_false, Nat.reduceAdd, Nat.reduceSub, Nat.reduceLeDiff, Nat.reduceLT, Nat.reduceEqDiff, decide_eq_true_eq, Bool.not_eq_true', decide_eq_false_iff_not, Int.reduceNeg, reduceIte, List.nil_append, ar_map, at_drop h, hs, ilen, h0, h1, decide_true]
open Kh450 in
theorem e_seq (h : bs.drop p = a :: r) : f_sequence_at [.arg (AR bs), .int (p : Int)] = seqOut (decodeUtf8 (a :: r)) (r.length + 1) := by
  unfold decodeUtf8
  dsimp only
  by_cases h1 : a < 128
  · rw [e_seq1 h h1, if_pos h1]
    show _ = R.ok (PV.st (D.tup [D.int (a : Int), D.int ((r.length + 1 - r.length : Nat) : Int)]))
    rw [show r.length + 1 - r.length = 1 by omega]
    rfl
  · rw [if_neg h1]
    by_cases h2 : a < 192
    · rw [e_seq0 h (.inl ⟨by omega, h2⟩), if_pos (by omega)]
      rfl
    · by_cases h3 : 248 ≤ a
      · rw [e_seq0 h (.inr h3), if_neg (by omega), if_neg (by omega), if_neg (by omega), if_neg (by omega)]
        rfl
      · by_cases h4 : a < 224
        · match r, h with
          | [], h =>
            rw [e_short2 h ⟨by omega, h4⟩ (by simp)]
            by_cases h5 : a < 194
            · rw [if_pos h5]
              rfl
            · rw [if_neg h5, if_pos h4]
              rfl
          | b :: r, h =>
            rw [e_seq2 h ⟨by omega, h4⟩]
            by_cases h5 : a < 194
            · rw [if_pos h5, if_neg (by omega)]
              rfl
            · rw [if_neg h5, if_pos h4]
              dsimp only
              unfold isContinuation
              by_cases h6 : 128 ≤ b ∧ b < 192
              · rw [if_pos ⟨h6.1, h6.2, by omega⟩, if_pos (by simp [h6.1, h6.2])]
                show _ = R.ok (PV.st (D.tup [D.int _, D.int (((b :: r).length + 1 - r.length : Nat) : Int)]))
                rw [show (b :: r).length + 1 - r.length = 2 by rw [List.length_cons]; omega]
                rfl
              · rw [if_neg (by omega), if_neg (by simp; omega)]
                rfl
        · rw [if_neg (by omega), if_neg h4]
          by_cases h5 : a < 240
          · rw [if_pos h5]
            match r, h with
            | [], h =>
              rw [e_short3 h ⟨by omega, h5⟩ (by simp)]
              rfl
            | [b], h =>
              rw [e_short3 h ⟨by omega, h5⟩ (by simp)]
              rfl
            | b :: c :: r, h =>
              rw [e_seq3 h ⟨by omega, h5⟩]
              dsimp only
              unfold isContinuation isScalar
              by_cases h6 : 128 ≤ b ∧ b < 192 ∧ 128 ≤ c ∧ c < 192 ∧ 2048 ≤ a % 16 * 4096 + b % 64 * 64 + c % 64 ∧ (a % 16 * 4096 + b % 64 * 64 + c % 64 < 55296 ∨ 57343 < a % 16 * 4096 + b % 64 * 64 + c % 64)
              · rw [if_pos h6, if_pos (by simp; omega)]
                show _ = R.ok (PV.st (D.tup [D.int _, D.int (((b :: c :: r).length + 1 - r.length : Nat) : Int)]))
                rw [show (b :: c :: r).length + 1 - r.length = 3 by rw [List.length_cons, List.length_cons]; omega]
                rfl
              · rw [if_neg h6, if_neg (by simp; omega)]
                rfl
          · rw [if_neg h5]
            match r, h with
            | [], h =>
              rw [e_short4 h ⟨by omega, by omega⟩ (by simp)]
              by_cases h6 : a < 245
              · rw [if_pos h6]
                rfl
              · rw [if_neg h6]
                rfl
            | [b], h =>
              rw [e_short4 h ⟨by omega, by omega⟩ (by simp)]
              by_cases h6 : a < 245
              · rw [if_pos h6]
                rfl
              · rw [if_neg h6]
                rfl
            | [b, c], h =>
              rw [e_short4 h ⟨by omega, by omega⟩ (by simp)]
              by_cases h6 : a < 245
              · rw [if_pos h6]
                rfl
              · rw [if_neg h6]
                rfl
            | b :: c :: d :: r, h =>
              rw [e_seq4 h ⟨by omega, by omega⟩]
              by_cases h7 : a < 245
              · rw [if_pos h7]
                dsimp only
                unfold isContinuation isScalar
                by_cases h6 : 128 ≤ b ∧ b < 192 ∧ 128 ≤ c ∧ c < 192 ∧ 128 ≤ d ∧ d < 192 ∧ 65536 ≤ a % 8 * 262144 + b % 64 * 4096 + c % 64 * 64 + d % 64 ∧ a % 8 * 262144 + b % 64 * 4096 + c % 64 * 64 + d % 64 ≤ 1114111
                · rw [if_pos h6, if_pos (by simp; omega)]
                  show _ = R.ok (PV.st (D.tup [D.int _, D.int (((b :: c :: d :: r).length + 1 - r.length : Nat) : Int)]))
                  rw [show (b :: c :: d :: r).length + 1 - r.length = 4 by rw [List.length_cons, List.length_cons, List.length_cons]; omega]
                  rfl
                · rw [if_neg h6, if_neg (by simp; omega)]
                  rfl
              · rw [if_neg h7, if_neg (by omega)]
                rfl
end
open Kh450
theorem dec_len : ∀ {l : List Nat} {c : Nat} {rest : List Nat}, decodeUtf8 l = some (c, rest) → rest.length < l.length ∧ rest = l.drop (l.length - rest.length) := by
  intro l c rest h
  have key : ∃ k, 0 < k ∧ k ≤ l.length ∧ rest = l.drop k := by
    unfold decodeUtf8 at h
    dsimp only at h
    repeat' (split at h)
    all_goals first
      | cases h
        done
      | (cases h; first
          | exact ⟨1, by omega, by simp, rfl⟩
          | exact ⟨2, by omega, by simp, rfl⟩
          | exact ⟨3, by omega, by simp, rfl⟩
          | exact ⟨4, by omega, by simp, rfl⟩)
  obtain ⟨k, h1, h2, h3⟩ := key
  have e : rest.length = l.length - k := by rw [h3, List.length_drop]
  refine ⟨by omega, ?_⟩
  rw [e, show l.length - (l.length - k) = k by omega]
  exact h3
theorem x_idx0 (c s : Int) : idxD (.st (.tup [.int c, .int s])) (.st (.int 0)) = .ok (.st (.int c)) := rfl
theorem x_idx1 (c s : Int) : idxD (.st (.tup [.int c, .int s])) (.st (.int 1)) = .ok (.st (.int s)) := rfl
theorem l_decoded {bs : List Nat} : ∀ (n : Nat) (p : Nat) (found : List Nat) (s : Sl), p ≤ bs.length → bs.length - p ≤ n → found.length + (bs.length - p) ≤ 16777216 →
    match decodeAllLoop n (bs.drop p) with
    | none => ∃ G, cWh t_decoded_0 b_decoded_0 [.sh (.arg (AR bs)), .ow (I found), .sh (.int (p : Int)), s] = .ok (.ret (.st .non), G)
    | some cs => cs.length ≤ bs.length - p ∧ ∃ s2 s3, cWh t_decoded_0 b_decoded_0 [.sh (.arg (AR bs)), .ow (I found), .sh (.int (p : Int)), s] = .ok (.nx, [.sh (.arg (AR bs)), .ow (I (found ++ cs)), s2, s3]) := by
  intro n
  induction n with
  | zero =>
    intro p found s h1 h2 h3
    rw [List.drop_of_length_le (by omega)]
    have hp : ¬ ((p : Int) < (bs.length : Int)) := by omega
    refine ⟨Nat.zero_le _, .sh (.int (p : Int)), s, ?_⟩
    rw [z_wh]
    simp only [t_decoded_0, z_bind_ite, z_seqK_nx, z_seqK_ret, z_seq, z_nx, z_if, z_ret, z_retN, z_freeze, z_set, z_own, z_ownK, z_aug, z_augK, z_append, z_appK, z_extend, z_exK, z_extK_fr, z_extK_bo, z_extK_l, z_extK_t, z_extK, z_asg, z_gnm, z_gtp, z_setAll1, z_setAll0, z_par, z_parK, z_drop, z_for, z_run, z_fin_nx, z_fin_ret, z_fin_ex, z_fin_ite, z_forK_nx, z_forK_ret, z_whK_nx, z_whK_ret, z_T, z_boolOf, z_andT, z_orT, z_notT, z_yes, z_var, z_varK_sh, z_varK_ow, z_varK_o2, z_lit, z_op, z_chain, z_ifE, z_andE, z_orE, z_notE, z_nil, z_cons, z_B, z_call, z_call0, z_res, z_calm, z_sl, z_part, z_nopart, z_intOf, z_neg, z_negK, z_rev, z_seqI, z_seqIK_l, z_seqIK_t, z_seqIK_a, z_add, z_addD_ii, z_addD_l, z_addD_t, z_addI, z_sub, z_mod, z_div, z_mul, z_lt, z_le, z_gt, z_ge, z_eq, z_ne, z_eqD_ii, z_isN, z_idxK, z_len_l, z_list_l, z_tuple_l, z_idx_l, z_cut_l, z_vrev_l, z_len_t, z_list_t, z_tuple_t, z_idx_t, z_cut_t, z_len_a, z_list_a, z_tuple_a, z_idx_a, z_cut_a, z_vrev_a, z_len_bo, z_list_bo, z_tuple_bo, z_idx_bo, z_cut_bo, z_vrev_bo, z_len_fr, z_list_fr, z_tuple_fr, z_idx_fr, z_cut_fr, z_vrev_fr, z_tupl, z_lis, z_lim, z_lc, R.bind_ok, R.bind_ex, R.bind_bad, toD_st, toD_fr, toDs_nil, toDs_cons, out_st, out_fr, out_bo, out_b2, z_d_st, z_d_bo, z_d_fr, z_lk_st, z_lk_bo, z_lk_fr, Bool.false_eq_true, D.isNon, begun, freezeAt, List.map_cons, List.map_nil, List.length_cons, List.length_nil, List.getElem?_cons_zero, List.getElem?_cons_succ, List.set_cons_zero, List.set_cons_succ, List.replicate_succ, List.replicate_zero, List.cons_append, List.nil_append, if_true, if_false, Nat.reduceAdd, Nat.reduceSub, Nat.reduceLeDiff, Nat.reduceLT, Nat.reduceEqDiff, decide_eq_true_eq, Bool.not_eq_true', decide_eq_false_iff_not, Int.reduceNeg, reduceIte, List.nil_append, ar_map, ilen, hp, List.append_nil, decide_false]
  | succ n ih =>
    intro p found s h1 h2 h3
    cases hd : bs.drop p with
    | nil =>
      have hz := congrArg List.length hd
      rw [List.length_drop, List.length_nil] at hz
      have hp : ¬ ((p : Int) < (bs.length : Int)) := by omega
      refine ⟨Nat.zero_le _, .sh (.int (p : Int)), s, ?_⟩
      rw [z_wh]
      simp only [t_decoded_0, z_bind_ite, z_seqK_nx, z_seqK_ret, z_seq, z_nx, z_if, z_ret, z_retN, z_freeze, z_set, z_own, z_ownK, z_aug, z_augK, z_append, z_appK, z_extend, z_exK, z_extK_fr, z_extK_bo, z_extK_l, z_extK_t, z_extK, z_asg, z_gnm, z_gtp, z_setAll1, z_setAll0, z_par, z_parK, z_drop, z_for, z_run, z_fin_nx, z_fin_ret, z_fin_ex, z_fin_ite, z_forK_nx, z_forK_ret, z_whK_nx, z_whK_ret, z_T, z_boolOf, z_andT, z_orT, z_notT, z_yes, z_var, z_varK_sh, z_varK_ow, z_varK_o2, z_lit, z_op, z_chain, z_ifE, z_andE, z_orE, z_notE, z_nil, z_cons, z_B, z_call, z_call0, z_res, z_calm, z_sl, z_part, z_nopart, z_intOf, z_neg, z_negK, z_rev, z_seqI, z_seqIK_l, z_seqIK_t, z_seqIK_a, z_add, z_addD_ii, z_addD_l, z_addD_t, z_addI, z_sub, z_mod, z_div, z_mul, z_lt, z_le, z_gt, z_ge, z_eq, z_ne, z_eqD_ii, z_isN, z_idxK, z_len_l, z_list_l, z_tuple_l, z_idx_l, z_cut_l, z_vrev_l, z_len_t, z_list_t, z_tuple_t, z_idx_t, z_cut_t, z_len_a, z_list_a, z_tuple_a, z_idx_a, z_cut_a, z_vrev_a, z_len_bo, z_list_bo, z_tuple_bo, z_idx_bo, z_cut_bo, z_vrev_bo, z_len_fr, z_list_fr, z_tuple_fr, z_idx_fr, z_cut_fr, z_vrev_fr, z_tupl, z_lis, z_lim, z_lc, R.bind_ok, R.bind_ex, R.bind_bad, toD_st, toD_fr, toDs_nil, toDs_cons, out_st, out_fr, out_bo, out_b2, z_d_st, z_d_bo, z_d_fr, z_lk_st, z_lk_bo, z_lk_fr, Bool.false_eq_true, D.isNon, begun, freezeAt, List.map_cons, List.map_nil, List.length_cons, List.length_nil, List.getElem?_cons_zero, List.getElem?_cons_succ, List.set_cons_zero, List.set_cons_succ, List.replicate_succ, List.replicate_zero, List.cons_append, List.nil_append, if_true, if_false, Nat.reduceAdd, Nat.reduceSub, Nat.reduceLeDiff, Nat.reduceLT, Nat.reduceEqDiff, decide_eq_true_eq, Bool.not_eq_true', decide_eq_false_iff_not, Int.reduceNeg, reduceIte, List.nil_append, ar_map, ilen, hp, List.append_nil, decide_false]
    | cons a r =>
      have hl := len_drop hd
      have hp : ((p : Int) < (bs.length : Int)) := by omega
      have e := e_seq hd
      unfold decodeAllLoop
      cases hu : decodeUtf8 (a :: r) with
      | none =>
        rw [hu] at e
        refine ⟨?g, ?_⟩
        case g => exact [.sh (.arg (AR bs)), .ow (I found), .sh (.int (p : Int)), .sh .non]
        rw [z_wh]
        simp only [t_decoded_0, b_decoded_0, z_bind_ite, z_seqK_nx, z_seqK_ret, z_seq, z_nx, z_if, z_ret, z_retN, z_freeze, z_set, z_own, z_ownK, z_aug, z_augK, z_append, z_appK, z_extend, z_exK, z_extK_fr, z_extK_bo, z_extK_l, z_extK_t, z_extK, z_asg, z_gnm, z_gtp, z_setAll1, z_setAll0, z_par, z_parK, z_drop, z_for, z_run, z_fin_nx, z_fin_ret, z_fin_ex, z_fin_ite, z_forK_nx, z_forK_ret, z_whK_nx, z_whK_ret, z_T, z_boolOf, z_andT, z_orT, z_notT, z_yes, z_var, z_varK_sh, z_varK_ow, z_varK_o2, z_lit, z_op, z_chain, z_ifE, z_andE, z_orE, z_notE, z_nil, z_cons, z_B, z_call, z_call0, z_res, z_calm, z_sl, z_part, z_nopart, z_intOf, z_neg, z_negK, z_rev, z_seqI, z_seqIK_l, z_seqIK_t, z_seqIK_a, z_add, z_addD_ii, z_addD_l, z_addD_t, z_addI, z_sub, z_mod, z_div, z_mul, z_lt, z_le, z_gt, z_ge, z_eq, z_ne, z_eqD_ii, z_isN, z_idxK, z_len_l, z_list_l, z_tuple_l, z_idx_l, z_cut_l, z_vrev_l, z_len_t, z_list_t, z_tuple_t, z_idx_t, z_cut_t, z_len_a, z_list_a, z_tuple_a, z_idx_a, z_cut_a, z_vrev_a, z_len_bo, z_list_bo, z_tuple_bo, z_idx_bo, z_cut_bo, z_vrev_bo, z_len_fr, z_list_fr, z_tuple_fr, z_idx_fr, z_cut_fr, z_vrev_fr, z_tupl, z_lis, z_lim, z_lc, R.bind_ok, R.bind_ex, R.bind_bad, toD_st, toD_fr, toDs_nil, toDs_cons, out_st, out_fr, out_bo, out_b2, z_d_st, z_d_bo, z_d_fr, z_lk_st, z_lk_bo, z_lk_fr, Bool.false_eq_true, D.isNon, begun, freezeAt, List.map_cons, List.map_nil, List.length_cons, List.length_nil, List.getElem?_cons_zero, List.getElem?_cons_succ, List.set_cons_zero, List.set_cons_succ, List.replicate_succ, List.replicate_zero, List.cons_append, List.nil_append, if_true, if_false, Nat.reduceAdd, Nat.reduceSub, Nat.reduceLeDiff, Nat.reduceLT, Nat.reduceEqDiff, decide_eq_true_eq, Bool.not_eq_true', decide_eq_false_iff_not, Int.reduceNeg, reduceIte, List.nil_append, ar_map, ilen, hp, e, seqOut, z_whK_ret, decide_true]
      | some x =>
        obtain ⟨c, rest⟩ := x
        rw [hu] at e
        obtain ⟨k1, k2⟩ := dec_len hu
        rw [List.length_cons] at k1 k2
        have step : cWh t_decoded_0 b_decoded_0 [.sh (.arg (AR bs)), .ow (I found), .sh (.int (p : Int)), s] = cWh t_decoded_0 b_decoded_0 [.sh (.arg (AR bs)), .ow (I (found ++ [c])), .sh (.int ((p + (r.length + 1 - rest.length) : Nat) : Int)), .sh (.tup [.int (c : Int), .int ((r.length + 1 - rest.length : Nat) : Int)])] := by
          have hz : found.length < 16777216 := by omega
          rw [z_wh, iapp]
          simp only [t_decoded_0, b_decoded_0, z_bind_ite, z_seqK_nx, z_seqK_ret, z_seq, z_nx, z_if, z_ret, z_retN, z_freeze, z_set, z_own, z_ownK, z_aug, z_augK, z_append, z_appK, z_extend, z_exK, z_extK_fr, z_extK_bo, z_extK_l, z_extK_t, z_extK, z_asg, z_gnm, z_gtp, z_setAll1, z_setAll0, z_par, z_parK, z_drop, z_for, z_run, z_fin_nx, z_fin_ret, z_fin_ex, z_fin_ite, z_forK_nx, z_forK_ret, z_whK_nx, z_whK_ret, z_T, z_boolOf, z_andT, z_orT, z_notT, z_yes, z_var, z_varK_sh, z_varK_ow, z_varK_o2, z_lit, z_op, z_chain, z_ifE, z_andE, z_orE, z_notE, z_nil, z_cons, z_B, z_call, z_call0, z_res, z_calm, z_sl, z_part, z_nopart, z_intOf, z_neg, z_negK, z_rev, z_seqI, z_seqIK_l, z_seqIK_t, z_seqIK_a, z_add, z_addD_ii, z_addD_l, z_addD_t, z_addI, z_sub, z_mod, z_div, z_mul, z_lt, z_le, z_gt, z_ge, z_eq, z_ne, z_eqD_ii, z_isN, z_idxK, z_len_l, z_list_l, z_tuple_l, z_idx_l, z_cut_l, z_vrev_l, z_len_t, z_list_t, z_tuple_t, z_idx_t, z_cut_t, z_len_a, z_list_a, z_tuple_a, z_idx_a, z_cut_a, z_vrev_a, z_len_bo, z_list_bo, z_tuple_bo, z_idx_bo, z_cut_bo, z_vrev_bo, z_len_fr, z_list_fr, z_tuple_fr, z_idx_fr, z_cut_fr, z_vrev_fr, z_tupl, z_lis, z_lim, z_lc, R.bind_ok, R.bind_ex, R.bind_bad, toD_st, toD_fr, toDs_nil, toDs_cons, out_st, out_fr, out_bo, out_b2, z_d_st, z_d_bo, z_d_fr, z_lk_st, z_lk_bo, z_lk_fr, Bool.false_eq_true, D.isNon, begun, freezeAt, List.map_cons, List.map_nil, List.length_cons, List.length_nil, List.getElem?_cons_zero, List.getElem?_cons_succ, List.set_cons_zero, List.set_cons_succ, List.replicate_succ, List.replicate_zero, List.cons_append, List.nil_append, if_true, if_false, Nat.reduceAdd, Nat.reduceSub, Nat.reduceLeDiff, Nat.reduceLT, Nat.reduceEqDiff, decide_eq_true_eq, Bool.not_eq_true', decide_eq_false_iff_not, Int.reduceNeg, reduceIte, List.nil_append, ar_map, ilen, hp, e, seqOut, z_whK_nx, decide_true, x_idx0, x_idx1, hz, Int.natCast_add]
          rfl
        have hrest : bs.drop (p + (r.length + 1 - rest.length)) = rest := by
          rw [← List.drop_drop, hd, ← k2]
        have ih2 := ih (p + (r.length + 1 - rest.length)) (found ++ [c]) (.sh (.tup [.int (c : Int), .int ((r.length + 1 - rest.length : Nat) : Int)])) (by omega) (by omega) (by rw [List.length_append, List.length_cons, List.length_nil]; omega)
        rw [hrest] at ih2
        rw [step]
        dsimp only
        cases hn : decodeAllLoop n rest with
        | none =>
          rw [hn] at ih2
          exact ih2
        | some cs =>
          rw [hn] at ih2
          obtain ⟨h4, s2, s3, h5⟩ := ih2
          refine ⟨by rw [List.length_cons]; omega, s2, s3, ?_⟩
          rw [h5, List.append_assoc]
          rfl
theorem e_decoded {bs : List Nat} (h : bs.length ≤ 16777216) : f_decoded [.arg (AR bs)] = match decodeAll bs with
    | none => .ok (.st .non)
    | some cs => .ok (.st (.tup (I cs))) := by
  have z := l_decoded (bs := bs) bs.length 0 [] .un (Nat.zero_le _) (Nat.le_refl _) (by simpa using h)
  rw [List.drop_zero] at z
  unfold decodeAll
  have e0 : ((0 : Nat) : Int) = 0 := rfl
  rw [e0, inil] at z
  cases hd : decodeAllLoop bs.length bs with
  | none =>
    rw [hd] at z
    obtain ⟨G, z⟩ := z
    simp only [f_decoded, c_decoded, z_bind_ite, z_seqK_nx, z_seqK_ret, z_seq, z_nx, z_if, z_ret, z_retN, z_freeze, z_set, z_own, z_ownK, z_aug, z_augK, z_append, z_appK, z_extend, z_exK, z_extK_fr, z_extK_bo, z_extK_l, z_extK_t, z_extK, z_asg, z_gnm, z_gtp, z_setAll1, z_setAll0, z_par, z_parK, z_drop, z_for, z_run, z_fin_nx, z_fin_ret, z_fin_ex, z_fin_ite, z_forK_nx, z_forK_ret, z_whK_nx, z_whK_ret, z_T, z_boolOf, z_andT, z_orT, z_notT, z_yes, z_var, z_varK_sh, z_varK_ow, z_varK_o2, z_lit, z_op, z_chain, z_ifE, z_andE, z_orE, z_notE, z_nil, z_cons, z_B, z_call, z_call0, z_res, z_calm, z_sl, z_part, z_nopart, z_intOf, z_neg, z_negK, z_rev, z_seqI, z_seqIK_l, z_seqIK_t, z_seqIK_a, z_add, z_addD_ii, z_addD_l, z_addD_t, z_addI, z_sub, z_mod, z_div, z_mul, z_lt, z_le, z_gt, z_ge, z_eq, z_ne, z_eqD_ii, z_isN, z_idxK, z_len_l, z_list_l, z_tuple_l, z_idx_l, z_cut_l, z_vrev_l, z_len_t, z_list_t, z_tuple_t, z_idx_t, z_cut_t, z_len_a, z_list_a, z_tuple_a, z_idx_a, z_cut_a, z_vrev_a, z_len_bo, z_list_bo, z_tuple_bo, z_idx_bo, z_cut_bo, z_vrev_bo, z_len_fr, z_list_fr, z_tuple_fr, z_idx_fr, z_cut_fr, z_vrev_fr, z_tupl, z_lis, z_lim, z_lc, R.bind_ok, R.bind_ex, R.bind_bad, toD_st, toD_fr, toDs_nil, toDs_cons, out_st, out_fr, out_bo, out_b2, z_d_st, z_d_bo, z_d_fr, z_lk_st, z_lk_bo, z_lk_fr, Bool.false_eq_true, D.isNon, begun, freezeAt, List.map_cons, List.map_nil, List.length_cons, List.length_nil, List.getElem?_cons_zero, List.getElem?_cons_succ, List.set_cons_zero, List.set_cons_succ, List.replicate_succ, List.replicate_zero, List.cons_append, List.nil_append, if_true, if_false, Nat.reduceAdd, Nat.reduceSub, Nat.reduceLeDiff, Nat.reduceLT, Nat.reduceEqDiff, decide_eq_true_eq, Bool.not_eq_true', decide_eq_false_iff_not, Int.reduceNeg, reduceIte, List.nil_append, Nat.zero_le, z]
  | some cs =>
    rw [hd] at z
    obtain ⟨_, s2, s3, z⟩ := z
    simp only [f_decoded, c_decoded, z_bind_ite, z_seqK_nx, z_seqK_ret, z_seq, z_nx, z_if, z_ret, z_retN, z_freeze, z_set, z_own, z_ownK, z_aug, z_augK, z_append, z_appK, z_extend, z_exK, z_extK_fr, z_extK_bo, z_extK_l, z_extK_t, z_extK, z_asg, z_gnm, z_gtp, z_setAll1, z_setAll0, z_par, z_parK, z_drop, z_for, z_run, z_fin_nx, z_fin_ret, z_fin_ex, z_fin_ite, z_forK_nx, z_forK_ret, z_whK_nx, z_whK_ret, z_T, z_boolOf, z_andT, z_orT, z_notT, z_yes, z_var, z_varK_sh, z_varK_ow, z_varK_o2, z_lit, z_op, z_chain, z_ifE, z_andE, z_orE, z_notE, z_nil, z_cons, z_B, z_call, z_call0, z_res, z_calm, z_sl, z_part, z_nopart, z_intOf, z_neg, z_negK, z_rev, z_seqI, z_seqIK_l, z_seqIK_t, z_seqIK_a, z_add, z_addD_ii, z_addD_l, z_addD_t, z_addI, z_sub, z_mod, z_div, z_mul, z_lt, z_le, z_gt, z_ge, z_eq, z_ne, z_eqD_ii, z_isN, z_idxK, z_len_l, z_list_l, z_tuple_l, z_idx_l, z_cut_l, z_vrev_l, z_len_t, z_list_t, z_tuple_t, z_idx_t, z_cut_t, z_len_a, z_list_a, z_tuple_a, z_idx_a, z_cut_a, z_vrev_a, z_len_bo, z_list_bo, z_tuple_bo, z_idx_bo, z_cut_bo, z_vrev_bo, z_len_fr, z_list_fr, z_tuple_fr, z_idx_fr, z_cut_fr, z_vrev_fr, z_tupl, z_lis, z_lim, z_lc, R.bind_ok, R.bind_ex, R.bind_bad, toD_st, toD_fr, toDs_nil, toDs_cons, out_st, out_fr, out_bo, out_b2, z_d_st, z_d_bo, z_d_fr, z_lk_st, z_lk_bo, z_lk_fr, Bool.false_eq_true, D.isNon, begun, freezeAt, List.map_cons, List.map_nil, List.length_cons, List.length_nil, List.getElem?_cons_zero, List.getElem?_cons_succ, List.set_cons_zero, List.set_cons_succ, List.replicate_succ, List.replicate_zero, List.cons_append, List.nil_append, if_true, if_false, Nat.reduceAdd, Nat.reduceSub, Nat.reduceLeDiff, Nat.reduceLT, Nat.reduceEqDiff, decide_eq_true_eq, Bool.not_eq_true', decide_eq_false_iff_not, Int.reduceNeg, reduceIte, List.nil_append, Nat.zero_le, z]
theorem dec_all_len {bs cs : List Nat} (h : decodeAll bs = some cs) : cs.length ≤ bs.length := by
  have key : ∀ (n : Nat) (l : List Nat) (cs : List Nat), decodeAllLoop n l = some cs → cs.length ≤ l.length := by
    intro n
    induction n with
    | zero =>
      intro l cs h
      cases l with
      | nil =>
        cases h
        exact Nat.zero_le _
      | cons a r => cases h
    | succ n ih =>
      intro l cs h
      cases l with
      | nil =>
        cases h
        exact Nat.zero_le _
      | cons a r =>
        unfold decodeAllLoop at h
        cases hu : decodeUtf8 (a :: r) with
        | none =>
          rw [hu] at h
          cases h
        | some x =>
          obtain ⟨c, rest⟩ := x
          rw [hu] at h
          obtain ⟨k1, _⟩ := dec_len hu
          obtain ⟨ds, h1, h2⟩ := Option.map_eq_some_iff.mp h
          have := ih rest ds h1
          rw [← h2, List.length_cons]
          omega
  exact key _ _ _ h
end BW
namespace BW
open PySem PySem.Spec PyProof.Rows L2 BT
open Kh450
def sizeN (n : Nat) : Nat := if n < 128 then 1 else if n < 2048 then 2 else if n < 65536 then 3 else 4
theorem cut_least : BT.cutD [D.int 0, D.int 0, D.int 128, D.int 2048, D.int 65536] (some 2) none = [D.int 128, D.int 2048, D.int 65536] := rfl
theorem e_size_of (n : Nat) : f_size_of [.int (n : Int)] = .ok (.st (.int (sizeN n : Nat))) := by
  have key : lcL (gnm 1) t_size_of_0 e_size_of_0 [.sh (.int (n : Int)), .un] [D.int 128, D.int 2048, D.int 65536] = .ok (([128, 2048, 65536].filter fun k => decide (k ≤ n)).map fun (k : Nat) => D.int (k : Int)) :=
    lc_map (fun (k : Nat) => D.int (k : Int)) (fun k => decide (k ≤ n)) (fun (k : Nat) => D.int (k : Int)) [128, 2048, 65536] fun k _ => by
      refine ⟨[.sh (.int (n : Int)), .sh (.int (k : Int))], rfl, ?_, fun _ => ⟨.st (.int (k : Int)), rfl, rfl⟩⟩
      simp only [t_size_of_0, z_bind_ite, z_seqK_nx, z_seqK_ret, z_seq, z_nx, z_if, z_ret, z_retN, z_freeze, z_set, z_own, z_ownK, z_aug, z_augK, z_append, z_appK, z_extend, z_exK, z_extK_fr, z_extK_bo, z_extK_l, z_extK_t, z_extK, z_asg, z_gnm, z_gtp, z_setAll1, z_setAll0, z_par, z_parK, z_drop, z_for, z_run, z_fin_nx, z_fin_ret, z_fin_ex, z_fin_ite, z_forK_nx, z_forK_ret, z_whK_nx, z_whK_ret, z_T, z_boolOf, z_andT, z_orT, z_notT, z_yes, z_var, z_varK_sh, z_varK_ow, z_varK_o2, z_lit, z_op, z_chain, z_ifE, z_andE, z_orE, z_notE, z_nil, z_cons, z_B, z_call, z_call0, z_res, z_calm, z_sl, z_part, z_nopart, z_intOf, z_neg, z_negK, z_rev, z_seqI, z_seqIK_l, z_seqIK_t, z_seqIK_a, z_add, z_addD_ii, z_addD_l, z_addD_t, z_addI, z_sub, z_mod, z_div, z_mul, z_lt, z_le, z_gt, z_ge, z_eq, z_ne, z_eqD_ii, z_isN, z_idxK, z_len_l, z_list_l, z_tuple_l, z_idx_l, z_cut_l, z_vrev_l, z_len_t, z_list_t, z_tuple_t, z_idx_t, z_cut_t, z_len_a, z_list_a, z_tuple_a, z_idx_a, z_cut_a, z_vrev_a, z_len_bo, z_list_bo, z_tuple_bo, z_idx_bo, z_cut_bo, z_vrev_bo, z_len_fr, z_list_fr, z_tuple_fr, z_idx_fr, z_cut_fr, z_vrev_fr, z_tupl, z_lis, z_lim, z_lc, R.bind_ok, R.bind_ex, R.bind_bad, toD_st, toD_fr, toDs_nil, toDs_cons, out_st, out_fr, out_bo, out_b2, z_d_st, z_d_bo, z_d_fr, z_lk_st, z_lk_bo, z_lk_fr, Bool.false_eq_true, D.isNon, begun, freezeAt, List.map_cons, List.map_nil, List.length_cons, List.length_nil, List.getElem?_cons_zero, List.getElem?_cons_succ, List.set_cons_zero, List.set_cons_succ, List.replicate_succ, List.replicate_zero, List.cons_append, List.nil_append, if_true, if_false, Nat.reduceAdd, Nat.reduceSub, Nat.reduceLeDiff, Nat.reduceLT, Nat.reduceEqDiff, decide_eq_true_eq, Bool.not_eq_true', decide_eq_false_iff_not, Int.reduceNeg, reduceIte, List.nil_append]
      congr 1
      simp
  have hw : wipeG [Sl.sh (.int (n : Int)), .un] [1] = [.sh (.int (n : Int)), .un] := rfl
  simp only [f_size_of, c_size_of, d_LEAST_CODES, cut_least, hw, key, z_lcK, z_bind_ite, z_seqK_nx, z_seqK_ret, z_seq, z_nx, z_if, z_ret, z_retN, z_freeze, z_set, z_own, z_ownK, z_aug, z_augK, z_append, z_appK, z_extend, z_exK, z_extK_fr, z_extK_bo, z_extK_l, z_extK_t, z_extK, z_asg, z_gnm, z_gtp, z_setAll1, z_setAll0, z_par, z_parK, z_drop, z_for, z_run, z_fin_nx, z_fin_ret, z_fin_ex, z_fin_ite, z_forK_nx, z_forK_ret, z_whK_nx, z_whK_ret, z_T, z_boolOf, z_andT, z_orT, z_notT, z_yes, z_var, z_varK_sh, z_varK_ow, z_varK_o2, z_lit, z_op, z_chain, z_ifE, z_andE, z_orE, z_notE, z_nil, z_cons, z_B, z_call, z_call0, z_res, z_calm, z_sl, z_part, z_nopart, z_intOf, z_neg, z_negK, z_rev, z_seqI, z_seqIK_l, z_seqIK_t, z_seqIK_a, z_add, z_addD_ii, z_addD_l, z_addD_t, z_addI, z_sub, z_mod, z_div, z_mul, z_lt, z_le, z_gt, z_ge, z_eq, z_ne, z_eqD_ii, z_isN, z_idxK, z_len_l, z_list_l, z_tuple_l, z_idx_l, z_cut_l, z_vrev_l, z_len_t, z_list_t, z_tuple_t, z_idx_t, z_cut_t, z_len_a, z_list_a, z_tuple_a, z_idx_a, z_cut_a, z_vrev_a, z_len_bo, z_list_bo, z_tuple_bo, z_idx_bo, z_cut_bo, z_vrev_bo, z_len_fr, z_list_fr, z_tuple_fr, z_idx_fr, z_cut_fr, z_vrev_fr, z_tupl, z_lis, z_lim, z_lc, R.bind_ok, R.bind_ex, R.bind_bad, toD_st, toD_fr, toDs_nil, toDs_cons, out_st, out_fr, out_bo, out_b2, z_d_st, z_d_bo, z_d_fr, z_lk_st, z_lk_bo, z_lk_fr, Bool.false_eq_true, D.isNon, begun, freezeAt, List.map_cons, List.map_nil, List.length_cons, List.length_nil, List.getElem?_cons_zero, List.getElem?_cons_succ, List.set_cons_zero, List.set_cons_succ, List.replicate_succ, List.replicate_zero, List.cons_append, List.nil_append, if_true, if_false, Nat.reduceAdd, Nat.reduceSub, Nat.reduceLeDiff, Nat.reduceLT, Nat.reduceEqDiff, decide_eq_true_eq, Bool.not_eq_true', decide_eq_false_iff_not, Int.reduceNeg, reduceIte, List.nil_append]
  congr 3
  rw [List.length_map]
  unfold sizeN
  by_cases h1 : n < 128
  · rw [if_pos h1]
    have e : ([128, 2048, 65536].filter fun k => decide (k ≤ n)) = [] := by
      rw [List.filter_cons, if_neg (by simp; omega), List.filter_cons, if_neg (by simp; omega), List.filter_cons, if_neg (by simp; omega)]
      rfl
    rw [e]
    rfl
  · rw [if_neg h1]
    by_cases h2 : n < 2048
    · rw [if_pos h2]
      have e : ([128, 2048, 65536].filter fun k => decide (k ≤ n)) = [128] := by
        rw [List.filter_cons, if_pos (by simp; omega), List.filter_cons, if_neg (by simp; omega), List.filter_cons, if_neg (by simp; omega)]
        rfl
      rw [e]
      rfl
    · rw [if_neg h2]
      by_cases h3 : n < 65536
      · rw [if_pos h3]
        have e : ([128, 2048, 65536].filter fun k => decide (k ≤ n)) = [128, 2048] := by
          rw [List.filter_cons, if_pos (by simp; omega), List.filter_cons, if_pos (by simp; omega), List.filter_cons, if_neg (by simp; omega)]
          rfl
        rw [e]
        rfl
      · rw [if_neg h3]
        have e : ([128, 2048, 65536].filter fun k => decide (k ≤ n)) = [128, 2048, 65536] := by
          rw [List.filter_cons, if_pos (by simp; omega), List.filter_cons, if_pos (by simp; omega), List.filter_cons, if_pos (by simp; omega)]
          rfl
        rw [e]
        rfl
def rngK (ps : List PV) : R (List D) := match ps with
  | [p] => rng1 p
  | _ => .bad
theorem z_rng1 {ca : CA} {G : Ev} : cRng1 ca G = (ca G).bind rngK := rfl
theorem z_rngK (p : PV) : rngK [p] = rng1 p := rfl
theorem z_rng (j : Nat) (h : (j : Int) < 2 ^ 62) : rng1 (.st (.int (j : Int))) = .ok (rangeL 0 j) := by
  unfold rng1
  dsimp only [PV.d]
  rw [if_pos]
  · rw [Int.toNat_natCast]
  · unfold fit62
    rw [Bool.and_eq_true, decide_eq_true_eq, decide_eq_true_eq]
    omega
theorem rng_0 : rng1 (.st (.int 0)) = .ok [] := z_rng 0 (by omega)
theorem rng_1 : rng1 (.st (.int 1)) = .ok [.int 0] := z_rng 1 (by omega)
theorem rng_2 : rng1 (.st (.int 2)) = .ok [.int 0, .int 1] := z_rng 2 (by omega)
theorem rng_3 : rng1 (.st (.int 3)) = .ok [.int 0, .int 1, .int 2] := z_rng 3 (by omega)
theorem mod64 (i : Int) : vMod (.st (.int i)) (.st (.int 64)) = .ok (.st (.int (i % 64))) := z_mod (by omega)
theorem div64 (i : Int) : vDiv (.st (.int i)) (.st (.int 64)) = .ok (.st (.int (i / 64))) := z_div ⟨by omega, by omega⟩
theorem i1 {x : Int} {a : Nat} (h : x = (a : Int)) : [D.int x] = I [a] := by
  rw [h]
  rfl
theorem i2 {x y : Int} {a b : Nat} (h : x = (a : Int)) (h2 : y = (b : Int)) : [D.int x, D.int y] = I [a, b] := by
  rw [h, h2]
  rfl
theorem i3 {x y z : Int} {a b c : Nat} (h : x = (a : Int)) (h2 : y = (b : Int)) (h3 : z = (c : Int)) : [D.int x, D.int y, D.int z] = I [a, b, c] := by
  rw [h, h2, h3]
  rfl
theorem i4 {x y z u : Int} {a b c d : Nat} (h : x = (a : Int)) (h2 : y = (b : Int)) (h3 : z = (c : Int)) (h4 : u = (d : Int)) : [D.int x, D.int y, D.int z, D.int u] = I [a, b, c, d] := by
  rw [h, h2, h3, h4]
  rfl
theorem e_bytes_of (n : Nat) : f_bytes_of [.int (n : Int)] = .ok (.fr (I (encodeUtf8 n))) := by
  have e1 := e_size_of n
  unfold sizeN at e1
  unfold encodeUtf8
  have s1 : ((1 : Nat) : Int) = 1 := rfl
  have s2 : ((2 : Nat) : Int) = 2 := rfl
  have s3 : ((3 : Nat) : Int) = 3 := rfl
  have s4 : ((4 : Nat) : Int) = 4 := rfl
  have d1 : (1 : Int) - 1 = 0 := rfl
  have d2 : (2 : Int) - 1 = 1 := rfl
  have d3 : (3 : Int) - 1 = 2 := rfl
  have d4 : (4 : Int) - 1 = 3 := rfl
  by_cases h1 : n < 128
  · rw [if_pos h1] at e1 ⊢
    rw [s1] at e1
    simp only [f_bytes_of, c_bytes_of, b_bytes_of_0, e1, z_rng1, z_rngK, d1, rng_0, z_for_nil, z_for_cons, leads_1, mod64, div64, Nat.zero_lt_succ, Nat.zero_le, List.reverse_cons, List.reverse_nil, z_bind_ite, z_seqK_nx, z_seqK_ret, z_seq, z_nx, z_if, z_ret, z_retN, z_freeze, z_set, z_own, z_ownK, z_aug, z_augK, z_append, z_appK, z_extend, z_exK, z_extK_fr, z_extK_bo, z_extK_l, z_extK_t, z_extK, z_asg, z_gnm, z_gtp, z_setAll1, z_setAll0, z_par, z_parK, z_drop, z_for, z_run, z_fin_nx, z_fin_ret, z_fin_ex, z_fin_ite, z_forK_nx, z_forK_ret, z_whK_nx, z_whK_ret, z_T, z_boolOf, z_andT, z_orT, z_notT, z_yes, z_var, z_varK_sh, z_varK_ow, z_varK_o2, z_lit, z_op, z_chain, z_ifE, z_andE, z_orE, z_notE, z_nil, z_cons, z_B, z_call, z_call0, z_res, z_calm, z_sl, z_part, z_nopart, z_intOf, z_neg, z_negK, z_rev, z_seqI, z_seqIK_l, z_seqIK_t, z_seqIK_a, z_add, z_addD_ii, z_addD_l, z_addD_t, z_addI, z_sub, z_mod, z_div, z_mul, z_lt, z_le, z_gt, z_ge, z_eq, z_ne, z_eqD_ii, z_isN, z_idxK, z_len_l, z_list_l, z_tuple_l, z_idx_l, z_cut_l, z_vrev_l, z_len_t, z_list_t, z_tuple_t, z_idx_t, z_cut_t, z_len_a, z_list_a, z_tuple_a, z_idx_a, z_cut_a, z_vrev_a, z_len_bo, z_list_bo, z_tuple_bo, z_idx_bo, z_cut_bo, z_vrev_bo, z_len_fr, z_list_fr, z_tuple_fr, z_idx_fr, z_cut_fr, z_vrev_fr, z_tupl, z_lis, z_lim, z_lc, R.bind_ok, R.bind_ex, R.bind_bad, toD_st, toD_fr, toDs_nil, toDs_cons, out_st, out_fr, out_bo, out_b2, z_d_st, z_d_bo, z_d_fr, z_lk_st, z_lk_bo, z_lk_fr, Bool.false_eq_true, D.isNon, begun, freezeAt, List.map_cons, List.map_nil, List.length_cons, List.length_nil, List.getElem?_cons_zero, List.getElem?_cons_succ, List.set_cons_zero, List.set_cons_succ, List.replicate_succ, List.replicate_zero, List.cons_append, List.nil_append, if_true, if_false, Nat.reduceAdd, Nat.reduceSub, Nat.reduceLeDiff, Nat.reduceLT, Nat.reduceEqDiff, decide_eq_true_eq, Bool.not_eq_true', decide_eq_false_iff_not, Int.reduceNeg, reduceIte, List.nil_append]
    congr 2
    exact i1 (by omega)
  · rw [if_neg h1] at e1 ⊢
    by_cases h2 : n < 2048
    · rw [if_pos h2] at e1 ⊢
      rw [s2] at e1
      simp only [f_bytes_of, c_bytes_of, b_bytes_of_0, e1, z_rng1, z_rngK, d2, rng_1, z_for_nil, z_for_cons, leads_2, mod64, div64, Nat.zero_lt_succ, Nat.zero_le, List.reverse_cons, List.reverse_nil, z_bind_ite, z_seqK_nx, z_seqK_ret, z_seq, z_nx, z_if, z_ret, z_retN, z_freeze, z_set, z_own, z_ownK, z_aug, z_augK, z_append, z_appK, z_extend, z_exK, z_extK_fr, z_extK_bo, z_extK_l, z_extK_t, z_extK, z_asg, z_gnm, z_gtp, z_setAll1, z_setAll0, z_par, z_parK, z_drop, z_for, z_run, z_fin_nx, z_fin_ret, z_fin_ex, z_fin_ite, z_forK_nx, z_forK_ret, z_whK_nx, z_whK_ret, z_T, z_boolOf, z_andT, z_orT, z_notT, z_yes, z_var, z_varK_sh, z_varK_ow, z_varK_o2, z_lit, z_op, z_chain, z_ifE, z_andE, z_orE, z_notE, z_nil, z_cons, z_B, z_call, z_call0, z_res, z_calm, z_sl, z_part, z_nopart, z_intOf, z_neg, z_negK, z_rev, z_seqI, z_seqIK_l, z_seqIK_t, z_seqIK_a, z_add, z_addD_ii, z_addD_l, z_addD_t, z_addI, z_sub, z_mod, z_div, z_mul, z_lt, z_le, z_gt, z_ge, z_eq, z_ne, z_eqD_ii, z_isN, z_idxK, z_len_l, z_list_l, z_tuple_l, z_idx_l, z_cut_l, z_vrev_l, z_len_t, z_list_t, z_tuple_t, z_idx_t, z_cut_t, z_len_a, z_list_a, z_tuple_a, z_idx_a, z_cut_a, z_vrev_a, z_len_bo, z_list_bo, z_tuple_bo, z_idx_bo, z_cut_bo, z_vrev_bo, z_len_fr, z_list_fr, z_tuple_fr, z_idx_fr, z_cut_fr, z_vrev_fr, z_tupl, z_lis, z_lim, z_lc, R.bind_ok, R.bind_ex, R.bind_bad, toD_st, toD_fr, toDs_nil, toDs_cons, out_st, out_fr, out_bo, out_b2, z_d_st, z_d_bo, z_d_fr, z_lk_st, z_lk_bo, z_lk_fr, Bool.false_eq_true, D.isNon, begun, freezeAt, List.map_cons, List.map_nil, List.length_cons, List.length_nil, List.getElem?_cons_zero, List.getElem?_cons_succ, List.set_cons_zero, List.set_cons_succ, List.replicate_succ, List.replicate_zero, List.cons_append, List.nil_append, if_true, if_false, Nat.reduceAdd, Nat.reduceSub, Nat.reduceLeDiff, Nat.reduceLT, Nat.reduceEqDiff, decide_eq_true_eq, Bool.not_eq_true', decide_eq_false_iff_not, Int.reduceNeg, reduceIte, List.nil_append]
      exact congrArg (fun z => R.ok (PV.fr z)) (i2 (by omega) (by omega))
    · rw [if_neg h2] at e1 ⊢
      by_cases h3 : n < 65536
      · rw [if_pos h3] at e1 ⊢
        rw [s3] at e1
        simp only [f_bytes_of, c_bytes_of, b_bytes_of_0, e1, z_rng1, z_rngK, d3, rng_2, z_for_nil, z_for_cons, leads_3, mod64, div64, Nat.zero_lt_succ, Nat.zero_le, List.reverse_cons, List.reverse_nil, z_bind_ite, z_seqK_nx, z_seqK_ret, z_seq, z_nx, z_if, z_ret, z_retN, z_freeze, z_set, z_own, z_ownK, z_aug, z_augK, z_append, z_appK, z_extend, z_exK, z_extK_fr, z_extK_bo, z_extK_l, z_extK_t, z_extK, z_asg, z_gnm, z_gtp, z_setAll1, z_setAll0, z_par, z_parK, z_drop, z_for, z_run, z_fin_nx, z_fin_ret, z_fin_ex, z_fin_ite, z_forK_nx, z_forK_ret, z_whK_nx, z_whK_ret, z_T, z_boolOf, z_andT, z_orT, z_notT, z_yes, z_var, z_varK_sh, z_varK_ow, z_varK_o2, z_lit, z_op, z_chain, z_ifE, z_andE, z_orE, z_notE, z_nil, z_cons, z_B, z_call, z_call0, z_res, z_calm, z_sl, z_part, z_nopart, z_intOf, z_neg, z_negK, z_rev, z_seqI, z_seqIK_l, z_seqIK_t, z_seqIK_a, z_add, z_addD_ii, z_addD_l, z_addD_t, z_addI, z_sub, z_mod, z_div, z_mul, z_lt, z_le, z_gt, z_ge, z_eq, z_ne, z_eqD_ii, z_isN, z_idxK, z_len_l, z_list_l, z_tuple_l, z_idx_l, z_cut_l, z_vrev_l, z_len_t, z_list_t, z_tuple_t, z_idx_t, z_cut_t, z_len_a, z_list_a, z_tuple_a, z_idx_a, z_cut_a, z_vrev_a, z_len_bo, z_list_bo, z_tuple_bo, z_idx_bo, z_cut_bo, z_vrev_bo, z_len_fr, z_list_fr, z_tuple_fr, z_idx_fr, z_cut_fr, z_vrev_fr, z_tupl, z_lis, z_lim, z_lc, R.bind_ok, R.bind_ex, R.bind_bad, toD_st, toD_fr, toDs_nil, toDs_cons, out_st, out_fr, out_bo, out_b2, z_d_st, z_d_bo, z_d_fr, z_lk_st, z_lk_bo, z_lk_fr, Bool.false_eq_true, D.isNon, begun, freezeAt, List.map_cons, List.map_nil, List.length_cons, List.length_nil, List.getElem?_cons_zero, List.getElem?_cons_succ, List.set_cons_zero, List.set_cons_succ, List.replicate_succ, List.replicate_zero, List.cons_append, List.nil_append, if_true, if_false, Nat.reduceAdd, Nat.reduceSub, Nat.reduceLeDiff, Nat.reduceLT, Nat.reduceEqDiff, decide_eq_true_eq, Bool.not_eq_true', decide_eq_false_iff_not, Int.reduceNeg, reduceIte, List.nil_append]
        exact congrArg (fun z => R.ok (PV.fr z)) (i3 (by omega) (by omega) (by omega))
      · rw [if_neg h3] at e1 ⊢
        rw [s4] at e1
        simp only [f_bytes_of, c_bytes_of, b_bytes_of_0, e1, z_rng1, z_rngK, d4, rng_3, z_for_nil, z_for_cons, leads_4, mod64, div64, Nat.zero_lt_succ, Nat.zero_le, List.reverse_cons, List.reverse_nil, z_bind_ite, z_seqK_nx, z_seqK_ret, z_seq, z_nx, z_if, z_ret, z_retN, z_freeze, z_set, z_own, z_ownK, z_aug, z_augK, z_append, z_appK, z_extend, z_exK, z_extK_fr, z_extK_bo, z_extK_l, z_extK_t, z_extK, z_asg, z_gnm, z_gtp, z_setAll1, z_setAll0, z_par, z_parK, z_drop, z_for, z_run, z_fin_nx, z_fin_ret, z_fin_ex, z_fin_ite, z_forK_nx, z_forK_ret, z_whK_nx, z_whK_ret, z_T, z_boolOf, z_andT, z_orT, z_notT, z_yes, z_var, z_varK_sh, z_varK_ow, z_varK_o2, z_lit, z_op, z_chain, z_ifE, z_andE, z_orE, z_notE, z_nil, z_cons, z_B, z_call, z_call0, z_res, z_calm, z_sl, z_part, z_nopart, z_intOf, z_neg, z_negK, z_rev, z_seqI, z_seqIK_l, z_seqIK_t, z_seqIK_a, z_add, z_addD_ii, z_addD_l, z_addD_t, z_addI, z_sub, z_mod, z_div, z_mul, z_lt, z_le, z_gt, z_ge, z_eq, z_ne, z_eqD_ii, z_isN, z_idxK, z_len_l, z_list_l, z_tuple_l, z_idx_l, z_cut_l, z_vrev_l, z_len_t, z_list_t, z_tuple_t, z_idx_t, z_cut_t, z_len_a, z_list_a, z_tuple_a, z_idx_a, z_cut_a, z_vrev_a, z_len_bo, z_list_bo, z_tuple_bo, z_idx_bo, z_cut_bo, z_vrev_bo, z_len_fr, z_list_fr, z_tuple_fr, z_idx_fr, z_cut_fr, z_vrev_fr, z_tupl, z_lis, z_lim, z_lc, R.bind_ok, R.bind_ex, R.bind_bad, toD_st, toD_fr, toDs_nil, toDs_cons, out_st, out_fr, out_bo, out_b2, z_d_st, z_d_bo, z_d_fr, z_lk_st, z_lk_bo, z_lk_fr, Bool.false_eq_true, D.isNon, begun, freezeAt, List.map_cons, List.map_nil, List.length_cons, List.length_nil, List.getElem?_cons_zero, List.getElem?_cons_succ, List.set_cons_zero, List.set_cons_succ, List.replicate_succ, List.replicate_zero, List.cons_append, List.nil_append, if_true, if_false, Nat.reduceAdd, Nat.reduceSub, Nat.reduceLeDiff, Nat.reduceLT, Nat.reduceEqDiff, decide_eq_true_eq, Bool.not_eq_true', decide_eq_false_iff_not, Int.reduceNeg, reduceIte, List.nil_append]
        exact congrArg (fun z => R.ok (PV.fr z)) (i4 (by omega) (by omega) (by omega) (by omega))
theorem enc_le (n : Nat) : (encodeUtf8 n).length ≤ 4 := by
  unfold encodeUtf8
  repeat' split
  all_goals simp
theorem encAll_le : ∀ l : List Nat, (encodeAll l).length ≤ 4 * l.length
  | [] => Nat.le_refl _
  | n :: l => by
    have h1 := enc_le n
    have h2 := encAll_le l
    unfold encodeAll at h2 ⊢
    rw [List.flatMap_cons, List.length_append, List.length_cons]
    omega
theorem l_encoded (g : D) : ∀ (cs found : List Nat) (s : Sl), found.length + 4 * cs.length ≤ 16777216 → ∃ s2, forL (gnm 2) b_encoded_0 (I cs) [.sh g, .ow (I found), s] = .ok (.nx, [.sh g, .ow (I (found ++ encodeAll cs)), s2])
  | [], found, s, _ => ⟨s, by
    rw [inil, z_for_nil]
    unfold encodeAll
    rw [List.flatMap_nil, List.append_nil]⟩
  | c :: cs, found, s, h => by
    rw [List.length_cons] at h
    have h1 := enc_le c
    obtain ⟨s2, ih⟩ := l_encoded g cs (found ++ encodeUtf8 c) (.sh (.int (c : Int))) (by rw [List.length_append]; omega)
    refine ⟨s2, ?_⟩
    have hz : found.length + (encodeUtf8 c).length ≤ 16777216 := by omega
    have step : b_encoded_0 [.sh g, .ow (I found), .sh (.int (c : Int))] = .ok (.nx, [.sh g, .ow (I (found ++ encodeUtf8 c)), .sh (.int (c : Int))]) := by
      simp only [b_encoded_0, e_bytes_of, ilen, hz, z_bind_ite, z_seqK_nx, z_seqK_ret, z_seq, z_nx, z_if, z_ret, z_retN, z_freeze, z_set, z_own, z_ownK, z_aug, z_augK, z_append, z_appK, z_extend, z_exK, z_extK_fr, z_extK_bo, z_extK_l, z_extK_t, z_extK, z_asg, z_gnm, z_gtp, z_setAll1, z_setAll0, z_par, z_parK, z_drop, z_for, z_run, z_fin_nx, z_fin_ret, z_fin_ex, z_fin_ite, z_forK_nx, z_forK_ret, z_whK_nx, z_whK_ret, z_T, z_boolOf, z_andT, z_orT, z_notT, z_yes, z_var, z_varK_sh, z_varK_ow, z_varK_o2, z_lit, z_op, z_chain, z_ifE, z_andE, z_orE, z_notE, z_nil, z_cons, z_B, z_call, z_call0, z_res, z_calm, z_sl, z_part, z_nopart, z_intOf, z_neg, z_negK, z_rev, z_seqI, z_seqIK_l, z_seqIK_t, z_seqIK_a, z_add, z_addD_ii, z_addD_l, z_addD_t, z_addI, z_sub, z_mod, z_div, z_mul, z_lt, z_le, z_gt, z_ge, z_eq, z_ne, z_eqD_ii, z_isN, z_idxK, z_len_l, z_list_l, z_tuple_l, z_idx_l, z_cut_l, z_vrev_l, z_len_t, z_list_t, z_tuple_t, z_idx_t, z_cut_t, z_len_a, z_list_a, z_tuple_a, z_idx_a, z_cut_a, z_vrev_a, z_len_bo, z_list_bo, z_tuple_bo, z_idx_bo, z_cut_bo, z_vrev_bo, z_len_fr, z_list_fr, z_tuple_fr, z_idx_fr, z_cut_fr, z_vrev_fr, z_tupl, z_lis, z_lim, z_lc, R.bind_ok, R.bind_ex, R.bind_bad, toD_st, toD_fr, toDs_nil, toDs_cons, out_st, out_fr, out_bo, out_b2, z_d_st, z_d_bo, z_d_fr, z_lk_st, z_lk_bo, z_lk_fr, Bool.false_eq_true, D.isNon, begun, freezeAt, List.map_cons, List.map_nil, List.length_cons, List.length_nil, List.getElem?_cons_zero, List.getElem?_cons_succ, List.set_cons_zero, List.set_cons_succ, List.replicate_succ, List.replicate_zero, List.cons_append, List.nil_append, if_true, if_false, Nat.reduceAdd, Nat.reduceSub, Nat.reduceLeDiff, Nat.reduceLT, Nat.reduceEqDiff, decide_eq_true_eq, Bool.not_eq_true', decide_eq_false_iff_not, Int.reduceNeg, reduceIte, List.nil_append]
      rw [iapp]
    rw [icons, z_for_cons, z_gnm, R.bind_ok]
    show (b_encoded_0 [.sh g, .ow (I found), .sh (.int (c : Int))]).bind _ = _
    rw [step, R.bind_ok, z_forK_nx, ih, List.append_assoc]
    rfl
theorem e_encoded_t (cs : List Nat) (h : 4 * cs.length ≤ 16777216) : f_encoded [.tup (I cs)] = .ok (.fr (I (encodeAll cs))) := by
  obtain ⟨s2, e⟩ := l_encoded (.tup (I cs)) cs [] .un (by simpa using h)
  rw [inil, List.nil_append] at e
  simp only [f_encoded, c_encoded, Nat.zero_le, e, z_bind_ite, z_seqK_nx, z_seqK_ret, z_seq, z_nx, z_if, z_ret, z_retN, z_freeze, z_set, z_own, z_ownK, z_aug, z_augK, z_append, z_appK, z_extend, z_exK, z_extK_fr, z_extK_bo, z_extK_l, z_extK_t, z_extK, z_asg, z_gnm, z_gtp, z_setAll1, z_setAll0, z_par, z_parK, z_drop, z_for, z_run, z_fin_nx, z_fin_ret, z_fin_ex, z_fin_ite, z_forK_nx, z_forK_ret, z_whK_nx, z_whK_ret, z_T, z_boolOf, z_andT, z_orT, z_notT, z_yes, z_var, z_varK_sh, z_varK_ow, z_varK_o2, z_lit, z_op, z_chain, z_ifE, z_andE, z_orE, z_notE, z_nil, z_cons, z_B, z_call, z_call0, z_res, z_calm, z_sl, z_part, z_nopart, z_intOf, z_neg, z_negK, z_rev, z_seqI, z_seqIK_l, z_seqIK_t, z_seqIK_a, z_add, z_addD_ii, z_addD_l, z_addD_t, z_addI, z_sub, z_mod, z_div, z_mul, z_lt, z_le, z_gt, z_ge, z_eq, z_ne, z_eqD_ii, z_isN, z_idxK, z_len_l, z_list_l, z_tuple_l, z_idx_l, z_cut_l, z_vrev_l, z_len_t, z_list_t, z_tuple_t, z_idx_t, z_cut_t, z_len_a, z_list_a, z_tuple_a, z_idx_a, z_cut_a, z_vrev_a, z_len_bo, z_list_bo, z_tuple_bo, z_idx_bo, z_cut_bo, z_vrev_bo, z_len_fr, z_list_fr, z_tuple_fr, z_idx_fr, z_cut_fr, z_vrev_fr, z_tupl, z_lis, z_lim, z_lc, R.bind_ok, R.bind_ex, R.bind_bad, toD_st, toD_fr, toDs_nil, toDs_cons, out_st, out_fr, out_bo, out_b2, z_d_st, z_d_bo, z_d_fr, z_lk_st, z_lk_bo, z_lk_fr, Bool.false_eq_true, D.isNon, begun, freezeAt, List.map_cons, List.map_nil, List.length_cons, List.length_nil, List.getElem?_cons_zero, List.getElem?_cons_succ, List.set_cons_zero, List.set_cons_succ, List.replicate_succ, List.replicate_zero, List.cons_append, List.nil_append, if_true, if_false, Nat.reduceAdd, Nat.reduceSub, Nat.reduceLeDiff, Nat.reduceLT, Nat.reduceEqDiff, decide_eq_true_eq, Bool.not_eq_true', decide_eq_false_iff_not, Int.reduceNeg, reduceIte, List.nil_append]
theorem e_encoded_l (cs : List Nat) (h : 4 * cs.length ≤ 16777216) : f_encoded [.lst (I cs)] = .ok (.fr (I (encodeAll cs))) := by
  obtain ⟨s2, e⟩ := l_encoded (.lst (I cs)) cs [] .un (by simpa using h)
  rw [inil, List.nil_append] at e
  simp only [f_encoded, c_encoded, Nat.zero_le, e, z_bind_ite, z_seqK_nx, z_seqK_ret, z_seq, z_nx, z_if, z_ret, z_retN, z_freeze, z_set, z_own, z_ownK, z_aug, z_augK, z_append, z_appK, z_extend, z_exK, z_extK_fr, z_extK_bo, z_extK_l, z_extK_t, z_extK, z_asg, z_gnm, z_gtp, z_setAll1, z_setAll0, z_par, z_parK, z_drop, z_for, z_run, z_fin_nx, z_fin_ret, z_fin_ex, z_fin_ite, z_forK_nx, z_forK_ret, z_whK_nx, z_whK_ret, z_T, z_boolOf, z_andT, z_orT, z_notT, z_yes, z_var, z_varK_sh, z_varK_ow, z_varK_o2, z_lit, z_op, z_chain, z_ifE, z_andE, z_orE, z_notE, z_nil, z_cons, z_B, z_call, z_call0, z_res, z_calm, z_sl, z_part, z_nopart, z_intOf, z_neg, z_negK, z_rev, z_seqI, z_seqIK_l, z_seqIK_t, z_seqIK_a, z_add, z_addD_ii, z_addD_l, z_addD_t, z_addI, z_sub, z_mod, z_div, z_mul, z_lt, z_le, z_gt, z_ge, z_eq, z_ne, z_eqD_ii, z_isN, z_idxK, z_len_l, z_list_l, z_tuple_l, z_idx_l, z_cut_l, z_vrev_l, z_len_t, z_list_t, z_tuple_t, z_idx_t, z_cut_t, z_len_a, z_list_a, z_tuple_a, z_idx_a, z_cut_a, z_vrev_a, z_len_bo, z_list_bo, z_tuple_bo, z_idx_bo, z_cut_bo, z_vrev_bo, z_len_fr, z_list_fr, z_tuple_fr, z_idx_fr, z_cut_fr, z_vrev_fr, z_tupl, z_lis, z_lim, z_lc, R.bind_ok, R.bind_ex, R.bind_bad, toD_st, toD_fr, toDs_nil, toDs_cons, out_st, out_fr, out_bo, out_b2, z_d_st, z_d_bo, z_d_fr, z_lk_st, z_lk_bo, z_lk_fr, Bool.false_eq_true, D.isNon, begun, freezeAt, List.map_cons, List.map_nil, List.length_cons, List.length_nil, List.getElem?_cons_zero, List.getElem?_cons_succ, List.set_cons_zero, List.set_cons_succ, List.replicate_succ, List.replicate_zero, List.cons_append, List.nil_append, if_true, if_false, Nat.reduceAdd, Nat.reduceSub, Nat.reduceLeDiff, Nat.reduceLT, Nat.reduceEqDiff, decide_eq_true_eq, Bool.not_eq_true', decide_eq_false_iff_not, Int.reduceNeg, reduceIte, List.nil_append]
theorem z_txt {c : CE} {G : Ev} {x : Str} (h : c G = .ok (.st (.str x))) : cTxtI c G = .ok (signsOf x) := by
  unfold cTxtI
  rw [h]
  rfl
theorem z_ord (n : Nat) : gOrd [.st (.str ⟨#[n]⟩)] = .ok (.st (.int (n : Int))) := rfl
theorem e_codes_of (x : Str) (h : x.cps.toList.length ≤ 16777216) : f_codes_of [.str x] = .ok (.st (.tup (I x.cps.toList))) := by
  have key : lcL (gnm 1) cYes e_codes_of_0 [.sh (.str x), .un] (signsOf x) = .ok ((x.cps.toList.filter fun _ => true).map fun (k : Nat) => D.int (k : Int)) :=
    lc_map (fun (k : Nat) => D.str ⟨#[k]⟩) (fun _ => true) (fun (k : Nat) => D.int (k : Int)) x.cps.toList fun k _ => by
      refine ⟨[.sh (.str x), .sh (.str ⟨#[k]⟩)], rfl, rfl, fun _ => ⟨.st (.int (k : Int)), ?_, rfl⟩⟩
      simp only [e_codes_of_0, z_ord, z_bind_ite, z_seqK_nx, z_seqK_ret, z_seq, z_nx, z_if, z_ret, z_retN, z_freeze, z_set, z_own, z_ownK, z_aug, z_augK, z_append, z_appK, z_extend, z_exK, z_extK_fr, z_extK_bo, z_extK_l, z_extK_t, z_extK, z_asg, z_gnm, z_gtp, z_setAll1, z_setAll0, z_par, z_parK, z_drop, z_for, z_run, z_fin_nx, z_fin_ret, z_fin_ex, z_fin_ite, z_forK_nx, z_forK_ret, z_whK_nx, z_whK_ret, z_T, z_boolOf, z_andT, z_orT, z_notT, z_yes, z_var, z_varK_sh, z_varK_ow, z_varK_o2, z_lit, z_op, z_chain, z_ifE, z_andE, z_orE, z_notE, z_nil, z_cons, z_B, z_call, z_call0, z_res, z_calm, z_sl, z_part, z_nopart, z_intOf, z_neg, z_negK, z_rev, z_seqI, z_seqIK_l, z_seqIK_t, z_seqIK_a, z_add, z_addD_ii, z_addD_l, z_addD_t, z_addI, z_sub, z_mod, z_div, z_mul, z_lt, z_le, z_gt, z_ge, z_eq, z_ne, z_eqD_ii, z_isN, z_idxK, z_len_l, z_list_l, z_tuple_l, z_idx_l, z_cut_l, z_vrev_l, z_len_t, z_list_t, z_tuple_t, z_idx_t, z_cut_t, z_len_a, z_list_a, z_tuple_a, z_idx_a, z_cut_a, z_vrev_a, z_len_bo, z_list_bo, z_tuple_bo, z_idx_bo, z_cut_bo, z_vrev_bo, z_len_fr, z_list_fr, z_tuple_fr, z_idx_fr, z_cut_fr, z_vrev_fr, z_tupl, z_lis, z_lim, z_lc, R.bind_ok, R.bind_ex, R.bind_bad, toD_st, toD_fr, toDs_nil, toDs_cons, out_st, out_fr, out_bo, out_b2, z_d_st, z_d_bo, z_d_fr, z_lk_st, z_lk_bo, z_lk_fr, Bool.false_eq_true, D.isNon, begun, freezeAt, List.map_cons, List.map_nil, List.length_cons, List.length_nil, List.getElem?_cons_zero, List.getElem?_cons_succ, List.set_cons_zero, List.set_cons_succ, List.replicate_succ, List.replicate_zero, List.cons_append, List.nil_append, if_true, if_false, Nat.reduceAdd, Nat.reduceSub, Nat.reduceLeDiff, Nat.reduceLT, Nat.reduceEqDiff, decide_eq_true_eq, Bool.not_eq_true', decide_eq_false_iff_not, Int.reduceNeg, reduceIte, List.nil_append]
  have hw : wipeG [Sl.sh (.str x), .un] [1] = [.sh (.str x), .un] := rfl
  have hi : cTxtI (cVar 0) [.sh (.str x), .un] = .ok (signsOf x) := z_txt rfl
  have hl : (signsOf x).length ≤ 16777216 := by
    unfold signsOf
    rw [List.length_map]
    exact h
  simp only [f_codes_of, c_codes_of, hi, hw, key, z_lcK hl, z_bind_ite, z_seqK_nx, z_seqK_ret, z_seq, z_nx, z_if, z_ret, z_retN, z_freeze, z_set, z_own, z_ownK, z_aug, z_augK, z_append, z_appK, z_extend, z_exK, z_extK_fr, z_extK_bo, z_extK_l, z_extK_t, z_extK, z_asg, z_gnm, z_gtp, z_setAll1, z_setAll0, z_par, z_parK, z_drop, z_for, z_run, z_fin_nx, z_fin_ret, z_fin_ex, z_fin_ite, z_forK_nx, z_forK_ret, z_whK_nx, z_whK_ret, z_T, z_boolOf, z_andT, z_orT, z_notT, z_yes, z_var, z_varK_sh, z_varK_ow, z_varK_o2, z_lit, z_op, z_chain, z_ifE, z_andE, z_orE, z_notE, z_nil, z_cons, z_B, z_call, z_call0, z_res, z_calm, z_sl, z_part, z_nopart, z_intOf, z_neg, z_negK, z_rev, z_seqI, z_seqIK_l, z_seqIK_t, z_seqIK_a, z_add, z_addD_ii, z_addD_l, z_addD_t, z_addI, z_sub, z_mod, z_div, z_mul, z_lt, z_le, z_gt, z_ge, z_eq, z_ne, z_eqD_ii, z_isN, z_idxK, z_len_l, z_list_l, z_tuple_l, z_idx_l, z_cut_l, z_vrev_l, z_len_t, z_list_t, z_tuple_t, z_idx_t, z_cut_t, z_len_a, z_list_a, z_tuple_a, z_idx_a, z_cut_a, z_vrev_a, z_len_bo, z_list_bo, z_tuple_bo, z_idx_bo, z_cut_bo, z_vrev_bo, z_len_fr, z_list_fr, z_tuple_fr, z_idx_fr, z_cut_fr, z_vrev_fr, z_tupl, z_lis, z_lim, z_lc, R.bind_ok, R.bind_ex, R.bind_bad, toD_st, toD_fr, toDs_nil, toDs_cons, out_st, out_fr, out_bo, out_b2, z_d_st, z_d_bo, z_d_fr, z_lk_st, z_lk_bo, z_lk_fr, Bool.false_eq_true, D.isNon, begun, freezeAt, List.map_cons, List.map_nil, List.length_cons, List.length_nil, List.getElem?_cons_zero, List.getElem?_cons_succ, List.set_cons_zero, List.set_cons_succ, List.replicate_succ, List.replicate_zero, List.cons_append, List.nil_append, if_true, if_false, Nat.reduceAdd, Nat.reduceSub, Nat.reduceLeDiff, Nat.reduceLT, Nat.reduceEqDiff, decide_eq_true_eq, Bool.not_eq_true', decide_eq_false_iff_not, Int.reduceNeg, reduceIte, List.nil_append]
  rw [List.filter_eq_self.mpr fun _ _ => rfl]
  rfl
theorem e_answered_t (cs : List Nat) (h : 4 * cs.length < 16777216) : f_answered [.tup (I cs)] = .ok (.fr (D.int ((encodeAll cs).length : Nat) :: I (encodeAll cs))) := by
  have e := e_encoded_t cs (by omega)
  have hl := encAll_le cs
  have hz : 1 + (encodeAll cs).length ≤ 16777216 := by omega
  have h1 : (1 : Nat) ≤ 16777216 := by omega
  simp only [f_answered, c_answered, e, ilen, hz, h1, z_addD_l, z_bind_ite, z_seqK_nx, z_seqK_ret, z_seq, z_nx, z_if, z_ret, z_retN, z_freeze, z_set, z_own, z_ownK, z_aug, z_augK, z_append, z_appK, z_extend, z_exK, z_extK_fr, z_extK_bo, z_extK_l, z_extK_t, z_extK, z_asg, z_gnm, z_gtp, z_setAll1, z_setAll0, z_par, z_parK, z_drop, z_for, z_run, z_fin_nx, z_fin_ret, z_fin_ex, z_fin_ite, z_forK_nx, z_forK_ret, z_whK_nx, z_whK_ret, z_T, z_boolOf, z_andT, z_orT, z_notT, z_yes, z_var, z_varK_sh, z_varK_ow, z_varK_o2, z_lit, z_op, z_chain, z_ifE, z_andE, z_orE, z_notE, z_nil, z_cons, z_B, z_call, z_call0, z_res, z_calm, z_sl, z_part, z_nopart, z_intOf, z_neg, z_negK, z_rev, z_seqI, z_seqIK_l, z_seqIK_t, z_seqIK_a, z_add, z_addD_ii, z_addD_l, z_addD_t, z_addI, z_sub, z_mod, z_div, z_mul, z_lt, z_le, z_gt, z_ge, z_eq, z_ne, z_eqD_ii, z_isN, z_idxK, z_len_l, z_list_l, z_tuple_l, z_idx_l, z_cut_l, z_vrev_l, z_len_t, z_list_t, z_tuple_t, z_idx_t, z_cut_t, z_len_a, z_list_a, z_tuple_a, z_idx_a, z_cut_a, z_vrev_a, z_len_bo, z_list_bo, z_tuple_bo, z_idx_bo, z_cut_bo, z_vrev_bo, z_len_fr, z_list_fr, z_tuple_fr, z_idx_fr, z_cut_fr, z_vrev_fr, z_tupl, z_lis, z_lim, z_lc, R.bind_ok, R.bind_ex, R.bind_bad, toD_st, toD_fr, toDs_nil, toDs_cons, out_st, out_fr, out_bo, out_b2, z_d_st, z_d_bo, z_d_fr, z_lk_st, z_lk_bo, z_lk_fr, Bool.false_eq_true, D.isNon, begun, freezeAt, List.map_cons, List.map_nil, List.length_cons, List.length_nil, List.getElem?_cons_zero, List.getElem?_cons_succ, List.set_cons_zero, List.set_cons_succ, List.replicate_succ, List.replicate_zero, List.cons_append, List.nil_append, if_true, if_false, Nat.reduceAdd, Nat.reduceSub, Nat.reduceLeDiff, Nat.reduceLT, Nat.reduceEqDiff, decide_eq_true_eq, Bool.not_eq_true', decide_eq_false_iff_not, Int.reduceNeg, reduceIte, List.nil_append]
end BW
namespace BW
open PySem PySem.Spec PyProof.Rows L2 BT
open Kh450
def isSep (c : Nat) : Bool := [32, 9, 10, 13, 45, 95].contains c
def splitW : List Nat → List Nat × List (List Nat)
  | [] => ([], [])
  | c :: r => if isSep c then ([], (splitW r).1 :: (splitW r).2) else (c :: (splitW r).1, (splitW r).2)
theorem splitW_cons (c : Nat) (r : List Nat) : splitW (c :: r) = if isSep c then ([], (splitW r).1 :: (splitW r).2) else (c :: (splitW r).1, (splitW r).2) := rfl
def NL (ll : List (List Nat)) : List (List D) := ll.map I
theorem wordsPair (a b : D) (cs : List Nat) : ∀ (init : List (List Nat)) (w : List Nat) (s : Sl), init.length + 1 + cs.length < 16777216 → w.length + cs.length < 16777216 →
    ∃ s2, forL (gnm 3) b_words_0 (I cs) [.sh a, .sh (.tup (I [32, 9, 10, 13, 45, 95])), .o2 (NL (init ++ [w])), s, .un] = .ok (.nx, [.sh a, .sh (.tup (I [32, 9, 10, 13, 45, 95])), .o2 (NL (init ++ (w ++ (splitW cs).1) :: (splitW cs).2)), s2, .un]) := by
  induction cs with
  | nil =>
    intro init w s _ _
    refine ⟨s, ?_⟩
    rw [inil, z_for_nil]
    unfold splitW
    rw [List.append_nil]
  | cons c cs ih =>
    intro init w s h1 h2
    rw [List.length_cons] at h1 h2
    have hin : inD (.int (c : Int)) (.st (.tup (I [32, 9, 10, 13, 45, 95]))) = .ok (isSep c) := inD_I rfl
    have hin2 : vIn (.st (.int (c : Int))) (.st (.tup (I [32, 9, 10, 13, 45, 95]))) = .ok (.st (.bl (isSep c))) := by
      unfold vIn
      rw [z_lk_st, hin]
      rfl
    rw [icons, z_for_cons, z_gnm, R.bind_ok]
    cases hs : isSep c with
    | true =>
      rw [hs] at hin2
      have step : b_words_0 [.sh a, .sh (.tup (I [32, 9, 10, 13, 45, 95])), .o2 (NL (init ++ [w])), .sh (.int (c : Int)), .un] = .ok (.nx, [.sh a, .sh (.tup (I [32, 9, 10, 13, 45, 95])), .o2 (NL ((init ++ [w]) ++ [[]])), .sh (.int (c : Int)), .un]) := by
        have hl : (NL (init ++ [w])).length < 16777216 := by
          unfold NL
          rw [List.length_map, List.length_append, List.length_cons, List.length_nil]
          omega
        have e2 : cAppend2 2 (cB gLis cNil) [.sh a, .sh (.tup (I [32, 9, 10, 13, 45, 95])), .o2 (NL (init ++ [w])), .sh (.int (c : Int)), .un] = .ok (.nx, [.sh a, .sh (.tup (I [32, 9, 10, 13, 45, 95])), .o2 (NL ((init ++ [w]) ++ [[]])), .sh (.int (c : Int)), .un]) := by
          unfold cAppend2
          simp only [Nat.zero_le, hl, z_bind_ite, z_seqK_nx, z_seqK_ret, z_seq, z_nx, z_if, z_ret, z_retN, z_freeze, z_set, z_own, z_ownK, z_aug, z_augK, z_append, z_appK, z_extend, z_exK, z_extK_fr, z_extK_bo, z_extK_l, z_extK_t, z_extK, z_asg, z_gnm, z_gtp, z_setAll1, z_setAll0, z_par, z_parK, z_drop, z_for, z_run, z_fin_nx, z_fin_ret, z_fin_ex, z_fin_ite, z_forK_nx, z_forK_ret, z_whK_nx, z_whK_ret, z_T, z_boolOf, z_andT, z_orT, z_notT, z_yes, z_var, z_varK_sh, z_varK_ow, z_varK_o2, z_lit, z_op, z_chain, z_ifE, z_andE, z_orE, z_notE, z_nil, z_cons, z_B, z_call, z_call0, z_res, z_calm, z_sl, z_part, z_nopart, z_intOf, z_neg, z_negK, z_rev, z_seqI, z_seqIK_l, z_seqIK_t, z_seqIK_a, z_add, z_addD_ii, z_addD_l, z_addD_t, z_addI, z_sub, z_mod, z_div, z_mul, z_lt, z_le, z_gt, z_ge, z_eq, z_ne, z_eqD_ii, z_isN, z_idxK, z_len_l, z_list_l, z_tuple_l, z_idx_l, z_cut_l, z_vrev_l, z_len_t, z_list_t, z_tuple_t, z_idx_t, z_cut_t, z_len_a, z_list_a, z_tuple_a, z_idx_a, z_cut_a, z_vrev_a, z_len_bo, z_list_bo, z_tuple_bo, z_idx_bo, z_cut_bo, z_vrev_bo, z_len_fr, z_list_fr, z_tuple_fr, z_idx_fr, z_cut_fr, z_vrev_fr, z_tupl, z_lis, z_lim, z_lc, R.bind_ok, R.bind_ex, R.bind_bad, toD_st, toD_fr, toDs_nil, toDs_cons, out_st, out_fr, out_bo, out_b2, z_d_st, z_d_bo, z_d_fr, z_lk_st, z_lk_bo, z_lk_fr, Bool.false_eq_true, D.isNon, begun, freezeAt, List.map_cons, List.map_nil, List.length_cons, List.length_nil, List.getElem?_cons_zero, List.getElem?_cons_succ, List.set_cons_zero, List.set_cons_succ, List.replicate_succ, List.replicate_zero, List.cons_append, List.nil_append, if_true, if_false, Nat.reduceAdd, Nat.reduceSub, Nat.reduceLeDiff, Nat.reduceLT, Nat.reduceEqDiff, decide_eq_true_eq, Bool.not_eq_true', decide_eq_false_iff_not, Int.reduceNeg, reduceIte, List.nil_append]
          unfold NL
          rw [List.map_append (l₁ := init ++ [w])]
          rfl
        simp only [b_words_0, hin2, e2, z_bind_ite, z_seqK_nx, z_seqK_ret, z_seq, z_nx, z_if, z_ret, z_retN, z_freeze, z_set, z_own, z_ownK, z_aug, z_augK, z_append, z_appK, z_extend, z_exK, z_extK_fr, z_extK_bo, z_extK_l, z_extK_t, z_extK, z_asg, z_gnm, z_gtp, z_setAll1, z_setAll0, z_par, z_parK, z_drop, z_for, z_run, z_fin_nx, z_fin_ret, z_fin_ex, z_fin_ite, z_forK_nx, z_forK_ret, z_whK_nx, z_whK_ret, z_T, z_boolOf, z_andT, z_orT, z_notT, z_yes, z_var, z_varK_sh, z_varK_ow, z_varK_o2, z_lit, z_op, z_chain, z_ifE, z_andE, z_orE, z_notE, z_nil, z_cons, z_B, z_call, z_call0, z_res, z_calm, z_sl, z_part, z_nopart, z_intOf, z_neg, z_negK, z_rev, z_seqI, z_seqIK_l, z_seqIK_t, z_seqIK_a, z_add, z_addD_ii, z_addD_l, z_addD_t, z_addI, z_sub, z_mod, z_div, z_mul, z_lt, z_le, z_gt, z_ge, z_eq, z_ne, z_eqD_ii, z_isN, z_idxK, z_len_l, z_list_l, z_tuple_l, z_idx_l, z_cut_l, z_vrev_l, z_len_t, z_list_t, z_tuple_t, z_idx_t, z_cut_t, z_len_a, z_list_a, z_tuple_a, z_idx_a, z_cut_a, z_vrev_a, z_len_bo, z_list_bo, z_tuple_bo, z_idx_bo, z_cut_bo, z_vrev_bo, z_len_fr, z_list_fr, z_tuple_fr, z_idx_fr, z_cut_fr, z_vrev_fr, z_tupl, z_lis, z_lim, z_lc, R.bind_ok, R.bind_ex, R.bind_bad, toD_st, toD_fr, toDs_nil, toDs_cons, out_st, out_fr, out_bo, out_b2, z_d_st, z_d_bo, z_d_fr, z_lk_st, z_lk_bo, z_lk_fr, Bool.false_eq_true, D.isNon, begun, freezeAt, List.map_cons, List.map_nil, List.length_cons, List.length_nil, List.getElem?_cons_zero, List.getElem?_cons_succ, List.set_cons_zero, List.set_cons_succ, List.replicate_succ, List.replicate_zero, List.cons_append, List.nil_append, if_true, if_false, Nat.reduceAdd, Nat.reduceSub, Nat.reduceLeDiff, Nat.reduceLT, Nat.reduceEqDiff, decide_eq_true_eq, Bool.not_eq_true', decide_eq_false_iff_not, Int.reduceNeg, reduceIte, List.nil_append]
      obtain ⟨s2, e⟩ := ih (init ++ [w]) [] (.sh (.int (c : Int))) (by rw [List.length_append, List.length_cons, List.length_nil]; omega) (by rw [List.length_nil]; omega)
      refine ⟨s2, ?_⟩
      show (b_words_0 [.sh a, .sh (.tup (I [32, 9, 10, 13, 45, 95])), .o2 (NL (init ++ [w])), .sh (.int (c : Int)), .un]).bind _ = _
      rw [step, R.bind_ok, z_forK_nx, e]
      rw [splitW_cons, if_pos hs, List.append_assoc]
      show R.ok (Fl.nx, [Sl.sh a, Sl.sh (.tup (I [32, 9, 10, 13, 45, 95])), Sl.o2 (NL (init ++ (w :: (splitW cs).1 :: (splitW cs).2))), s2, Sl.un]) = R.ok (Fl.nx, [Sl.sh a, Sl.sh (.tup (I [32, 9, 10, 13, 45, 95])), Sl.o2 (NL (init ++ ((w ++ []) :: (splitW cs).1 :: (splitW cs).2))), s2, Sl.un])
      rw [List.append_nil]
    | false =>
      rw [hs] at hin2
      have step : b_words_0 [.sh a, .sh (.tup (I [32, 9, 10, 13, 45, 95])), .o2 (NL (init ++ [w])), .sh (.int (c : Int)), .un] = .ok (.nx, [.sh a, .sh (.tup (I [32, 9, 10, 13, 45, 95])), .o2 (NL (init ++ [w ++ [c]])), .sh (.int (c : Int)), .un]) := by
        have hat : atI (NL (init ++ [w])) (-1) = some (I w) := by
          unfold atI ixN NL
          rw [List.length_map, List.length_append, List.length_cons, List.length_nil, if_neg (by decide), if_pos (by omega)]
          show (List.map I (init ++ [w]))[(-1 + ((init.length + (0 + 1) : Nat) : Int)).toNat]? = _
          rw [show (-1 + ((init.length + (0 + 1) : Nat) : Int)).toNat = init.length by omega, List.getElem?_map, List.getElem?_append_right (Nat.le_refl _), Nat.sub_self]
          rfl
        have hl : (I w).length < 16777216 := by
          rw [ilen]
          omega
        have e2 : cInner 2 (cVar 3) [.sh a, .sh (.tup (I [32, 9, 10, 13, 45, 95])), .o2 (NL (init ++ [w])), .sh (.int (c : Int)), .un] = .ok (.nx, [.sh a, .sh (.tup (I [32, 9, 10, 13, 45, 95])), .o2 (NL (init ++ [w ++ [c]])), .sh (.int (c : Int)), .un]) := by
          unfold cInner
          simp only [hat, hl, z_bind_ite, z_seqK_nx, z_seqK_ret, z_seq, z_nx, z_if, z_ret, z_retN, z_freeze, z_set, z_own, z_ownK, z_aug, z_augK, z_append, z_appK, z_extend, z_exK, z_extK_fr, z_extK_bo, z_extK_l, z_extK_t, z_extK, z_asg, z_gnm, z_gtp, z_setAll1, z_setAll0, z_par, z_parK, z_drop, z_for, z_run, z_fin_nx, z_fin_ret, z_fin_ex, z_fin_ite, z_forK_nx, z_forK_ret, z_whK_nx, z_whK_ret, z_T, z_boolOf, z_andT, z_orT, z_notT, z_yes, z_var, z_varK_sh, z_varK_ow, z_varK_o2, z_lit, z_op, z_chain, z_ifE, z_andE, z_orE, z_notE, z_nil, z_cons, z_B, z_call, z_call0, z_res, z_calm, z_sl, z_part, z_nopart, z_intOf, z_neg, z_negK, z_rev, z_seqI, z_seqIK_l, z_seqIK_t, z_seqIK_a, z_add, z_addD_ii, z_addD_l, z_addD_t, z_addI, z_sub, z_mod, z_div, z_mul, z_lt, z_le, z_gt, z_ge, z_eq, z_ne, z_eqD_ii, z_isN, z_idxK, z_len_l, z_list_l, z_tuple_l, z_idx_l, z_cut_l, z_vrev_l, z_len_t, z_list_t, z_tuple_t, z_idx_t, z_cut_t, z_len_a, z_list_a, z_tuple_a, z_idx_a, z_cut_a, z_vrev_a, z_len_bo, z_list_bo, z_tuple_bo, z_idx_bo, z_cut_bo, z_vrev_bo, z_len_fr, z_list_fr, z_tuple_fr, z_idx_fr, z_cut_fr, z_vrev_fr, z_tupl, z_lis, z_lim, z_lc, R.bind_ok, R.bind_ex, R.bind_bad, toD_st, toD_fr, toDs_nil, toDs_cons, out_st, out_fr, out_bo, out_b2, z_d_st, z_d_bo, z_d_fr, z_lk_st, z_lk_bo, z_lk_fr, Bool.false_eq_true, D.isNon, begun, freezeAt, List.map_cons, List.map_nil, List.length_cons, List.length_nil, List.getElem?_cons_zero, List.getElem?_cons_succ, List.set_cons_zero, List.set_cons_succ, List.replicate_succ, List.replicate_zero, List.cons_append, List.nil_append, if_true, if_false, Nat.reduceAdd, Nat.reduceSub, Nat.reduceLeDiff, Nat.reduceLT, Nat.reduceEqDiff, decide_eq_true_eq, Bool.not_eq_true', decide_eq_false_iff_not, Int.reduceNeg, reduceIte, List.nil_append]
          congr 5
          unfold NL
          rw [List.length_map, List.length_append, List.length_cons, List.length_nil, List.map_append, List.map_append, List.set_append_right _ _ (by rw [List.length_map]; omega), List.length_map]
          rw [show init.length + (0 + 1) - 1 - init.length = 0 by omega]
          show Sl.o2 (List.map I init ++ [I w ++ [D.int (c : Int)]]) = Sl.o2 (List.map I init ++ [I (w ++ [c])])
          rw [iapp]
          rfl
        simp only [b_words_0, hin2, e2, z_bind_ite, z_seqK_nx, z_seqK_ret, z_seq, z_nx, z_if, z_ret, z_retN, z_freeze, z_set, z_own, z_ownK, z_aug, z_augK, z_append, z_appK, z_extend, z_exK, z_extK_fr, z_extK_bo, z_extK_l, z_extK_t, z_extK, z_asg, z_gnm, z_gtp, z_setAll1, z_setAll0, z_par, z_parK, z_drop, z_for, z_run, z_fin_nx, z_fin_ret, z_fin_ex, z_fin_ite, z_forK_nx, z_forK_ret, z_whK_nx, z_whK_ret, z_T, z_boolOf, z_andT, z_orT, z_notT, z_yes, z_var, z_varK_sh, z_varK_ow, z_varK_o2, z_lit, z_op, z_chain, z_ifE, z_andE, z_orE, z_notE, z_nil, z_cons, z_B, z_call, z_call0, z_res, z_calm, z_sl, z_part, z_nopart, z_intOf, z_neg, z_negK, z_rev, z_seqI, z_seqIK_l, z_seqIK_t, z_seqIK_a, z_add, z_addD_ii, z_addD_l, z_addD_t, z_addI, z_sub, z_mod, z_div, z_mul, z_lt, z_le, z_gt, z_ge, z_eq, z_ne, z_eqD_ii, z_isN, z_idxK, z_len_l, z_list_l, z_tuple_l, z_idx_l, z_cut_l, z_vrev_l, z_len_t, z_list_t, z_tuple_t, z_idx_t, z_cut_t, z_len_a, z_list_a, z_tuple_a, z_idx_a, z_cut_a, z_vrev_a, z_len_bo, z_list_bo, z_tuple_bo, z_idx_bo, z_cut_bo, z_vrev_bo, z_len_fr, z_list_fr, z_tuple_fr, z_idx_fr, z_cut_fr, z_vrev_fr, z_tupl, z_lis, z_lim, z_lc, R.bind_ok, R.bind_ex, R.bind_bad, toD_st, toD_fr, toDs_nil, toDs_cons, out_st, out_fr, out_bo, out_b2, z_d_st, z_d_bo, z_d_fr, z_lk_st, z_lk_bo, z_lk_fr, Bool.false_eq_true, D.isNon, begun, freezeAt, List.map_cons, List.map_nil, List.length_cons, List.length_nil, List.getElem?_cons_zero, List.getElem?_cons_succ, List.set_cons_zero, List.set_cons_succ, List.replicate_succ, List.replicate_zero, List.cons_append, List.nil_append, if_true, if_false, Nat.reduceAdd, Nat.reduceSub, Nat.reduceLeDiff, Nat.reduceLT, Nat.reduceEqDiff, decide_eq_true_eq, Bool.not_eq_true', decide_eq_false_iff_not, Int.reduceNeg, reduceIte, List.nil_append]
      obtain ⟨s2, e⟩ := ih init (w ++ [c]) (.sh (.int (c : Int))) (by omega) (by rw [List.length_append, List.length_cons, List.length_nil]; omega)
      refine ⟨s2, ?_⟩
      show (b_words_0 [.sh a, .sh (.tup (I [32, 9, 10, 13, 45, 95])), .o2 (NL (init ++ [w])), .sh (.int (c : Int)), .un]).bind _ = _
      rw [step, R.bind_ok, z_forK_nx, e]
      rw [splitW_cons, if_neg (by rw [hs]; exact Bool.false_ne_true), List.append_assoc]
      rfl
def wordsN (cs : List Nat) : List (List Nat) := ((splitW cs).1 :: (splitW cs).2).filter fun w => !w.isEmpty
theorem splitW_len : ∀ cs : List Nat, (splitW cs).2.length ≤ cs.length
  | [] => Nat.le_refl _
  | c :: r => by
    have := splitW_len r
    unfold splitW
    split
    · show (splitW r).2.length + 1 ≤ _
      rw [List.length_cons]
      omega
    · show (splitW r).2.length ≤ _
      rw [List.length_cons]
      omega
theorem emp_I (w : List Nat) : (I w).isEmpty = w.isEmpty := by
  cases w <;> rfl
theorem e_words (cs : List Nat) (h : cs.length + 2 < 16777216) : f_words [.tup (I cs), .tup (I [32, 9, 10, 13, 45, 95])] = .ok (.fr ((wordsN cs).map fun w => D.lst (I w))) := by
  obtain ⟨s2, e⟩ := wordsPair (.tup (I cs)) .non cs [] [] .un (by rw [List.length_nil]; omega) (by rw [List.length_nil]; omega)
  rw [List.nil_append, List.nil_append, List.nil_append] at e
  have key : lcL (gnm 4) t_words_1 e_words_1 [.sh (.tup (I cs)), .sh (.tup (I [32, 9, 10, 13, 45, 95])), .sh (.lst (((splitW cs).1 :: (splitW cs).2).map fun w => D.lst (I w))), s2, .un] (((splitW cs).1 :: (splitW cs).2).map fun w => D.lst (I w)) = .ok ((wordsN cs).map fun w => D.lst (I w)) :=
    lc_map (fun w => D.lst (I w)) (fun w => !w.isEmpty) (fun w => D.lst (I w)) _ fun w _ => by
      refine ⟨[.sh (.tup (I cs)), .sh (.tup (I [32, 9, 10, 13, 45, 95])), .sh (.lst (((splitW cs).1 :: (splitW cs).2).map fun w => D.lst (I w))), s2, .sh (.lst (I w))], rfl, ?_, fun _ => ⟨.st (.lst (I w)), rfl, rfl⟩⟩
      have e3 := eqD_nil (sh_I w) (by decide)
      simp only [t_words_1, e3, emp_I, Nat.zero_le, z_bind_ite, z_seqK_nx, z_seqK_ret, z_seq, z_nx, z_if, z_ret, z_retN, z_freeze, z_set, z_own, z_ownK, z_aug, z_augK, z_append, z_appK, z_extend, z_exK, z_extK_fr, z_extK_bo, z_extK_l, z_extK_t, z_extK, z_asg, z_gnm, z_gtp, z_setAll1, z_setAll0, z_par, z_parK, z_drop, z_for, z_run, z_fin_nx, z_fin_ret, z_fin_ex, z_fin_ite, z_forK_nx, z_forK_ret, z_whK_nx, z_whK_ret, z_T, z_boolOf, z_andT, z_orT, z_notT, z_yes, z_var, z_varK_sh, z_varK_ow, z_varK_o2, z_lit, z_op, z_chain, z_ifE, z_andE, z_orE, z_notE, z_nil, z_cons, z_B, z_call, z_call0, z_res, z_calm, z_sl, z_part, z_nopart, z_intOf, z_neg, z_negK, z_rev, z_seqI, z_seqIK_l, z_seqIK_t, z_seqIK_a, z_add, z_addD_ii, z_addD_l, z_addD_t, z_addI, z_sub, z_mod, z_div, z_mul, z_lt, z_le, z_gt, z_ge, z_eq, z_ne, z_eqD_ii, z_isN, z_idxK, z_len_l, z_list_l, z_tuple_l, z_idx_l, z_cut_l, z_vrev_l, z_len_t, z_list_t, z_tuple_t, z_idx_t, z_cut_t, z_len_a, z_list_a, z_tuple_a, z_idx_a, z_cut_a, z_vrev_a, z_len_bo, z_list_bo, z_tuple_bo, z_idx_bo, z_cut_bo, z_vrev_bo, z_len_fr, z_list_fr, z_tuple_fr, z_idx_fr, z_cut_fr, z_vrev_fr, z_tupl, z_lis, z_lim, z_lc, R.bind_ok, R.bind_ex, R.bind_bad, toD_st, toD_fr, toDs_nil, toDs_cons, out_st, out_fr, out_bo, out_b2, z_d_st, z_d_bo, z_d_fr, z_lk_st, z_lk_bo, z_lk_fr, Bool.false_eq_true, D.isNon, begun, freezeAt, List.map_cons, List.map_nil, List.length_cons, List.length_nil, List.getElem?_cons_zero, List.getElem?_cons_succ, List.set_cons_zero, List.set_cons_succ, List.replicate_succ, List.replicate_zero, List.cons_append, List.nil_append, if_true, if_false, Nat.reduceAdd, Nat.reduceSub, Nat.reduceLeDiff, Nat.reduceLT, Nat.reduceEqDiff, decide_eq_true_eq, Bool.not_eq_true', decide_eq_false_iff_not, Int.reduceNeg, reduceIte, List.nil_append]
  have hw : wipeG [Sl.sh (.tup (I cs)), .sh (.tup (I [32, 9, 10, 13, 45, 95])), .sh (.lst (((splitW cs).1 :: (splitW cs).2).map fun w => D.lst (I w))), s2, .un] [4] = [Sl.sh (.tup (I cs)), .sh (.tup (I [32, 9, 10, 13, 45, 95])), .sh (.lst (((splitW cs).1 :: (splitW cs).2).map fun w => D.lst (I w))), s2, .un] := rfl
  have hz : (((splitW cs).1 :: (splitW cs).2).map fun w => D.lst (I w)).length ≤ 16777216 := by
    have := splitW_len cs
    rw [List.length_map, List.length_cons]
    omega
  have e0 : cNew1 2 [Sl.sh (.tup (I cs)), .sh (.tup (I [32, 9, 10, 13, 45, 95])), .un, .un, .un] = .ok (.nx, [Sl.sh (.tup (I cs)), .sh (.tup (I [32, 9, 10, 13, 45, 95])), .o2 (NL [[]]), .un, .un]) := rfl
  have em : (NL ((splitW cs).1 :: (splitW cs).2)).map D.lst = ((splitW cs).1 :: (splitW cs).2).map fun w => D.lst (I w) := by
    unfold NL
    rw [List.map_map]
    rfl
  have ef : freezeAt 2 [Sl.sh (.tup (I cs)), .sh (.tup (I [32, 9, 10, 13, 45, 95])), .o2 (NL ((splitW cs).1 :: (splitW cs).2)), s2, .un] = [Sl.sh (.tup (I cs)), .sh (.tup (I [32, 9, 10, 13, 45, 95])), .sh (.lst (((splitW cs).1 :: (splitW cs).2).map fun w => D.lst (I w))), s2, .un] := by
    rw [← em]
    rfl
  generalize ((splitW cs).1 :: (splitW cs).2).map (fun w => D.lst (I w)) = L at key hw hz ef
  generalize NL ((splitW cs).1 :: (splitW cs).2) = M at e ef
  generalize (wordsN cs).map (fun w => D.lst (I w)) = O at key
  have e9 : cFor (cSeqI (cVar 0)) (gnm 3) b_words_0 [Sl.sh (.tup (I cs)), .sh (.tup (I [32, 9, 10, 13, 45, 95])), .o2 (NL [[]]), .un, .un] = .ok (.nx, [.sh (.tup (I cs)), .sh (.tup (I [32, 9, 10, 13, 45, 95])), .o2 M, s2, .un]) := by
    simp only [z_for, z_seqI, z_var, z_varK_sh, List.getElem?_cons_zero, R.bind_ok, toD_st, z_seqIK_t]
    exact e
  unfold f_words c_words
  rw [z_run]
  show fin (cSeq (cNew1 2) _ [Sl.sh (.tup (I cs)), .sh (.tup (I [32, 9, 10, 13, 45, 95])), .un, .un, .un]) = _
  rw [z_seq, e0, R.bind_ok, z_seqK_nx, z_seq, e9, R.bind_ok, z_seqK_nx, z_freeze, ef, z_ret, z_lc, z_seqI, z_var]
  simp only [List.getElem?_cons_zero, List.getElem?_cons_succ, z_varK_sh, R.bind_ok, toD_st, z_seqIK_l, hw, key, z_lcK hz, z_fin_ret, out_fr]
def sign (c : Nat) : List Nat := if 65 ≤ c ∧ c ≤ 90 then [c + 32] else if (97 ≤ c ∧ c ≤ 122) ∨ (48 ≤ c ∧ c ≤ 57) then [c] else []
theorem e_slug_sign (c : Nat) : f_slug_sign [.int (c : Int)] = .ok (.fr (I (sign c))) := by
  have h1 : (1 : Nat) ≤ 16777216 := by omega
  simp only [f_slug_sign, c_slug_sign, h1, Nat.zero_le, z_bind_ite, z_seqK_nx, z_seqK_ret, z_seq, z_nx, z_if, z_ret, z_retN, z_freeze, z_set, z_own, z_ownK, z_aug, z_augK, z_append, z_appK, z_extend, z_exK, z_extK_fr, z_extK_bo, z_extK_l, z_extK_t, z_extK, z_asg, z_gnm, z_gtp, z_setAll1, z_setAll0, z_par, z_parK, z_drop, z_for, z_run, z_fin_nx, z_fin_ret, z_fin_ex, z_fin_ite, z_forK_nx, z_forK_ret, z_whK_nx, z_whK_ret, z_T, z_boolOf, z_andT, z_orT, z_notT, z_yes, z_var, z_varK_sh, z_varK_ow, z_varK_o2, z_lit, z_op, z_chain, z_ifE, z_andE, z_orE, z_notE, z_nil, z_cons, z_B, z_call, z_call0, z_res, z_calm, z_sl, z_part, z_nopart, z_intOf, z_neg, z_negK, z_rev, z_seqI, z_seqIK_l, z_seqIK_t, z_seqIK_a, z_add, z_addD_ii, z_addD_l, z_addD_t, z_addI, z_sub, z_mod, z_div, z_mul, z_lt, z_le, z_gt, z_ge, z_eq, z_ne, z_eqD_ii, z_isN, z_idxK, z_len_l, z_list_l, z_tuple_l, z_idx_l, z_cut_l, z_vrev_l, z_len_t, z_list_t, z_tuple_t, z_idx_t, z_cut_t, z_len_a, z_list_a, z_tuple_a, z_idx_a, z_cut_a, z_vrev_a, z_len_bo, z_list_bo, z_tuple_bo, z_idx_bo, z_cut_bo, z_vrev_bo, z_len_fr, z_list_fr, z_tuple_fr, z_idx_fr, z_cut_fr, z_vrev_fr, z_tupl, z_lis, z_lim, z_lc, R.bind_ok, R.bind_ex, R.bind_bad, toD_st, toD_fr, toDs_nil, toDs_cons, out_st, out_fr, out_bo, out_b2, z_d_st, z_d_bo, z_d_fr, z_lk_st, z_lk_bo, z_lk_fr, Bool.false_eq_true, D.isNon, begun, freezeAt, List.map_cons, List.map_nil, List.length_cons, List.length_nil, List.getElem?_cons_zero, List.getElem?_cons_succ, List.set_cons_zero, List.set_cons_succ, List.replicate_succ, List.replicate_zero, List.cons_append, List.nil_append, if_true, if_false, Nat.reduceAdd, Nat.reduceSub, Nat.reduceLeDiff, Nat.reduceLT, Nat.reduceEqDiff, decide_eq_true_eq, Bool.not_eq_true', decide_eq_false_iff_not, Int.reduceNeg, reduceIte, List.nil_append]
  unfold sign
  repeat' split
  all_goals first | rfl | omega
theorem sign_le (c : Nat) : (sign c).length ≤ 1 := by
  unfold sign
  repeat' split
  all_goals simp
theorem l_slug_word (g : D) : ∀ (cs found : List Nat) (s : Sl), found.length + cs.length ≤ 16777216 → ∃ s2, forL (gnm 2) b_slug_word_0 (I cs) [.sh g, .ow (I found), s] = .ok (.nx, [.sh g, .ow (I (found ++ cs.flatMap sign)), s2])
  | [], found, s, _ => ⟨s, by rw [inil, z_for_nil, List.flatMap_nil, List.append_nil]⟩
  | c :: cs, found, s, h => by
    rw [List.length_cons] at h
    have h1 := sign_le c
    obtain ⟨s2, ih⟩ := l_slug_word g cs (found ++ sign c) (.sh (.int (c : Int))) (by rw [List.length_append]; omega)
    refine ⟨s2, ?_⟩
    have hz : found.length + (sign c).length ≤ 16777216 := by omega
    have step : b_slug_word_0 [.sh g, .ow (I found), .sh (.int (c : Int))] = .ok (.nx, [.sh g, .ow (I (found ++ sign c)), .sh (.int (c : Int))]) := by
      simp only [b_slug_word_0, e_slug_sign, ilen, hz, z_bind_ite, z_seqK_nx, z_seqK_ret, z_seq, z_nx, z_if, z_ret, z_retN, z_freeze, z_set, z_own, z_ownK, z_aug, z_augK, z_append, z_appK, z_extend, z_exK, z_extK_fr, z_extK_bo, z_extK_l, z_extK_t, z_extK, z_asg, z_gnm, z_gtp, z_setAll1, z_setAll0, z_par, z_parK, z_drop, z_for, z_run, z_fin_nx, z_fin_ret, z_fin_ex, z_fin_ite, z_forK_nx, z_forK_ret, z_whK_nx, z_whK_ret, z_T, z_boolOf, z_andT, z_orT, z_notT, z_yes, z_var, z_varK_sh, z_varK_ow, z_varK_o2, z_lit, z_op, z_chain, z_ifE, z_andE, z_orE, z_notE, z_nil, z_cons, z_B, z_call, z_call0, z_res, z_calm, z_sl, z_part, z_nopart, z_intOf, z_neg, z_negK, z_rev, z_seqI, z_seqIK_l, z_seqIK_t, z_seqIK_a, z_add, z_addD_ii, z_addD_l, z_addD_t, z_addI, z_sub, z_mod, z_div, z_mul, z_lt, z_le, z_gt, z_ge, z_eq, z_ne, z_eqD_ii, z_isN, z_idxK, z_len_l, z_list_l, z_tuple_l, z_idx_l, z_cut_l, z_vrev_l, z_len_t, z_list_t, z_tuple_t, z_idx_t, z_cut_t, z_len_a, z_list_a, z_tuple_a, z_idx_a, z_cut_a, z_vrev_a, z_len_bo, z_list_bo, z_tuple_bo, z_idx_bo, z_cut_bo, z_vrev_bo, z_len_fr, z_list_fr, z_tuple_fr, z_idx_fr, z_cut_fr, z_vrev_fr, z_tupl, z_lis, z_lim, z_lc, R.bind_ok, R.bind_ex, R.bind_bad, toD_st, toD_fr, toDs_nil, toDs_cons, out_st, out_fr, out_bo, out_b2, z_d_st, z_d_bo, z_d_fr, z_lk_st, z_lk_bo, z_lk_fr, Bool.false_eq_true, D.isNon, begun, freezeAt, List.map_cons, List.map_nil, List.length_cons, List.length_nil, List.getElem?_cons_zero, List.getElem?_cons_succ, List.set_cons_zero, List.set_cons_succ, List.replicate_succ, List.replicate_zero, List.cons_append, List.nil_append, if_true, if_false, Nat.reduceAdd, Nat.reduceSub, Nat.reduceLeDiff, Nat.reduceLT, Nat.reduceEqDiff, decide_eq_true_eq, Bool.not_eq_true', decide_eq_false_iff_not, Int.reduceNeg, reduceIte, List.nil_append]
      rw [iapp]
    rw [icons, z_for_cons, z_gnm, R.bind_ok]
    show (b_slug_word_0 [.sh g, .ow (I found), .sh (.int (c : Int))]).bind _ = _
    rw [step, R.bind_ok, z_forK_nx, ih, List.append_assoc, List.flatMap_cons]
theorem e_slug_word (w : List Nat) (h : w.length ≤ 16777216) : f_slug_word [.lst (I w)] = .ok (.fr (I (w.flatMap sign))) := by
  obtain ⟨s2, e⟩ := l_slug_word (.lst (I w)) w [] .un (by simpa using h)
  rw [inil, List.nil_append] at e
  simp only [f_slug_word, c_slug_word, Nat.zero_le, e, z_bind_ite, z_seqK_nx, z_seqK_ret, z_seq, z_nx, z_if, z_ret, z_retN, z_freeze, z_set, z_own, z_ownK, z_aug, z_augK, z_append, z_appK, z_extend, z_exK, z_extK_fr, z_extK_bo, z_extK_l, z_extK_t, z_extK, z_asg, z_gnm, z_gtp, z_setAll1, z_setAll0, z_par, z_parK, z_drop, z_for, z_run, z_fin_nx, z_fin_ret, z_fin_ex, z_fin_ite, z_forK_nx, z_forK_ret, z_whK_nx, z_whK_ret, z_T, z_boolOf, z_andT, z_orT, z_notT, z_yes, z_var, z_varK_sh, z_varK_ow, z_varK_o2, z_lit, z_op, z_chain, z_ifE, z_andE, z_orE, z_notE, z_nil, z_cons, z_B, z_call, z_call0, z_res, z_calm, z_sl, z_part, z_nopart, z_intOf, z_neg, z_negK, z_rev, z_seqI, z_seqIK_l, z_seqIK_t, z_seqIK_a, z_add, z_addD_ii, z_addD_l, z_addD_t, z_addI, z_sub, z_mod, z_div, z_mul, z_lt, z_le, z_gt, z_ge, z_eq, z_ne, z_eqD_ii, z_isN, z_idxK, z_len_l, z_list_l, z_tuple_l, z_idx_l, z_cut_l, z_vrev_l, z_len_t, z_list_t, z_tuple_t, z_idx_t, z_cut_t, z_len_a, z_list_a, z_tuple_a, z_idx_a, z_cut_a, z_vrev_a, z_len_bo, z_list_bo, z_tuple_bo, z_idx_bo, z_cut_bo, z_vrev_bo, z_len_fr, z_list_fr, z_tuple_fr, z_idx_fr, z_cut_fr, z_vrev_fr, z_tupl, z_lis, z_lim, z_lc, R.bind_ok, R.bind_ex, R.bind_bad, toD_st, toD_fr, toDs_nil, toDs_cons, out_st, out_fr, out_bo, out_b2, z_d_st, z_d_bo, z_d_fr, z_lk_st, z_lk_bo, z_lk_fr, Bool.false_eq_true, D.isNon, begun, freezeAt, List.map_cons, List.map_nil, List.length_cons, List.length_nil, List.getElem?_cons_zero, List.getElem?_cons_succ, List.set_cons_zero, List.set_cons_succ, List.replicate_succ, List.replicate_zero, List.cons_append, List.nil_append, if_true, if_false, Nat.reduceAdd, Nat.reduceSub, Nat.reduceLeDiff, Nat.reduceLT, Nat.reduceEqDiff, decide_eq_true_eq, Bool.not_eq_true', decide_eq_false_iff_not, Int.reduceNeg, reduceIte, List.nil_append]
/-- words joined -/
def addW (found : List Nat) (letters : List Nat) : List Nat := if letters.isEmpty then found else found ++ (if found.isEmpty then [] else [45]) ++ letters
theorem flat_le : ∀ w : List Nat, (w.flatMap sign).length ≤ w.length
  | [] => Nat.le_refl _
  | c :: w => by
    have h1 := sign_le c
    have h2 := flat_le w
    rw [List.flatMap_cons, List.length_append, List.length_cons]
    omega
def total : List (List Nat) → Nat
  | [] => 0
  | w :: ws => w.length + 1 + total ws
theorem l_slug_of (g : D) : ∀ (ws : List (List Nat)) (found : List Nat) (s s' : Sl), found.length + total ws ≤ 16777216 → ∃ s2 s3, forL (gnm 2) b_slug_of_0 (ws.map fun w => D.lst (I w)) [.sh g, .ow (I found), s, s'] = .ok (.nx, [.sh g, .ow (I (ws.foldl (fun f w => addW f (w.flatMap sign)) found)), s2, s3])
  | [], found, s, s', _ => ⟨s, s', by rw [List.map_nil, z_for_nil, List.foldl_nil]⟩
  | w :: ws, found, s, s', h => by
    unfold total at h
    have hf := flat_le w
    have hadd : (addW found (w.flatMap sign)).length ≤ found.length + w.length + 1 := by
      unfold addW
      split
      · omega
      · split
        · rw [List.length_append, List.append_nil]
          omega
        · rw [List.length_append, List.length_append, List.length_cons, List.length_nil]
          omega
    obtain ⟨s2, s3, ih⟩ := l_slug_of g ws (addW found (w.flatMap sign)) (.sh (.lst (I w))) (.sh (.lst (I (w.flatMap sign)))) (by omega)
    refine ⟨s2, s3, ?_⟩
    have e1 := e_slug_word w (by omega)
    have e2 := eqD_nil (sh_I (w.flatMap sign)) (by decide)
    have e3 := eqD_nil (sh_I found) (by decide)
    have hc : (1 : Nat) ≤ 16777216 := by omega
    have step : b_slug_of_0 [.sh g, .ow (I found), .sh (.lst (I w)), s'] = .ok (.nx, [.sh g, .ow (I (addW found (w.flatMap sign))), .sh (.lst (I w)), .sh (.lst (I (w.flatMap sign)))]) := by
      unfold addW
      cases he : (w.flatMap sign).isEmpty with
      | true =>
        simp only [b_slug_of_0, e1, e2, emp_I, he, Nat.zero_le, Bool.not_true, z_bind_ite, z_seqK_nx, z_seqK_ret, z_seq, z_nx, z_if, z_ret, z_retN, z_freeze, z_set, z_own, z_ownK, z_aug, z_augK, z_append, z_appK, z_extend, z_exK, z_extK_fr, z_extK_bo, z_extK_l, z_extK_t, z_extK, z_asg, z_gnm, z_gtp, z_setAll1, z_setAll0, z_par, z_parK, z_drop, z_for, z_run, z_fin_nx, z_fin_ret, z_fin_ex, z_fin_ite, z_forK_nx, z_forK_ret, z_whK_nx, z_whK_ret, z_T, z_boolOf, z_andT, z_orT, z_notT, z_yes, z_var, z_varK_sh, z_varK_ow, z_varK_o2, z_lit, z_op, z_chain, z_ifE, z_andE, z_orE, z_notE, z_nil, z_cons, z_B, z_call, z_call0, z_res, z_calm, z_sl, z_part, z_nopart, z_intOf, z_neg, z_negK, z_rev, z_seqI, z_seqIK_l, z_seqIK_t, z_seqIK_a, z_add, z_addD_ii, z_addD_l, z_addD_t, z_addI, z_sub, z_mod, z_div, z_mul, z_lt, z_le, z_gt, z_ge, z_eq, z_ne, z_eqD_ii, z_isN, z_idxK, z_len_l, z_list_l, z_tuple_l, z_idx_l, z_cut_l, z_vrev_l, z_len_t, z_list_t, z_tuple_t, z_idx_t, z_cut_t, z_len_a, z_list_a, z_tuple_a, z_idx_a, z_cut_a, z_vrev_a, z_len_bo, z_list_bo, z_tuple_bo, z_idx_bo, z_cut_bo, z_vrev_bo, z_len_fr, z_list_fr, z_tuple_fr, z_idx_fr, z_cut_fr, z_vrev_fr, z_tupl, z_lis, z_lim, z_lc, R.bind_ok, R.bind_ex, R.bind_bad, toD_st, toD_fr, toDs_nil, toDs_cons, out_st, out_fr, out_bo, out_b2, z_d_st, z_d_bo, z_d_fr, z_lk_st, z_lk_bo, z_lk_fr, Bool.false_eq_true, D.isNon, begun, freezeAt, List.map_cons, List.map_nil, List.length_cons, List.length_nil, List.getElem?_cons_zero, List.getElem?_cons_succ, List.set_cons_zero, List.set_cons_succ, List.replicate_succ, List.replicate_zero, List.cons_append, List.nil_append, if_true, if_false, Nat.reduceAdd, Nat.reduceSub, Nat.reduceLeDiff, Nat.reduceLT, Nat.reduceEqDiff, decide_eq_true_eq, Bool.not_eq_true', decide_eq_false_iff_not, Int.reduceNeg, reduceIte, List.nil_append]
      | false =>
        cases hg : found.isEmpty with
        | true =>
          have hz : found.length + (w.flatMap sign).length ≤ 16777216 := by omega
          have hz0 : found.length ≤ 16777216 := by omega
          simp only [b_slug_of_0, e1, e2, e3, emp_I, he, hg, Nat.zero_le, Bool.not_true, Bool.not_false, d_HYPHEN, ilen, Nat.add_zero, hz, hz0, List.append_nil, iapp, z_bind_ite, z_seqK_nx, z_seqK_ret, z_seq, z_nx, z_if, z_ret, z_retN, z_freeze, z_set, z_own, z_ownK, z_aug, z_augK, z_append, z_appK, z_extend, z_exK, z_extK_fr, z_extK_bo, z_extK_l, z_extK_t, z_extK, z_asg, z_gnm, z_gtp, z_setAll1, z_setAll0, z_par, z_parK, z_drop, z_for, z_run, z_fin_nx, z_fin_ret, z_fin_ex, z_fin_ite, z_forK_nx, z_forK_ret, z_whK_nx, z_whK_ret, z_T, z_boolOf, z_andT, z_orT, z_notT, z_yes, z_var, z_varK_sh, z_varK_ow, z_varK_o2, z_lit, z_op, z_chain, z_ifE, z_andE, z_orE, z_notE, z_nil, z_cons, z_B, z_call, z_call0, z_res, z_calm, z_sl, z_part, z_nopart, z_intOf, z_neg, z_negK, z_rev, z_seqI, z_seqIK_l, z_seqIK_t, z_seqIK_a, z_add, z_addD_ii, z_addD_l, z_addD_t, z_addI, z_sub, z_mod, z_div, z_mul, z_lt, z_le, z_gt, z_ge, z_eq, z_ne, z_eqD_ii, z_isN, z_idxK, z_len_l, z_list_l, z_tuple_l, z_idx_l, z_cut_l, z_vrev_l, z_len_t, z_list_t, z_tuple_t, z_idx_t, z_cut_t, z_len_a, z_list_a, z_tuple_a, z_idx_a, z_cut_a, z_vrev_a, z_len_bo, z_list_bo, z_tuple_bo, z_idx_bo, z_cut_bo, z_vrev_bo, z_len_fr, z_list_fr, z_tuple_fr, z_idx_fr, z_cut_fr, z_vrev_fr, z_tupl, z_lis, z_lim, z_lc, R.bind_ok, R.bind_ex, R.bind_bad, toD_st, toD_fr, toDs_nil, toDs_cons, out_st, out_fr, out_bo, out_b2, z_d_st, z_d_bo, z_d_fr, z_lk_st, z_lk_bo, z_lk_fr, Bool.false_eq_true, D.isNon, begun, freezeAt, List.map_cons, List.map_nil, List.length_cons, List.length_nil, List.getElem?_cons_zero, List.getElem?_cons_succ, List.set_cons_zero, List.set_cons_succ, List.replicate_succ, List.replicate_zero, List.cons_append, List.nil_append, if_true, if_false, Nat.reduceAdd, Nat.reduceSub, Nat.reduceLeDiff, Nat.reduceLT, Nat.reduceEqDiff, decide_eq_true_eq, Bool.not_eq_true', decide_eq_false_iff_not, Int.reduceNeg, reduceIte, List.nil_append]
        | false =>
          have hz : found.length + 1 + (w.flatMap sign).length ≤ 16777216 := by omega
          have hz0 : found.length + 1 ≤ 16777216 := by omega
          simp only [b_slug_of_0, e1, e2, e3, emp_I, he, hg, Nat.zero_le, Bool.not_true, Bool.not_false, d_HYPHEN, ilen, hc, hz, hz0, List.length_append, iapp, z_bind_ite, z_seqK_nx, z_seqK_ret, z_seq, z_nx, z_if, z_ret, z_retN, z_freeze, z_set, z_own, z_ownK, z_aug, z_augK, z_append, z_appK, z_extend, z_exK, z_extK_fr, z_extK_bo, z_extK_l, z_extK_t, z_extK, z_asg, z_gnm, z_gtp, z_setAll1, z_setAll0, z_par, z_parK, z_drop, z_for, z_run, z_fin_nx, z_fin_ret, z_fin_ex, z_fin_ite, z_forK_nx, z_forK_ret, z_whK_nx, z_whK_ret, z_T, z_boolOf, z_andT, z_orT, z_notT, z_yes, z_var, z_varK_sh, z_varK_ow, z_varK_o2, z_lit, z_op, z_chain, z_ifE, z_andE, z_orE, z_notE, z_nil, z_cons, z_B, z_call, z_call0, z_res, z_calm, z_sl, z_part, z_nopart, z_intOf, z_neg, z_negK, z_rev, z_seqI, z_seqIK_l, z_seqIK_t, z_seqIK_a, z_add, z_addD_ii, z_addD_l, z_addD_t, z_addI, z_sub, z_mod, z_div, z_mul, z_lt, z_le, z_gt, z_ge, z_eq, z_ne, z_eqD_ii, z_isN, z_idxK, z_len_l, z_list_l, z_tuple_l, z_idx_l, z_cut_l, z_vrev_l, z_len_t, z_list_t, z_tuple_t, z_idx_t, z_cut_t, z_len_a, z_list_a, z_tuple_a, z_idx_a, z_cut_a, z_vrev_a, z_len_bo, z_list_bo, z_tuple_bo, z_idx_bo, z_cut_bo, z_vrev_bo, z_len_fr, z_list_fr, z_tuple_fr, z_idx_fr, z_cut_fr, z_vrev_fr, z_tupl, z_lis, z_lim, z_lc, R.bind_ok, R.bind_ex, R.bind_bad, toD_st, toD_fr, toDs_nil, toDs_cons, out_st, out_fr, out_bo, out_b2, z_d_st, z_d_bo, z_d_fr, z_lk_st, z_lk_bo, z_lk_fr, Bool.false_eq_true, D.isNon, begun, freezeAt, List.map_cons, List.map_nil, List.length_cons, List.length_nil, List.getElem?_cons_zero, List.getElem?_cons_succ, List.set_cons_zero, List.set_cons_succ, List.replicate_succ, List.replicate_zero, List.cons_append, List.nil_append, if_true, if_false, Nat.reduceAdd, Nat.reduceSub, Nat.reduceLeDiff, Nat.reduceLT, Nat.reduceEqDiff, decide_eq_true_eq, Bool.not_eq_true', decide_eq_false_iff_not, Int.reduceNeg, reduceIte, List.nil_append]
          rfl
    rw [List.map_cons, z_for_cons, z_gnm, R.bind_ok]
    show (b_slug_of_0 [.sh g, .ow (I found), .sh (.lst (I w)), s']).bind _ = _
    rw [step, R.bind_ok, z_forK_nx, ih, List.foldl_cons]
/-! the specification's words -/
theorem lower_sign (c : Nat) : (if isLower (lowerCase c) || Kh450.isDigit c then [lowerCase c] else []) = sign c := by
  have hb : ∀ x : Nat, (isLower x || Kh450.isDigit c) = true ↔ (97 ≤ x ∧ x ≤ 122) ∨ (48 ≤ c ∧ c ≤ 57) := fun x => by
    unfold isLower Kh450.isDigit
    rw [Bool.or_eq_true, Bool.and_eq_true, Bool.and_eq_true, decide_eq_true_eq, decide_eq_true_eq, decide_eq_true_eq, decide_eq_true_eq]
  unfold sign
  by_cases h : 65 ≤ c ∧ c ≤ 90
  · have e : lowerCase c = c + 32 := by
      unfold lowerCase isUpper
      rw [if_pos]
      rw [Bool.and_eq_true, decide_eq_true_eq, decide_eq_true_eq]
      exact h
    rw [e, if_pos h, if_pos ((hb _).mpr (by omega))]
  · have e : lowerCase c = c := by
      unfold lowerCase isUpper
      rw [if_neg]
      rw [Bool.and_eq_true, decide_eq_true_eq, decide_eq_true_eq]
      exact h
    rw [e, if_neg h]
    by_cases h2 : (97 ≤ c ∧ c ≤ 122) ∨ (48 ≤ c ∧ c ≤ 57)
    · rw [if_pos h2, if_pos ((hb _).mpr h2)]
    · rw [if_neg h2, if_neg fun z => h2 ((hb _).mp z)]
theorem sep_eq (c : Nat) : (isWhite c || c == 45 || c == 95) = isSep c := by
  unfold isSep isWhite
  simp only [List.contains_cons, List.contains_nil, Bool.or_false, Bool.or_assoc]
theorem sep_no (c : Nat) (h : isSep c = true) : sign c = [] := by
  unfold isSep at h
  have h2 : c = 32 ∨ c = 9 ∨ c = 10 ∨ c = 13 ∨ c = 45 ∨ c = 95 := by simpa using h
  unfold sign
  rw [if_neg (by omega), if_neg (by omega)]
theorem slugWords_eq : ∀ cs : List Nat, slugWords cs = (splitW cs).1.flatMap sign :: (splitW cs).2.map fun w => w.flatMap sign
  | [] => rfl
  | c :: r => by
    have ih := slugWords_eq r
    unfold slugWords
    rw [ih]
    dsimp only
    have hl := lower_sign c
    rw [splitW_cons]
    by_cases h1 : (isLower (lowerCase c) || Kh450.isDigit c) = true
    · rw [if_pos h1] at hl ⊢
      have hn : ¬ isSep c = true := fun z => by
        rw [sep_no c z] at hl
        cases hl
      rw [if_neg hn]
      show _ = (c :: (splitW r).1).flatMap sign :: _
      rw [List.flatMap_cons, ← hl]
      rfl
    · rw [if_neg h1] at hl ⊢
      rw [sep_eq]
      by_cases h2 : isSep c = true
      · rw [if_pos h2, if_pos h2]
        rfl
      · rw [if_neg h2, if_neg h2]
        show _ = (c :: (splitW r).1).flatMap sign :: _
        rw [List.flatMap_cons, ← hl]
        rfl
theorem foldW : ∀ (ws : List (List Nat)) (found : List Nat), ws.foldl (fun f w => addW f (w.flatMap sign)) found = (if found.isEmpty then joinTexts [45] ((ws.map fun w => w.flatMap sign).filter fun w => !w.isEmpty) else match (ws.map fun w => w.flatMap sign).filter fun w => !w.isEmpty with
    | [] => found
    | l => found ++ [45] ++ joinTexts [45] l)
  | [], found => by
    cases found <;> rfl
  | w :: ws, found => by
    rw [List.foldl_cons, foldW ws, List.map_cons, List.filter_cons]
    unfold addW
    cases he : (w.flatMap sign).isEmpty with
    | true => rfl
    | false =>
      have hn : w.flatMap sign ≠ [] := fun z => by
        rw [z] at he
        cases he
      simp only [Bool.not_false, if_true, Bool.false_eq_true, if_false]
      cases hg : found.isEmpty with
      | true =>
        have e : found = [] := List.isEmpty_iff.mp hg
        subst e
        simp only [if_true, List.nil_append]
        rw [he]
        simp only [Bool.false_eq_true, if_false]
        cases hf : (ws.map fun w => w.flatMap sign).filter fun w => !w.isEmpty with
        | nil => rfl
        | cons x xs => rfl
      | false =>
        have e : (found ++ [45] ++ w.flatMap sign).isEmpty = false := by
          cases found <;> rfl
        simp only [Bool.false_eq_true, if_false]
        rw [e]
        simp only [Bool.false_eq_true, if_false]
        cases hf : (ws.map fun w => w.flatMap sign).filter fun w => !w.isEmpty with
        | nil => rfl
        | cons x xs =>
          show found ++ [45] ++ w.flatMap sign ++ [45] ++ joinTexts [45] (x :: xs) = found ++ [45] ++ (w.flatMap sign ++ [45] ++ joinTexts [45] (x :: xs))
          simp only [List.append_assoc]
/-- a word without letters counts for nothing -/
theorem fold_skip : ∀ (ws : List (List Nat)) (found : List Nat), (ws.filter fun w => !w.isEmpty).foldl (fun f w => addW f (w.flatMap sign)) found = ws.foldl (fun f w => addW f (w.flatMap sign)) found
  | [], _ => rfl
  | w :: ws, found => by
    rw [List.filter_cons]
    cases he : w.isEmpty with
    | true =>
      have e : w = [] := List.isEmpty_iff.mp he
      subst e
      exact fold_skip ws found
    | false => exact fold_skip ws _
theorem total_split : ∀ cs : List Nat, (splitW cs).1.length + 1 + total (splitW cs).2 = cs.length + 1
  | [] => rfl
  | c :: r => by
    have ih := total_split r
    rw [splitW_cons]
    split
    · show 0 + 1 + ((splitW r).1.length + 1 + total (splitW r).2) = _
      rw [List.length_cons]
      omega
    · show (splitW r).1.length + 1 + 1 + total (splitW r).2 = _
      rw [List.length_cons]
      omega
theorem total_filter : ∀ ws : List (List Nat), total (ws.filter fun w => !w.isEmpty) ≤ total ws
  | [] => Nat.le_refl _
  | w :: ws => by
    have ih := total_filter ws
    rw [List.filter_cons]
    split
    · show w.length + 1 + _ ≤ w.length + 1 + _
      omega
    · show _ ≤ w.length + 1 + _
      omega
theorem slug_len (cs : List Nat) : (Kh450.slug cs).length ≤ 30 := by
  unfold Kh450.slug
  dsimp only
  split
  · decide
  · rw [List.length_take]
    omega
theorem cps_section : (PySem.Str.ofString "section").cps.toList = codesOf "section" := by decide +kernel
theorem e_slug_of (cs : List Nat) (h : cs.length < 1000000) : f_slug_of [.tup (I cs)] = .ok (.st (.tup (I (Kh450.slug cs)))) := by
  have e1 := e_words cs (by omega)
  have ht : total (wordsN cs) ≤ cs.length + 1 := by
    have h1 := total_split cs
    have h2 := total_filter ((splitW cs).1 :: (splitW cs).2)
    unfold wordsN
    have h3 : total ((splitW cs).1 :: (splitW cs).2) = (splitW cs).1.length + 1 + total (splitW cs).2 := rfl
    omega
  obtain ⟨s2, s3, e2⟩ := l_slug_of (.tup (I cs)) (wordsN cs) [] .un .un (by rw [List.length_nil]; omega)
  have ef : (wordsN cs).foldl (fun f w => addW f (w.flatMap sign)) [] = joinTexts [45] ((slugWords cs).filter fun w => !w.isEmpty) := by
    unfold wordsN
    rw [fold_skip, foldW, slugWords_eq]
    rfl
  rw [inil, ef] at e2
  unfold Kh450.slug
  dsimp only
  generalize joinTexts [45] ((slugWords cs).filter fun w => !w.isEmpty) = J at e2
  have e3 := eqD_nil (sh_I J) (by decide)
  have hsep : addD d_WHITE (.tup [.int 45, .int 95]) = .ok (.st (.tup (I [32, 9, 10, 13, 45, 95]))) := z_addD_t _ _ (by decide)
  have c2 : (2 : Nat) ≤ 16777216 := by omega
  have hc : f_codes_of [.str "section"] = .ok (.st (.tup (I (codesOf "section")))) := by
    rw [e_codes_of _ (by rw [show (("section" : PySem.Str)).cps.toList = codesOf "section" from cps_section]; decide)]
    rw [show (("section" : PySem.Str)).cps.toList = codesOf "section" from cps_section]
  have hcut : BT.cutD (I J) none (some 30) = I (J.take 30) := by
    rw [show (some 30 : Option Int) = some ((30 : Nat) : Int) from rfl, cut_0n, itake]
  have hj : (J.take 30).isEmpty = J.isEmpty := by
    cases J <;> rfl
  rw [hj]
  cases hb : J.isEmpty with
  | true =>
    simp only [f_slug_of, c_slug_of, e1, e2, e3, emp_I, hb, hsep, c2, hc, hcut, d_HYPHEN, d_LOW_LINE, d_MOST_SLUG, Nat.zero_le, Bool.not_true, Bool.not_false, z_bind_ite, z_seqK_nx, z_seqK_ret, z_seq, z_nx, z_if, z_ret, z_retN, z_freeze, z_set, z_own, z_ownK, z_aug, z_augK, z_append, z_appK, z_extend, z_exK, z_extK_fr, z_extK_bo, z_extK_l, z_extK_t, z_extK, z_asg, z_gnm, z_gtp, z_setAll1, z_setAll0, z_par, z_parK, z_drop, z_for, z_run, z_fin_nx, z_fin_ret, z_fin_ex, z_fin_ite, z_forK_nx, z_forK_ret, z_whK_nx, z_whK_ret, z_T, z_boolOf, z_andT, z_orT, z_notT, z_yes, z_var, z_varK_sh, z_varK_ow, z_varK_o2, z_lit, z_op, z_chain, z_ifE, z_andE, z_orE, z_notE, z_nil, z_cons, z_B, z_call, z_call0, z_res, z_calm, z_sl, z_part, z_nopart, z_intOf, z_neg, z_negK, z_rev, z_seqI, z_seqIK_l, z_seqIK_t, z_seqIK_a, z_add, z_addD_ii, z_addD_l, z_addD_t, z_addI, z_sub, z_mod, z_div, z_mul, z_lt, z_le, z_gt, z_ge, z_eq, z_ne, z_eqD_ii, z_isN, z_idxK, z_len_l, z_list_l, z_tuple_l, z_idx_l, z_cut_l, z_vrev_l, z_len_t, z_list_t, z_tuple_t, z_idx_t, z_cut_t, z_len_a, z_list_a, z_tuple_a, z_idx_a, z_cut_a, z_vrev_a, z_len_bo, z_list_bo, z_tuple_bo, z_idx_bo, z_cut_bo, z_vrev_bo, z_len_fr, z_list_fr, z_tuple_fr, z_idx_fr, z_cut_fr, z_vrev_fr, z_tupl, z_lis, z_lim, z_lc, R.bind_ok, R.bind_ex, R.bind_bad, toD_st, toD_fr, toDs_nil, toDs_cons, out_st, out_fr, out_bo, out_b2, z_d_st, z_d_bo, z_d_fr, z_lk_st, z_lk_bo, z_lk_fr, Bool.false_eq_true, D.isNon, begun, freezeAt, List.map_cons, List.map_nil, List.length_cons, List.length_nil, List.getElem?_cons_zero, List.getElem?_cons_succ, List.set_cons_zero, List.set_cons_succ, List.replicate_succ, List.replicate_zero, List.cons_append, List.nil_append, if_true, if_false, Nat.reduceAdd, Nat.reduceSub, Nat.reduceLeDiff, Nat.reduceLT, Nat.reduceEqDiff, decide_eq_true_eq, Bool.not_eq_true', decide_eq_false_iff_not, Int.reduceNeg, reduceIte, List.nil_append]
  | false =>
    simp only [f_slug_of, c_slug_of, e1, e2, e3, emp_I, hb, hsep, c2, hc, hcut, d_HYPHEN, d_LOW_LINE, d_MOST_SLUG, Nat.zero_le, Bool.not_true, Bool.not_false, z_bind_ite, z_seqK_nx, z_seqK_ret, z_seq, z_nx, z_if, z_ret, z_retN, z_freeze, z_set, z_own, z_ownK, z_aug, z_augK, z_append, z_appK, z_extend, z_exK, z_extK_fr, z_extK_bo, z_extK_l, z_extK_t, z_extK, z_asg, z_gnm, z_gtp, z_setAll1, z_setAll0, z_par, z_parK, z_drop, z_for, z_run, z_fin_nx, z_fin_ret, z_fin_ex, z_fin_ite, z_forK_nx, z_forK_ret, z_whK_nx, z_whK_ret, z_T, z_boolOf, z_andT, z_orT, z_notT, z_yes, z_var, z_varK_sh, z_varK_ow, z_varK_o2, z_lit, z_op, z_chain, z_ifE, z_andE, z_orE, z_notE, z_nil, z_cons, z_B, z_call, z_call0, z_res, z_calm, z_sl, z_part, z_nopart, z_intOf, z_neg, z_negK, z_rev, z_seqI, z_seqIK_l, z_seqIK_t, z_seqIK_a, z_add, z_addD_ii, z_addD_l, z_addD_t, z_addI, z_sub, z_mod, z_div, z_mul, z_lt, z_le, z_gt, z_ge, z_eq, z_ne, z_eqD_ii, z_isN, z_idxK, z_len_l, z_list_l, z_tuple_l, z_idx_l, z_cut_l, z_vrev_l, z_len_t, z_list_t, z_tuple_t, z_idx_t, z_cut_t, z_len_a, z_list_a, z_tuple_a, z_idx_a, z_cut_a, z_vrev_a, z_len_bo, z_list_bo, z_tuple_bo, z_idx_bo, z_cut_bo, z_vrev_bo, z_len_fr, z_list_fr, z_tuple_fr, z_idx_fr, z_cut_fr, z_vrev_fr, z_tupl, z_lis, z_lim, z_lc, R.bind_ok, R.bind_ex, R.bind_bad, toD_st, toD_fr, toDs_nil, toDs_cons, out_st, out_fr, out_bo, out_b2, z_d_st, z_d_bo, z_d_fr, z_lk_st, z_lk_bo, z_lk_fr, Bool.false_eq_true, D.isNon, begun, freezeAt, List.map_cons, List.map_nil, List.length_cons, List.length_nil, List.getElem?_cons_zero, List.getElem?_cons_succ, List.set_cons_zero, List.set_cons_succ, List.replicate_succ, List.replicate_zero, List.cons_append, List.nil_append, if_true, if_false, Nat.reduceAdd, Nat.reduceSub, Nat.reduceLeDiff, Nat.reduceLT, Nat.reduceEqDiff, decide_eq_true_eq, Bool.not_eq_true', decide_eq_false_iff_not, Int.reduceNeg, reduceIte, List.nil_append]
theorem e_slug (bs : List Nat) (h : bs.length ≤ 600) : f_slug [.arg (AR bs)] = match decodeAll bs with
    | none => .ok (.fr [.int (-24)])
    | some cs => .ok (.fr (D.int ((encodeAll (Kh450.slug cs)).length : Nat) :: I (encodeAll (Kh450.slug cs)))) := by
  have e1 := e_decoded (bs := bs) (by omega)
  have c1 : (1 : Nat) ≤ 16777216 := by omega
  cases hd : decodeAll bs with
  | none =>
    rw [hd] at e1
    simp only [f_slug, c_slug, e1, d_NO_TEXT, c1, z_bind_ite, z_seqK_nx, z_seqK_ret, z_seq, z_nx, z_if, z_ret, z_retN, z_freeze, z_set, z_own, z_ownK, z_aug, z_augK, z_append, z_appK, z_extend, z_exK, z_extK_fr, z_extK_bo, z_extK_l, z_extK_t, z_extK, z_asg, z_gnm, z_gtp, z_setAll1, z_setAll0, z_par, z_parK, z_drop, z_for, z_run, z_fin_nx, z_fin_ret, z_fin_ex, z_fin_ite, z_forK_nx, z_forK_ret, z_whK_nx, z_whK_ret, z_T, z_boolOf, z_andT, z_orT, z_notT, z_yes, z_var, z_varK_sh, z_varK_ow, z_varK_o2, z_lit, z_op, z_chain, z_ifE, z_andE, z_orE, z_notE, z_nil, z_cons, z_B, z_call, z_call0, z_res, z_calm, z_sl, z_part, z_nopart, z_intOf, z_neg, z_negK, z_rev, z_seqI, z_seqIK_l, z_seqIK_t, z_seqIK_a, z_add, z_addD_ii, z_addD_l, z_addD_t, z_addI, z_sub, z_mod, z_div, z_mul, z_lt, z_le, z_gt, z_ge, z_eq, z_ne, z_eqD_ii, z_isN, z_idxK, z_len_l, z_list_l, z_tuple_l, z_idx_l, z_cut_l, z_vrev_l, z_len_t, z_list_t, z_tuple_t, z_idx_t, z_cut_t, z_len_a, z_list_a, z_tuple_a, z_idx_a, z_cut_a, z_vrev_a, z_len_bo, z_list_bo, z_tuple_bo, z_idx_bo, z_cut_bo, z_vrev_bo, z_len_fr, z_list_fr, z_tuple_fr, z_idx_fr, z_cut_fr, z_vrev_fr, z_tupl, z_lis, z_lim, z_lc, R.bind_ok, R.bind_ex, R.bind_bad, toD_st, toD_fr, toDs_nil, toDs_cons, out_st, out_fr, out_bo, out_b2, z_d_st, z_d_bo, z_d_fr, z_lk_st, z_lk_bo, z_lk_fr, Bool.false_eq_true, D.isNon, begun, freezeAt, List.map_cons, List.map_nil, List.length_cons, List.length_nil, List.getElem?_cons_zero, List.getElem?_cons_succ, List.set_cons_zero, List.set_cons_succ, List.replicate_succ, List.replicate_zero, List.cons_append, List.nil_append, if_true, if_false, Nat.reduceAdd, Nat.reduceSub, Nat.reduceLeDiff, Nat.reduceLT, Nat.reduceEqDiff, decide_eq_true_eq, Bool.not_eq_true', decide_eq_false_iff_not, Int.reduceNeg, reduceIte, List.nil_append]
  | some cs =>
    rw [hd] at e1
    have hl := dec_all_len hd
    have e2 := e_slug_of cs (by omega)
    have e3 := e_answered_t (Kh450.slug cs) (by have := slug_len cs; omega)
    simp only [f_slug, c_slug, e1, e2, e3, c1, z_bind_ite, z_seqK_nx, z_seqK_ret, z_seq, z_nx, z_if, z_ret, z_retN, z_freeze, z_set, z_own, z_ownK, z_aug, z_augK, z_append, z_appK, z_extend, z_exK, z_extK_fr, z_extK_bo, z_extK_l, z_extK_t, z_extK, z_asg, z_gnm, z_gtp, z_setAll1, z_setAll0, z_par, z_parK, z_drop, z_for, z_run, z_fin_nx, z_fin_ret, z_fin_ex, z_fin_ite, z_forK_nx, z_forK_ret, z_whK_nx, z_whK_ret, z_T, z_boolOf, z_andT, z_orT, z_notT, z_yes, z_var, z_varK_sh, z_varK_ow, z_varK_o2, z_lit, z_op, z_chain, z_ifE, z_andE, z_orE, z_notE, z_nil, z_cons, z_B, z_call, z_call0, z_res, z_calm, z_sl, z_part, z_nopart, z_intOf, z_neg, z_negK, z_rev, z_seqI, z_seqIK_l, z_seqIK_t, z_seqIK_a, z_add, z_addD_ii, z_addD_l, z_addD_t, z_addI, z_sub, z_mod, z_div, z_mul, z_lt, z_le, z_gt, z_ge, z_eq, z_ne, z_eqD_ii, z_isN, z_idxK, z_len_l, z_list_l, z_tuple_l, z_idx_l, z_cut_l, z_vrev_l, z_len_t, z_list_t, z_tuple_t, z_idx_t, z_cut_t, z_len_a, z_list_a, z_tuple_a, z_idx_a, z_cut_a, z_vrev_a, z_len_bo, z_list_bo, z_tuple_bo, z_idx_bo, z_cut_bo, z_vrev_bo, z_len_fr, z_list_fr, z_tuple_fr, z_idx_fr, z_cut_fr, z_vrev_fr, z_tupl, z_lis, z_lim, z_lc, R.bind_ok, R.bind_ex, R.bind_bad, toD_st, toD_fr, toDs_nil, toDs_cons, out_st, out_fr, out_bo, out_b2, z_d_st, z_d_bo, z_d_fr, z_lk_st, z_lk_bo, z_lk_fr, Bool.false_eq_true, D.isNon, begun, freezeAt, List.map_cons, List.map_nil, List.length_cons, List.length_nil, List.getElem?_cons_zero, List.getElem?_cons_succ, List.set_cons_zero, List.set_cons_succ, List.replicate_succ, List.replicate_zero, List.cons_append, List.nil_append, if_true, if_false, Nat.reduceAdd, Nat.reduceSub, Nat.reduceLeDiff, Nat.reduceLT, Nat.reduceEqDiff, decide_eq_true_eq, Bool.not_eq_true', decide_eq_false_iff_not, Int.reduceNeg, reduceIte, List.nil_append]
theorem sign_ascii (c : Nat) : ∀ x ∈ sign c, x < 128 := by
  intro x hx
  unfold sign at hx
  split at hx
  · have e : x = c + 32 := by simpa using hx
    omega
  · split at hx
    · have e : x = c := by simpa using hx
      omega
    · cases hx
theorem join_ascii : ∀ ws : List (List Nat), (∀ w ∈ ws, ∀ x ∈ w, x < 128) → ∀ x ∈ joinTexts [45] ws, x < 128
  | [], _, x, h => by cases h
  | [w], k, x, h => k w (List.mem_cons_self ..) x h
  | w :: v :: ws, k, x, h => by
    have h' : x ∈ w ++ [45] ++ joinTexts [45] (v :: ws) := h
    rcases List.mem_append.mp h' with h1 | h1
    · rcases List.mem_append.mp h1 with h2 | h2
      · exact k w (List.mem_cons_self ..) x h2
      · have e : x = 45 := by simpa using h2
        omega
    · exact join_ascii (v :: ws) (fun u hu => k u (List.mem_cons_of_mem _ hu)) x h1
theorem enc_ascii : ∀ l : List Nat, (∀ x ∈ l, x < 128) → encodeAll l = l
  | [], _ => rfl
  | c :: l, k => by
    have ih := enc_ascii l fun x hx => k x (List.mem_cons_of_mem _ hx)
    unfold encodeAll at ih ⊢
    rw [List.flatMap_cons, ih]
    unfold encodeUtf8
    rw [if_pos (k c (List.mem_cons_self ..))]
    rfl
theorem slug_ascii (cs : List Nat) : encodeAll (Kh450.slug cs) = Kh450.slug cs := by
  apply enc_ascii
  intro x hx
  unfold Kh450.slug at hx
  dsimp only at hx
  split at hx
  · have k : ∀ y ∈ codesOf "section", y < 128 := by decide
    exact k x hx
  · have hx2 := List.mem_of_mem_take hx
    refine join_ascii _ (fun w hw y hy => ?_) x hx2
    have hw2 := (List.mem_filter.mp hw).1
    rw [slugWords_eq] at hw2
    have key : ∃ u : List Nat, w = u.flatMap sign := by
      rcases List.mem_cons.mp hw2 with e | h
      · exact ⟨_, e⟩
      · obtain ⟨u, _, e⟩ := List.mem_map.mp h
        exact ⟨u, e.symm⟩
    obtain ⟨u, e⟩ := key
    rw [e] at hy
    obtain ⟨c, _, h⟩ := List.mem_flatMap.mp hy
    exact sign_ascii c y h
theorem spec_slug (bs : List Nat) : PyKh450.slug (AR bs) = Kh450Neutral.integers (Kh450.answer (.slug bs)) := by
  have e : PyKh450.slug (AR bs) = Kh450Neutral.integers (Kh450.answer (.slug ((AR bs).map Int.toNat))) := rfl
  rw [e, toNat_AR]
theorem end_slug {K : PySem.W.Frag} {H : Hp} {v : V} {bs : List Nat} {l : List Int} {E : XK} (hl : bs.length ≤ 600) (e : l = AR bs) (hd : Dr K H v (.arg l)) : spD K 0 1 f_slug [v] H (fun v H' => Dw K H' v (.list ((PyKh450.slug l).map PySem.W.WData.int))) E := by
  subst e
  rw [spec_slug]
  have z := e_slug bs hl
  have ea : Kh450.answer (.slug bs) = withText bs fun t => bytesResult (Kh450.slug t) := rfl
  rw [ea]
  unfold withText
  cases hb : decodeAll bs with
  | none =>
    rw [hb] at z
    exact sp_ints (n := 1) (ns := [-24]) rfl (.cons hd .nil) z rfl
  | some cs =>
    rw [hb] at z
    have ei : Kh450Neutral.integers (bytesResult (Kh450.slug cs)) = ((Kh450.slug cs).length : Int) :: AR (Kh450.slug cs) := rfl
    have k := sp_ints (K := K) (C := 0) (E := E) (n := 1) (f := f_slug) (ns := ((encodeAll (Kh450.slug cs)).length : Int) :: AR (encodeAll (Kh450.slug cs))) rfl (.cons hd .nil) z (by rw [List.map_cons, ar_map]; rfl)
    have es : encodeAll (Kh450.slug cs) = Kh450.slug cs := slug_ascii cs
    rw [es] at k
    show spD K 0 1 f_slug [v] H (fun v H' => Dw K H' v (.list ((Kh450Neutral.integers (bytesResult (Kh450.slug cs))).map PySem.W.WData.int))) E
    rw [ei]
    exact k
end BW
set_option maxHeartbeats 0
namespace BH
open PySem PySem.W PySem.Calls PyProof.Rows L2 BT
abbrev qv : Program := view BW.PP [26]
def loose0 : List PySem.Str := ["LAST_CODE", "FIRST_SURROGATE", "LAST_SURROGATE", "LEAST_CODES", "LEADS", "is_code", "size_by_lead", "sequence_at", "decoded", "size_of", "bytes_of", "encoded", "codes_of", "WHITE", "HYPHEN", "LOW_LINE", "MOST_SLUG", "words", "slug_sign", "slug_word", "slug_of", "NO_TEXT", "answered"]
def loose : List PySem.Str := loose0
def fns0 : List He.DefD := [dD "is_code" (BW.top 6), dD "size_by_lead" (BW.top 7), dD "sequence_at" (BW.top 8), dD "decoded" (BW.top 9), dD "size_of" (BW.top 10), dD "bytes_of" (BW.top 11), dD "encoded" (BW.top 12), dD "codes_of" (BW.top 13), dD "words" (BW.top 19), dD "slug_sign" (BW.top 20), dD "slug_word" (BW.top 21), dD "slug_of" (BW.top 22), dD "answered" (BW.top 25), dD "slug" (BW.top 26)]
def fns : List He.DefD := fns0
def facts0 : List He.Fa := [.glo "is_code", .glo "size_by_lead", .glo "sequence_at", .glo "decoded", .glo "size_of", .glo "bytes_of", .glo "encoded", .glo "codes_of", .glo "words", .glo "slug_sign", .glo "slug_word", .glo "slug_of", .glo "answered", .glo "slug", .free "len", .free "ord", .free "range", .free "tuple"]
def facts : List He.Fa := facts0
def globs0 : List (PySem.Str × D) := [("LAST_CODE", BW.d_LAST_CODE), ("FIRST_SURROGATE", BW.d_FIRST_SURROGATE), ("LAST_SURROGATE", BW.d_LAST_SURROGATE), ("LEAST_CODES", BW.d_LEAST_CODES), ("LEADS", BW.d_LEADS), ("WHITE", BW.d_WHITE), ("HYPHEN", BW.d_HYPHEN), ("LOW_LINE", BW.d_LOW_LINE), ("MOST_SLUG", BW.d_MOST_SLUG), ("NO_TEXT", BW.d_NO_TEXT)]
def globs : List (PySem.Str × D) := globs0
abbrev hk : PySem.W.Hook := hookB 700 facts globs fns
open HandSHeadRun in
def RunAt (w : World) : Prop := ∀ os : OsState, (endF (stepQ (denQ tabQ) BW.PP w) 900 BW.PP w os).map (fun s => (looksF BW.PP (boot_heap w.params) s.abs, seenQ qv loose (importedModules BW.PP.main.body) (fun s => xlAt qv [] s && recOk [] s) s.abs, obB 700 facts globs fns s)) = some (true, openGood qv loose, hk.val w)
theorem run (w : World) : RunAt w := by
  intro os
  kernel_rfl
open HandSHeadRun in
theorem left : LeftO BW.PP qv loose (fun s => xlAt qv [] s && recOk [] s) hk.obs hk.val 1500 true :=
  left_one (M := 900) (by kernel_rfl) (by rfl) (fun s => by kernel_rfl) (by rfl) fun w os => by
    have z := run w os
    have eo : obB 700 facts globs fns = fun s => hk.obs s.abs := funext obB_eq
    rw [eo] at z
    simp only [endQ_eq, seenQ_eq]
    exact z
theorem table {K : PySem.W.Frag} {h : Heap} {mg : PySem.Str → Option Value} (X : K.In h) (G : h.Ns mainGlobals mg) (c : SaysB facts globs fns K) : BW.Tx K mg where
  at_is_code := c.at_ X G 0 0
  at_size_by_lead := c.at_ X G 1 1
  at_sequence_at := c.at_ X G 2 2
  at_decoded := c.at_ X G 3 3
  at_size_of := c.at_ X G 4 4
  at_bytes_of := c.at_ X G 5 5
  at_encoded := c.at_ X G 6 6
  at_codes_of := c.at_ X G 7 7
  at_words := c.at_ X G 8 8
  at_slug_sign := c.at_ X G 9 9
  at_slug_word := c.at_ X G 10 10
  at_slug_of := c.at_ X G 11 11
  at_answered := c.at_ X G 12 12
  at_slug := c.at_ X G 13 13
  g_LAST_CODE := c.glob X G 0
  g_FIRST_SURROGATE := c.glob X G 1
  g_LAST_SURROGATE := c.glob X G 2
  g_LEAST_CODES := c.glob X G 3
  g_LEADS := c.glob X G 4
  g_WHITE := c.glob X G 5
  g_HYPHEN := c.glob X G 6
  g_LOW_LINE := c.glob X G 7
  g_MOST_SLUG := c.glob X G 8
  g_NO_TEXT := c.glob X G 9
  n_len := c.free X G 14
  n_ord := c.free X G 15
  n_range := c.free X G 16
  n_tuple := c.free X G 17
theorem whole {P : Program} {w : World} {K : PySem.W.Frag} {mg : PySem.Str → Option Value} {base : Heap} (T : BW.Tx K mg) : FnA P w K mg base 0 5 "slug" ["text"] BW.f_slug := by
  have F_is_code := BW.w_is_code (P := P) (w := w) (base := base) (C := 0) T
  have F_size_by_lead := BW.w_size_by_lead (P := P) (w := w) (base := base) (C := 0) T
  have F_sequence_at := BW.w_sequence_at (P := P) (w := w) (base := base) (C := 0) T F_size_by_lead F_is_code
  have F_decoded := BW.w_decoded (P := P) (w := w) (base := base) (C := 0) T F_sequence_at
  have F_size_of := BW.w_size_of (P := P) (w := w) (base := base) (C := 0) T
  have F_bytes_of := BW.w_bytes_of (P := P) (w := w) (base := base) (C := 0) T F_size_of
  have F_encoded := BW.w_encoded (P := P) (w := w) (base := base) (C := 0) T F_bytes_of
  have F_codes_of := BW.w_codes_of (P := P) (w := w) (base := base) (C := 0) T
  have F_words := BW.w_words (P := P) (w := w) (base := base) (C := 0) T
  have F_slug_sign := BW.w_slug_sign (P := P) (w := w) (base := base) (C := 0) T
  have F_slug_word := BW.w_slug_word (P := P) (w := w) (base := base) (C := 0) T F_slug_sign
  have F_slug_of := BW.w_slug_of (P := P) (w := w) (base := base) (C := 0) T F_words F_slug_word F_codes_of
  have F_answered := BW.w_answered (P := P) (w := w) (base := base) (C := 0) T F_encoded
  have F_slug := BW.w_slug (P := P) (w := w) (base := base) (C := 0) T F_decoded F_slug_of F_answered
  exact F_slug
end BH
open PySem PySem.W PySem.Calls PyProof.Rows L2
theorem PySem.Challenge.cw_blocktrees_s08_slug_holds : PySem.Challenge.rw_blocktrees_s08_slug.Holds := by
  w_on
  refine holds_os (r := PySem.Challenge.rw_blocktrees_s08_slug) (q := BH.qv) (loose := BH.loose) (XP := XL BH.qv []) (YP := BH.hk.says) (d := HandSHeadRun.topDef BW.PP 26) (kwd := []) BH.left BH.hk.of BH.hk.keeps
    (fun s z => xl_of s (Bool.and_eq_true_iff.mp z).1) XL.keeps (by kernel_rfl) (by kernel_rfl) (by kernel_rfl) (fun s z => recFacts_of (Bool.and_eq_true_iff.mp z).2) os_shapes
    (by first | assumption | decide +kernel) (by decide +kernel) ⟨rfl, rfl, rfl, rfl, rfl, by decide +kernel⟩ ?hw ?hc
  case hw => exact ⟨[.list []], by decide +kernel, by decide +kernel⟩
  refine BT.walk_any (r := PySem.Challenge.rw_blocktrees_s08_slug) (k := 5) (CX := fun w => L2.CX BW.PP w) (ps := ["text"]) (sp := fun _ K => BT.spD K 0 1 BW.f_slug) (by decide +kernel) rfl rfl (BT.room_caller (by decide)) ?F ?S (fun w => BT.cx_none BW.PP w)
  case F =>
    intro w mg fa h Y G hmg
    obtain ⟨K, X, c⟩ := Y
    have T := BH.table X G c
    exact ⟨K, X, BT.fn_end (h := h) rfl (fun base => BH.whole (P := BW.PP) (w := w) (base := base) T) hmg⟩
  case S =>
    intro w K H xs a hwi hask hx
    cases hx with
    | cons h1 h2 =>
      cases h2
      have q : ((Codec.inLen 0 600 a.1 && a.1.all (Codec.inInt 0 255)) && true) = true := hwi
      rw [Bool.and_eq_true, Bool.and_eq_true] at q
      obtain ⟨bs, e, _⟩ := BT.nats_of (by decide) q.1.2
      have hl : bs.length ≤ 600 := by
        have z := (Codec.inNat_iff.mp q.1.1).2
        rw [e, BT.AR, List.length_map] at z
        exact z
      exact BW.end_slug hl e (BT.dr_arg h1)
