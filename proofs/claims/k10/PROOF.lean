import PyProof.Rows.All
import Wide.All
import OpenK.AllK
import Wide.FinOn
import HandS.ForMost
import HandS.OwnEq
import HandS.Property
import HandS.TryMany
import HandS.ExcIs
import KE.KWithOwn
import KE.KOwnIter
import PyProof.CollectIter
import KE.KDictIter
import HandS.OwnIter
import HandS.IterVal
import HandS.Wide
import HandS.WideBits
import HandS.IsInst
import HandS.TupAny
import HandS.ExcOwn
import HandS.WordsExc
import HandS.Zip
import HandS.FStr
import HandS.TryOnly
import HandS.Style
import HandS.ClsMeth
import PyProof.NeKinds
import PyProof.NeData
import PyProof.EqKinds
import HandS.TupMul
import KE.KCallOwn
import KE.GoesEnum
import HandS.EndBits
import PyProof.ExcBaseAll.ValueError
import PySem.Challenge.RW_colormatch_k10_texts_of_reflectances
import KE.KIntText
set_option Elab.async false
set_option linter.all false
set_option maxRecDepth 100000
set_option exponentiation.threshold 100000
-- EngA
/-! Engine A: values of the pure reading (IV), how they lie in the abstract heap (RV), and what keeps that so. -/
namespace EG
open PySem PySem.Spec L2

/-- a value of the pure reading: lists and instances as values -/
inductive IV where
  | non | bl (b : Bool) | int (i : Int) | str (x : Str)
  | tup (xs : List IV) | lst (xs : List IV)
  | obj (c : Nat) (fs : List IV)
  | cell (n : Nat)
  /-- the script -/
  | scr (ns : List Int)

/-- what stands in a cell: a list or an instance that may change -/
inductive CO where
  | lst (xs : List IV)
  | ins (c : Nat) (fs : List IV)
abbrev Cs := List CO

/-- the classes: where they stand, the names of their fields in the order of storing -/
structure CT where
  K : PySem.W.Frag
  cls : Nat → Addr
  fld : Nat → List Str

/-- a list that may be read as a value: nobody changes it -/
def SqV (S : Addr → Prop) (κ : List Addr) (H : Hp) (a : Addr) (vs : List V) : Prop := H a = some (.lst vs) ∧ ¬ S a ∧ a ∉ κ
/-- the script -/
def SqR (K : PySem.W.Frag) (H : Hp) (a : Addr) (vs : List V) : Prop :=
  (∃ o, H a = some (.frz o (.lst vs))) ∨
    ∃ (o : Obj) (its : Array Value) (n : Nat), K.lookup a = some o ∧ o.cls = .type "list" ∧ o.dict = none ∧ o.data = .seq its n ∧ its.size ≤ sizeLine ∧ Vals vs its.toList
theorem SqR.sql {K : PySem.W.Frag} {H : Hp} {a : Addr} {vs : List V} (h : SqR K H a vs) : SqL K H a vs := by
  rcases h with ⟨o, h⟩ | h
  · exact .inl (.inr ⟨o, h⟩)
  · exact .inr h
theorem SqV.sql {K : PySem.W.Frag} {S : Addr → Prop} {κ : List Addr} {H : Hp} {a : Addr} {vs : List V} (h : SqV S κ H a vs) : SqL K H a vs := .inl (.inl h.1)

mutual
def RV (T : CT) (S : Addr → Prop) (κ : List Addr) (H : Hp) : IV → V → Prop
  | .non, v => v = .non
  | .bl b, v => v = .bl b
  | .int i, v => v = .int i
  | .str x, v => v = .str x
  | .tup xs, v => ∃ a vs, v = .ref a ∧ SqT T.K H a vs ∧ RVs T S κ H xs vs
  | .lst xs, v => ∃ a vs, v = .ref a ∧ SqV S κ H a vs ∧ RVs T S κ H xs vs
  | .obj c fs, v => ∃ a dx vs, v = .ref a ∧ H a = some (.ins (T.cls c) dx ((T.fld c).zip vs)) ∧ (¬ S a ∧ a ∉ κ) ∧ fs.length = (T.fld c).length ∧ RVs T S κ H fs vs
  | .cell n, v => ∃ a, v = .ref a ∧ κ[n]? = some a
  | .scr ns, v => ∃ a, v = .ref a ∧ SqR T.K H a (ns.map V.int)
def RVs (T : CT) (S : Addr → Prop) (κ : List Addr) (H : Hp) : List IV → List V → Prop
  | [], vs => vs = []
  | x :: xs, vs => ∃ v r, vs = v :: r ∧ RV T S κ H x v ∧ RVs T S κ H xs r
end

/-- things that are never written -/
def Sealed : HO → Prop
  | .lst _ => False
  | .ins _ _ _ => False
  | _ => True

/-- from (κ, H) to (κ', H'): only what stands in cells may have changed -/
structure Stp (κ : List Addr) (H : Hp) (κ' : List Addr) (H' : Hp) : Prop where
  pre : ∃ r, κ' = κ ++ r
  fresh : ∀ a ∈ κ', a ∈ κ ∨ H a = none
  evo : ∀ a o, H a = some o → (Sealed o ∨ a ∉ κ) → H' a = some o
  dom : ∀ a, H' a = none → H a = none

section
variable {T : CT} {S S' : Addr → Prop} {κ κ' κ1 : List Addr} {H H' H1 : Hp}

theorem Stp.rfl' : Stp κ H κ H := ⟨⟨[], by simp⟩, fun a h => .inl h, fun _ _ h _ => h, fun _ h => h⟩
theorem Stp.trans (a : Stp κ H κ' H') (b : Stp κ' H' κ1 H1) : Stp κ H κ1 H1 where
  pre := by
    obtain ⟨r, e⟩ := a.pre
    obtain ⟨r', e'⟩ := b.pre
    exact ⟨r ++ r', by rw [e', e, List.append_assoc]⟩
  fresh := fun x h => by
    rcases b.fresh x h with h | h
    · exact a.fresh x h
    · exact .inr (a.dom x h)
  evo := fun x o h q => by
    refine b.evo x o (a.evo x o h q) ?_
    rcases q with q | q
    · exact .inl q
    · refine .inr fun z => ?_
      rcases a.fresh x z with z | z
      · exact q z
      · rw [h] at z; cases z
  dom := fun x h => a.dom x (b.dom x h)
/-- a new object -/
theorem Stp.new {p : Addr} {o : HO} (h : H p = none) : Stp κ H κ (upd H p o) :=
  ⟨⟨[], by simp⟩, fun a h => .inl h, fun a o' e _ => by rw [upd_ne (ne_of_none e h)]; exact e, fun a e => by
    by_cases z : a = p
    · subst z; exact h
    · rw [upd_ne z] at e; exact e⟩
theorem Stp.notin {a : Addr} {o : HO} (s : Stp κ H κ' H') (e : H a = some o) (n : a ∉ κ) : a ∉ κ' := fun z => by
  rcases s.fresh a z with z | z
  · exact n z
  · rw [e] at z; cases z

theorem SqV.stp {a : Addr} {vs : List V} (s : Stp κ H κ' H') (h : SqV S κ H a vs) : SqV S κ' H' a vs := by
  obtain ⟨h, n, n'⟩ := h
  exact ⟨s.evo a _ h (.inr n'), n, s.notin h n'⟩
theorem SqR.stp {K : PySem.W.Frag} {a : Addr} {vs : List V} (s : Stp κ H κ' H') (h : SqR K H a vs) : SqR K H' a vs := by
  rcases h with ⟨o, h⟩ | h
  · exact .inl ⟨o, s.evo a _ h (.inl trivial)⟩
  · exact .inr h
theorem SqT.stp {K : PySem.W.Frag} {a : Addr} {vs : List V} (s : Stp κ H κ' H') (h : SqT K H a vs) : SqT K H' a vs := by
  rcases h with (h | ⟨o, h⟩) | h
  · exact .inl (.inl (s.evo a _ h (.inl trivial)))
  · exact .inl (.inr ⟨o, s.evo a _ h (.inl trivial)⟩)
  · exact .inr h
/-- the value relation, moved along -/
structure Mv (T : CT) (S : Addr → Prop) (κ : List Addr) (H : Hp) (S' : Addr → Prop) (κ' : List Addr) (H' : Hp) : Prop where
  l : ∀ a vs, SqV S κ H a vs → SqV S' κ' H' a vs
  t : ∀ a vs, SqT T.K H a vs → SqT T.K H' a vs
  r : ∀ a vs, SqR T.K H a vs → SqR T.K H' a vs
  o : ∀ a C dx fs, H a = some (.ins C dx fs) → (¬ S a ∧ a ∉ κ) → H' a = some (.ins C dx fs) ∧ (¬ S' a ∧ a ∉ κ')
  c : ∀ (n : Nat) a, κ[n]? = some a → κ'[n]? = some a
mutual
theorem Mv.rv (m : Mv T S κ H S' κ' H') : ∀ (x : IV) (v : V), RV T S κ H x v → RV T S' κ' H' x v
  | .non, _, h => h
  | .bl _, _, h => h
  | .int _, _, h => h
  | .str _, _, h => h
  | .tup xs, v, h => by
    unfold RV at h ⊢
    obtain ⟨a, vs, e, q, r⟩ := h
    exact ⟨a, vs, e, m.t _ _ q, Mv.rvs m xs vs r⟩
  | .lst xs, v, h => by
    unfold RV at h ⊢
    obtain ⟨a, vs, e, q, r⟩ := h
    exact ⟨a, vs, e, m.l _ _ q, Mv.rvs m xs vs r⟩
  | .obj c fs, v, h => by
    unfold RV at h ⊢
    obtain ⟨a, dx, vs, e, q, n, l, r⟩ := h
    obtain ⟨q', n'⟩ := m.o _ _ _ _ q n
    exact ⟨a, dx, vs, e, q', n', l, Mv.rvs m fs vs r⟩
  | .cell n, v, h => by
    unfold RV at h ⊢
    obtain ⟨a, e, q⟩ := h
    exact ⟨a, e, m.c n a q⟩
  | .scr ns, v, h => by
    unfold RV at h ⊢
    obtain ⟨a, e, q⟩ := h
    exact ⟨a, e, m.r _ _ q⟩
theorem Mv.rvs (m : Mv T S κ H S' κ' H') : ∀ (xs : List IV) (vs : List V), RVs T S κ H xs vs → RVs T S' κ' H' xs vs
  | [], _, h => h
  | x :: xs, vs, h => by
    unfold RVs at h ⊢
    obtain ⟨v, r, e, q, rr⟩ := h
    exact ⟨v, r, e, Mv.rv m x v q, Mv.rvs m xs r rr⟩
end
theorem Stp.mv (s : Stp κ H κ' H') : Mv T S κ H S κ' H' where
  l := fun a vs h => h.stp s
  t := fun a vs h => SqT.stp s h
  r := fun a vs h => h.stp s
  o := fun a C dx fs e n => ⟨s.evo a _ e (.inr n.2), n.1, s.notin e n.2⟩
  c := fun n a e => by
    obtain ⟨r, e'⟩ := s.pre
    rw [e', List.getElem?_append_left (List.getElem?_eq_some_iff.mp e).1]
    exact e
/-- fewer forbidden places -/
theorem Mv.anti (h : ∀ a, S' a → S a) : Mv T S κ H S' κ H where
  l := fun a vs ⟨q, n, n'⟩ => ⟨q, fun z => n (h a z), n'⟩
  t := fun _ _ q => q
  r := fun _ _ q => q
  o := fun a C dx fs e n => ⟨e, fun z => n.1 (h a z), n.2⟩
  c := fun _ _ e => e
/-- a place that was free -/
theorem Mv.add {p : Addr} (hp : H p = none) : Mv T S κ H (fun a => S a ∨ a = p) κ H where
  l := fun a vs ⟨q, n, n'⟩ => ⟨q, fun z => z.elim n fun z => ne_of_none q hp z, n'⟩
  t := fun _ _ q => q
  r := fun _ _ q => q
  o := fun a C dx fs e n => ⟨e, fun z => z.elim n.1 fun z => ne_of_none e hp z, n.2⟩
  c := fun _ _ e => e
/-- a forbidden place is written -/
theorem Mv.wr {p : Addr} {o o' : HO} (ho : H p = some o) (hs : ¬ Sealed o) (hp : S p ∨ p ∈ κ) : Mv T S κ H S κ (upd H p o') where
  l := fun a vs ⟨q, n, n'⟩ => by
    have : a ≠ p := fun z => by subst z; exact hp.elim n n'
    exact ⟨by rw [upd_ne this]; exact q, n, n'⟩
  r := fun a vs q => by
    rcases q with ⟨u, q⟩ | q
    · have : a ≠ p := fun z => by subst z; rw [ho] at q; cases q; exact hs trivial
      exact .inl ⟨u, by rw [upd_ne this]; exact q⟩
    · exact .inr q
  t := fun a vs q => by
    rcases q with (q | ⟨u, q⟩) | q
    · have : a ≠ p := fun z => by subst z; rw [ho] at q; cases q; exact hs trivial
      exact .inl (.inl (by rw [upd_ne this]; exact q))
    · have : a ≠ p := fun z => by subst z; rw [ho] at q; cases q; exact hs trivial
      exact .inl (.inr ⟨u, by rw [upd_ne this]; exact q⟩)
    · exact .inr q
  o := fun a C dx fs e n => by
    have : a ≠ p := fun z => by subst z; exact hp.elim n.1 n.2
    exact ⟨by rw [upd_ne this]; exact e, n⟩
  c := fun _ _ e => e
theorem Mv.trans {S1 : Addr → Prop} (m : Mv T S κ H S' κ' H') (m' : Mv T S' κ' H' S1 κ1 H1) : Mv T S κ H S1 κ1 H1 where
  l := fun a vs q => m'.l _ _ (m.l _ _ q)
  t := fun a vs q => m'.t _ _ (m.t _ _ q)
  r := fun a vs q => m'.r _ _ (m.r _ _ q)
  o := fun a C dx fs e n => let ⟨e', n'⟩ := m.o _ _ _ _ e n; m'.o _ _ _ _ e' n'
  c := fun n a e => m'.c n a (m.c n a e)
/-! no list, no instance, no cell in it -/
mutual
def flatI : IV → Bool
  | .tup xs => flatIs xs
  | .lst _ => false
  | .obj _ _ => false
  | .cell _ => false
  | _ => true
def flatIs : List IV → Bool
  | [] => true
  | x :: xs => flatI x && flatIs xs
end
mutual
theorem RV.flat : ∀ (x : IV) (v : V), flatI x = true → RV T S κ H x v → RV T S' κ' H x v
  | .non, _, _, h => h
  | .bl _, _, _, h => h
  | .int _, _, _, h => h
  | .str _, _, _, h => h
  | .tup xs, v, f, h => by
    unfold RV at h ⊢
    unfold flatI at f
    obtain ⟨a, vs, e, q, r⟩ := h
    exact ⟨a, vs, e, q, RVs.flat xs vs f r⟩
  | .lst _, _, f, _ => by unfold flatI at f; cases f
  | .obj _ _, _, f, _ => by unfold flatI at f; cases f
  | .cell _, _, f, _ => by unfold flatI at f; cases f
  | .scr _, _, _, h => h
theorem RVs.flat : ∀ (xs : List IV) (vs : List V), flatIs xs = true → RVs T S κ H xs vs → RVs T S' κ' H xs vs
  | [], _, _, h => h
  | x :: xs, vs, f, h => by
    unfold RVs at h ⊢
    unfold flatIs at f
    obtain ⟨f1, f2⟩ := (Bool.and_eq_true _ _).mp f
    obtain ⟨v, r, e, q, rr⟩ := h
    exact ⟨v, r, e, RV.flat x v f1 q, RVs.flat xs r f2 rr⟩
end
theorem RVs.len : ∀ {xs : List IV} {vs : List V}, RVs T S κ H xs vs → xs.length = vs.length
  | [], _, h => by unfold RVs at h; rw [h]; rfl
  | x :: xs, vs, h => by
    unfold RVs at h
    obtain ⟨v, r, e, q, rr⟩ := h
    rw [e, List.length_cons, List.length_cons, RVs.len rr]
theorem RVs.get : ∀ {xs : List IV} {vs : List V} {i : Nat} {x : IV}, RVs T S κ H xs vs → xs[i]? = some x → ∃ v, vs[i]? = some v ∧ RV T S κ H x v
  | [], _, _, _, _, e => by simp at e
  | y :: xs, vs, i, x, h, e => by
    unfold RVs at h
    obtain ⟨v, r, ev, q, rr⟩ := h
    subst ev
    cases i with
    | zero => simp at e; subst e; exact ⟨v, by simp, q⟩
    | succ i =>
      obtain ⟨w, e1, e2⟩ := RVs.get (i := i) rr (by simpa using e)
      exact ⟨w, by simpa using e1, e2⟩
theorem RVs.get' : ∀ {xs : List IV} {vs : List V} {i : Nat} {v : V}, RVs T S κ H xs vs → vs[i]? = some v → ∃ x, xs[i]? = some x ∧ RV T S κ H x v
  | [], _, _, _, h, e => by unfold RVs at h; subst h; simp at e
  | y :: xs, vs, i, x, h, e => by
    unfold RVs at h
    obtain ⟨v, r, ev, q, rr⟩ := h
    subst ev
    cases i with
    | zero => simp at e; subst e; exact ⟨y, by simp, q⟩
    | succ i =>
      obtain ⟨w, e1, e2⟩ := RVs.get' (i := i) rr (by simpa using e)
      exact ⟨w, by simpa using e1, e2⟩
theorem RVs.nil : RVs T S κ H [] [] := by unfold RVs; rfl
theorem RVs.cons {x : IV} {v : V} {xs : List IV} {vs : List V} (h : RV T S κ H x v) (r : RVs T S κ H xs vs) : RVs T S κ H (x :: xs) (v :: vs) := by
  unfold RVs; exact ⟨v, vs, rfl, h, r⟩
theorem RVs.append : ∀ {xs ys : List IV} {vs ws : List V}, RVs T S κ H xs vs → RVs T S κ H ys ws → RVs T S κ H (xs ++ ys) (vs ++ ws)
  | [], _, _, _, h, r => by unfold RVs at h; subst h; exact r
  | x :: xs, ys, vs, ws, h, r => by
    unfold RVs at h
    obtain ⟨v, t, e, q, rr⟩ := h
    subst e
    exact RVs.cons q (RVs.append rr r)
theorem RVs.take : ∀ {xs : List IV} {vs : List V} (n : Nat), RVs T S κ H xs vs → RVs T S κ H (xs.take n) (vs.take n)
  | _, _, 0, _ => by simp; exact RVs.nil
  | [], _, n + 1, h => by unfold RVs at h; subst h; simp; exact RVs.nil
  | x :: xs, vs, n + 1, h => by
    unfold RVs at h
    obtain ⟨v, t, e, q, rr⟩ := h
    subst e
    exact RVs.cons q (RVs.take n rr)
theorem RVs.drop : ∀ {xs : List IV} {vs : List V} (n : Nat), RVs T S κ H xs vs → RVs T S κ H (xs.drop n) (vs.drop n)
  | _, _, 0, h => h
  | [], _, n + 1, h => by unfold RVs at h; subst h; simp; exact RVs.nil
  | x :: xs, vs, n + 1, h => by
    unfold RVs at h
    obtain ⟨v, t, e, q, rr⟩ := h
    subst e
    exact RVs.drop n rr
theorem RVs.set : ∀ {xs : List IV} {vs : List V} {x : IV} {v : V} (n : Nat), RVs T S κ H xs vs → RV T S κ H x v → RVs T S κ H (xs.set n x) (vs.set n v)
  | [], _, _, _, n, h, _ => by unfold RVs at h; subst h; simp; exact RVs.nil
  | y :: xs, vs, x, v, n, h, hx => by
    unfold RVs at h
    obtain ⟨w, t, e, q, rr⟩ := h
    subst e
    cases n with
    | zero => exact RVs.cons hx rr
    | succ n => exact RVs.cons q (RVs.set n rr hx)
theorem RVs.rev {xs : List IV} {vs : List V} (h : RVs T S κ H xs vs) : RVs T S κ H xs.reverse vs.reverse := by
  induction xs generalizing vs with
  | nil => unfold RVs at h; subst h; exact RVs.nil
  | cons x xs ih =>
    unfold RVs at h
    obtain ⟨w, t, e, q, rr⟩ := h
    subst e
    rw [List.reverse_cons, List.reverse_cons]
    exact RVs.append (ih rr) (RVs.cons q RVs.nil)
theorem RVs.ints : ∀ {ns : List Int}, RVs T S κ H (ns.map IV.int) (ns.map V.int)
  | [] => RVs.nil
  | n :: ns => RVs.cons (by unfold RV; rfl) RVs.ints
theorem RVs.ints' : ∀ {ns : List Int} {vs : List V}, RVs T S κ H (ns.map IV.int) vs → vs = ns.map V.int
  | [], vs, h => by unfold RVs at h; exact h
  | n :: ns, vs, h => by
    rw [List.map_cons] at h
    unfold RVs at h
    obtain ⟨w, t, e, q, rr⟩ := h
    unfold RV at q
    subst e; subst q
    rw [RVs.ints' rr, List.map_cons]
theorem RVs.bls' : ∀ {bs : List Bool} {vs : List V}, RVs T S κ H (bs.map IV.bl) vs → vs = bs.map V.bl
  | [], vs, h => by unfold RVs at h; exact h
  | n :: ns, vs, h => by
    rw [List.map_cons] at h
    unfold RVs at h
    obtain ⟨w, t, e, q, rr⟩ := h
    unfold RV at q
    subst e; subst q
    rw [RVs.bls' rr, List.map_cons]

/-! ### what stands in the cells -/
def RC (T : CT) (S : Addr → Prop) (κ : List Addr) (H : Hp) (a : Addr) : CO → Prop
  | .lst xs => ∃ vs, H a = some (.lst vs) ∧ RVs T S κ H xs vs
  | .ins c fs => ∃ dx vs, H a = some (.ins (T.cls c) dx ((T.fld c).zip vs)) ∧ fs.length = (T.fld c).length ∧ RVs T S κ H fs vs
structure RS (T : CT) (S : Addr → Prop) (κ : List Addr) (H : Hp) (cs : Cs) : Prop where
  nd : κ.Nodup
  len : κ.length = cs.length
  dom : ∀ a, S a → H a ≠ none
  cel : ∀ (n : Nat) (o : CO) (a : Addr), cs[n]? = some o → κ[n]? = some a → RC T S κ H a o ∧ ¬ S a
variable {cs cs' : Cs}
theorem RC.mv {a : Addr} {o : CO} (m : Mv T S κ H S' κ' H') (h : RC T S κ H a o) (e : H' a = H a) : RC T S' κ' H' a o := by
  cases o with
  | lst xs =>
    obtain ⟨vs, q, r⟩ := h
    exact ⟨vs, by rw [e]; exact q, m.rvs _ _ r⟩
  | ins c fs =>
    obtain ⟨dx, vs, q, l, r⟩ := h
    exact ⟨dx, vs, by rw [e]; exact q, l, m.rvs _ _ r⟩
theorem RC.some {a : Addr} {o : CO} (h : RC T S κ H a o) : ∃ u, H a = some u ∧ ¬ Sealed u := by
  cases o with
  | lst xs =>
    obtain ⟨vs, q, r⟩ := h
    exact ⟨_, q, fun z => z⟩
  | ins c fs =>
    obtain ⟨dx, vs, q, l, r⟩ := h
    exact ⟨_, q, fun z => z⟩
theorem RS.at (h : RS T S κ H cs) {a : Addr} (ha : a ∈ κ) : ∃ (n : Nat) (o : CO), κ[n]? = .some a ∧ cs[n]? = .some o ∧ RC T S κ H a o ∧ ¬ S a := by
  obtain ⟨n, hn, e⟩ := List.getElem_of_mem ha
  have hk : κ[n]? = .some a := by rw [List.getElem?_eq_getElem hn, e]
  have hc : n < cs.length := by rw [← h.len]; exact hn
  exact ⟨n, cs[n], hk, List.getElem?_eq_getElem hc, h.cel n _ a (List.getElem?_eq_getElem hc) hk⟩
theorem RS.kdom (h : RS T S κ H cs) {a : Addr} (ha : a ∈ κ) : H a ≠ none := fun z => by
  obtain ⟨n, o, _, _, r, _⟩ := h.at ha
  obtain ⟨u, q, _⟩ := r.some
  rw [q] at z; cases z
theorem RS.mv (h : RS T S κ H cs) (m : Mv T S κ H S' κ H') (e : ∀ a ∈ κ, H' a = H a) (d : ∀ a, S' a → H' a ≠ none) (n : ∀ a ∈ κ, ¬ S' a) : RS T S' κ H' cs :=
  ⟨h.nd, h.len, d, fun i o a e1 e2 => ⟨(h.cel i o a e1 e2).1.mv m (e a (List.mem_of_getElem? e2)), n a (List.mem_of_getElem? e2)⟩⟩
/-- a new object -/
theorem RS.new (h : RS T S κ H cs) {p : Addr} {o : HO} (hp : H p = none) : RS T S κ (upd H p o) cs :=
  h.mv (Stp.new hp).mv (fun a ha => upd_ne fun z => h.kdom ha (by rw [z]; exact hp)) (fun a s z => by
    by_cases q : a = p
    · subst q; exact h.dom a s hp
    · rw [upd_ne q] at z; exact h.dom a s z) fun a ha => let ⟨_, _, _, _, _, n⟩ := h.at ha; n
theorem RS.sub (h : RS T S κ H cs) (q : ∀ a, S' a → S a) : RS T S' κ H cs :=
  h.mv (Mv.anti q) (fun _ _ => rfl) (fun a s => h.dom a (q a s)) fun a ha z => let ⟨_, _, _, _, _, n⟩ := h.at ha; n (q a z)
/-- a forbidden place (no cell) is written -/
theorem RS.wr (h : RS T S κ H cs) {p : Addr} {o o' : HO} (ho : H p = .some o) (hs : ¬ Sealed o) (hp : S p) : RS T S κ (upd H p o') cs :=
  h.mv (Mv.wr ho hs (.inl hp)) (fun a ha => upd_ne fun z => by subst z; obtain ⟨_, _, _, _, _, n⟩ := h.at ha; exact n hp) (fun a s z => by
    by_cases q : a = p
    · subst q; rw [upd_same] at z; cases z
    · rw [upd_ne q] at z; exact h.dom a s z) fun a ha => let ⟨_, _, _, _, _, n⟩ := h.at ha; n
end
end EG

-- Eng8
/-! Engine 8: rules of the model's level: attributes as targets, several clauses with names, iter(..) of a tuple. -/
namespace EG
open PySem PySem.Spec L2 PyProof.Rows

/-- o.f as a target -/
def gFld (K : PySem.W.Frag) (t : TE) (f : Str) : TG := fun v σ H Q => t σ H fun x G => ∃ a C dx fs, x = .ref a ∧ G a = some (.ins C dx fs) ∧ Cls K C ∧ NoAttr K C f ∧ fs.length < 1000 ∧ Q σ (upd G a (.ins C dx (putF f v fs)))
theorem pg_fld {X : Cx} {o : Expr} {f : Str} {pos : Pos} {t : TE} (h : PE X o t) : PG X (.Attribute o f pos) (gFld X.K t f) := ⟨fun pins s σ H v u Q I r w => by
  rw [assign_Attribute]
  refine wpAny_bind (wpAny_holding (thn (h.run pins s σ H _ I w) fun y s1 ⟨x, G, I1, rx, a, C, dx, fs, e, ea, c, n, l, q⟩ => ?_))
  cases e
  have ey : y = Value.ref a := rx
  subst ey
  exact wpAny_bind (wpAny_standAt (wpAny_bind (wpAny_holding (setattr_ok I1 ea c n l r fun s3 I3 => wpAny_release ⟨σ, _, I3, q⟩))))⟩

/-! ### several clauses, each with a name or without -/
abbrev Cl := Value × Option Nat × (Addr → Value → Option Addr → TS)
def endNm (D : Ends) : Option Nat → Ends
  | none => D
  | some i => { nx := fun σ H => D.nx (σ.set i none) H, rt := D.rt, bk := fun σ H => D.bk (σ.set i none) H, ct := fun σ H => D.ct (σ.set i none) H }
def stNm (σ : L2.St) (a : Addr) : Option Nat → L2.St
  | none => σ
  | some i => σ.set i (some (.ref a))
def wCl (K : PySem.W.Frag) (Wout : WX) (D : Ends) : List Cl → WX
  | [] => Wout
  | p :: r => fun cls d σ H => ∃ b, PySem.W.exmOne K cls p.1 = some b ∧ (b = true → ∀ a, H a = none → p.2.2 a cls d (endNm D p.2.1) (stNm σ a p.2.1) H) ∧ (b = false → wCl K Wout D r cls d σ H)
def nmAt (X : Cx) : Option Nat → Option Str → Prop
  | none, none => True
  | some i, some n => X.N[i]? = some n ∧ X.env.kindOf n = some .local
  | _, _ => False
inductive ClsOk (X : Cx) : List ExceptHandler → List Cl → Prop
  | nil : ClsOk X [] []
  | cons {x : Str} {c : Value} {nm : Option Nat} {n : Option Str} {ts : Addr → Value → Option Addr → TS} {b₀ : Stmt} {rest : List Stmt} {p1 p2 : Pos} {hds : List ExceptHandler} {l : List Cl} (hc : Names X x c) (hn : nmAt X nm n)
      (hs : ∀ (a : Addr) (oe : Obj) (cls : Value) (d : Option Addr) (pn : List (Addr × Obj)), Zc cls d oe → (∃ vs, oe.data = .fields vs) → PSs (X.suite a ((a, oe) :: pn)) (b₀ :: rest) (ts a cls d)) (r : ClsOk X hds l) :
      ClsOk X (.ExceptHandler (some (.Name x p1)) n (b₀ :: rest) p2 :: hds) ((c, nm, ts) :: l)
section
variable {X : Cx} {body : List Stmt} {h₀ : ExceptHandler} {hds : List ExceptHandler} {l : List Cl} {pos : Pos} {tb : WX → TS} {Wout : WX}
theorem ps_try_cl (hs : X.stack = X.env :: X.outer) (hf : X.env.frame = some X.env.locals) (hN : X.N.Nodup) (tk : Takes X Wout)
    (hb : ∀ (W : WX) (pn : List (Addr × Obj)) (xe : Value → Shared → Prop), Takes (X.tr pn xe) W → PassesOwn (model X.prog X.w) X.A X.env xe → PSs (X.tr pn xe) body (tb W))
    (hh : ClsOk X (h₀ :: hds) l) : PS X (.Try body (h₀ :: hds) [] [] pos) (fun D σ H => tb (wCl X.K Wout D l) D σ H) := ⟨fun pins s σ H D I w0 => by
  have ok := I.ok
  have fr0 : X.A.frames = some (X.env :: X.outer) := ok.frames.trans (congrArg some hs)
  refine wpAny_Try_except (wpAny_mono ((hb (wCl X.K Wout D l) (X.pn ++ pins) (fun e s₁ => wpAny (model X.prog X.w) X.A (noteFrame e X.env) (fun _ s₂ => wpAny (model X.prog X.w) X.A (setFlight e none) (fun _ s₃ => wpAny (model X.prog X.w) X.A (handleBy e X.env (h₀ :: hds)) (SP X pins D) X.xe s₃) X.xe s₂) X.xe s₁) (fun u s' xx => ?_) PassesOwn.looking).run [] s σ H D (I.toTry _) w0) (fun f s1 hp => ?_) fun e s1 he => he)
  · obtain ⟨a, B, sI, pins', τ, G, cls, d, rfl, J', nb, up, sky, na, os, ag, wc⟩ := xx
    have J : Inv X pins τ G sI := J'.ofTry ok
    have sky1 : Sky B (X.env :: X.outer) a (Zc cls d) X.env.locals s'.heap := hs ▸ sky
    show wpAny (model X.prog X.w) X.A (noteFrame (.ref a) X.env) _ _ _
    refine Sky.land Zc.steady fr0 hf sky1 fun h3 fl3 up3 => ?_
    have J3 : Inv X pins τ G { s' with heap := h3 } := J.landed nb fl3.1 (up.trans up3) os ag
    obtain ⟨o3, vs3, e3, z3, d3⟩ := fl3.there
    have offF : a ∉ frs (X.env :: X.outer) := fun hm => by
      obtain ⟨_, o', e', q⟩ := fl3.2.2.1.mem hm
      rw [e3] at e'
      cases e'
      exact q _ d3
    have offL : a ≠ X.env.locals := fun z => offF (List.mem_filterMap.mpr ⟨X.env, List.mem_cons_self, hf.trans (congrArg some z.symm)⟩)
    have offX : a ∉ X.fs := fun hm => let ⟨e, he, q⟩ := List.mem_filterMap.mp hm; offF (List.mem_filterMap.mpr ⟨e, List.mem_cons_of_mem _ he, q⟩)
    have S3 := J3.suite e3 d3 na offL offX
    have go : ∀ {hds' : List ExceptHandler} {l' : List Cl}, ClsOk X hds' l' → wCl X.K Wout D l' cls d τ G → wpAny (model X.prog X.w) X.A (handleBy (.ref a) X.env hds') (SP X pins D) X.xe { s' with heap := h3 } := by
      intro hds' l' hk
      induction hk with
      | nil =>
        intro w1
        obtain ⟨_, _, _, _, _, T, _, _, he, _, hd, h1, _⟩ := id fl3
        have last : wpAny (model X.prog X.w) X.A (setFlight (.ref a) X.env.frame) (fun _ s4 => wpAny (model X.prog X.w) X.A (throw (.ref a) : Sem Flow) (SP X pins D) X.xe s4) X.xe { s' with heap := h3 } := by
          rw [hf]
          exact HandSPX.setFlight_upZ fl3 fun h4 hh4 up4 => wpAny_throw (tk _ _ ⟨a, B, sI, pins, τ, G, cls, d, rfl, J, nb, (up.trans up3).trans up4, .inr (.inr (hs.symm ▸ hh4)), na, os, ag, w1⟩)
        refine wpAny_handleBy_nil ?_
        unfold PySem.passOn
        refine wpAny_bind (wpAny_field he hd h1 ?_)
        rw [if_neg (show ¬ ((Value.ref T == Value.none) = true) from by simp)]
        first | exact wpAny_bind (wpAny_pure (wpAny_bind last)) | exact wpAny_bind last
      | @cons x c nm n ts b₀ rest p1 p2 hds2 l2 hc hn hsu r ih =>
        intro w1
        obtain ⟨b, hb1, yes, no⟩ := w1
        refine wpAny_handleBy_cons (codeAny_handlers_test ?_) (by intro q; cases q)
        have LT : PySem.W.Looks (model X.prog X.w) h3 (typeOf (.ref a)) cls := fun A Q E s k q => wpAny_typeOf_ref (k _ _ e3) (by rw [z3.1]; exact q)
        have LM := PySem.W.exm_one (M := model X.prog X.w) J3.kIn LT hb1
        have named : ∀ {Q : Value → Shared → Prop} {E : Value → Shared → Prop}, Q c { s' with heap := h3 } → wpAny (model X.prog X.w) (X.A.mark (some (.ref a))) (eval (.Name x p1) X.env) Q E { s' with heap := h3 } := fun {Q E} q => by
          obtain ⟨hg, hd, k⟩ := hc
          rcases k with k | ⟨k1, k2, k3⟩
          · exact ld_glob (X := X.suite a ((a, o3) :: (X.pn ++ pins))) S3 hg k q hd
          · exact ld_blt (X := X.suite a ((a, o3) :: (X.pn ++ pins))) S3 hg k1 k2 q k3 hd
        refine named (LM.here ?_)
        cases b with
        | false => exact ih (no rfl)
        | true =>
          cases n with
          | none =>
            cases nm with
            | some i => exact hn.elim
            | none =>
              refine codeAny_handlers_suite (HandSPX.lands_againZ fl3 fun h4 fl4 up4 => ?_)
              have J4 : Inv X pins τ G { s' with heap := h4 } := J.landed nb fl4.1 ((up.trans up3).trans up4) os ag
              obtain ⟨o4, vs4, e4, z4, d4⟩ := fl4.there
              refine wpAny_mono ((hsu a o4 cls d (X.pn ++ pins) z4 ⟨_, d4⟩).run [] _ _ G _ (J4.suite e4 d4 na offL offX) (yes rfl a na)) (fun f s6 hp => ?_) fun _ _ z => False.elim z
              cases f with
              | ret u => obtain ⟨v, σ6, G6, S6, r6, q6⟩ := hp; exact ⟨v, σ6, G6, S6.unsuite ok, r6, q6⟩
              | next => obtain ⟨σ6, G6, S6, q6⟩ := hp; exact ⟨σ6, G6, S6.unsuite ok, q6⟩
              | brk => obtain ⟨σ6, G6, S6, q6⟩ := hp; exact ⟨σ6, G6, S6.unsuite ok, q6⟩
              | cont => obtain ⟨σ6, G6, S6, q6⟩ := hp; exact ⟨σ6, G6, S6.unsuite ok, q6⟩
          | some y =>
            cases nm with
            | none => exact hn.elim
            | some i =>
              obtain ⟨hi, hln⟩ := hn
              have hloc : Loc X.env.scope y := .inl hln
              refine codeAny_handlers_suite_as (HandSPX.lands_againZ fl3 fun h4 fl4 up4 => ?_)
              have J4 : Inv X pins τ G { s' with heap := h4 } := J.landed nb fl4.1 ((up.trans up3).trans up4) os ag
              obtain ⟨o4, vs4, e4, z4, d4⟩ := fl4.there
              refine store_ok (X := X.suite a ((a, o4) :: (X.pn ++ pins))) (v := .ref a) (J4.suite e4 d4 na offL offX) hN hi hloc rfl (fun s5 S5 => ?_) (.inr hln)
              refine wpAny_mono ((hsu a o4 cls d (X.pn ++ pins) z4 ⟨_, d4⟩).run [] s5 _ G _ S5 (yes rfl a na)) (fun f s6 hp => ?_) fun _ _ z => False.elim z
              have gone : ∀ {σ6 : L2.St} {G6 : Hp} {Q : Shared → Prop}, Inv (X.suite a ((a, o4) :: (X.pn ++ pins))) [] σ6 G6 s6 → (∀ s7, Inv X pins (σ6.set i none) G6 s7 → Q s7) → wpAny (model X.prog X.w) X.A (do bindName X.env y .none; unbindBehindTheSuite X.env y p2) (fun _ s7 => Q s7) X.xe s6 := fun {σ6 G6 Q} S6 q => gone_ok (S6.unsuite ok) hN hi hln q
              cases f with
              | ret u => obtain ⟨v, σ6, G6, S6, r6, q6⟩ := hp; exact gone S6 fun s7 J7 => ⟨v, _, G6, J7, r6, q6⟩
              | next => obtain ⟨σ6, G6, S6, q6⟩ := hp; exact gone S6 fun s7 J7 => ⟨_, G6, J7, q6⟩
              | brk => obtain ⟨σ6, G6, S6, q6⟩ := hp; exact gone S6 fun s7 J7 => ⟨_, G6, J7, q6⟩
              | cont => obtain ⟨σ6, G6, S6, q6⟩ := hp; exact gone S6 fun s7 J7 => ⟨_, G6, J7, q6⟩
    exact go hh wc
  · cases f with
    | ret u => obtain ⟨v, τ, G, J', r, q⟩ := hp; exact ⟨v, τ, G, J'.ofTry ok, r, q⟩
    | next => obtain ⟨τ, G, J', q⟩ := hp; exact wpAny_execs_nil ⟨τ, G, J'.ofTry ok, q⟩
    | brk => obtain ⟨τ, G, J', q⟩ := hp; exact ⟨τ, G, J'.ofTry ok, q⟩
    | cont => obtain ⟨τ, G, J', q⟩ := hp; exact ⟨τ, G, J'.ofTry ok, q⟩⟩
end
/-! ### iter(..) of a tuple -/
/-- at it an iterator over the tuple at t, the next place is i -/
def itT (t it : Addr) (i : Nat) : HO := .ext fun h => h.IsTupleIter it t i
/-- .. that has ended -/
def itX (it : Addr) : HO := .ext fun h => ∃ o, h.get? it = some o
theorem itT_ok {P : Program} {w : World} {H : Hp} {h : Heap} {t it : Addr} {i : Nat} (e : h.IsTupleIter it t i) : ObjOk P w H h it (itT t it i) := by
  have e2 := e
  obtain ⟨o, ho, _⟩ := e2
  exact ⟨e, ⟨o, ho⟩, fun h1 h2 q k => q.at fun o e => k _ e⟩
theorem itX_ok {P : Program} {w : World} {H : Hp} {h : Heap} {it : Addr} {o : Obj} (e : h.get? it = some o) : ObjOk P w H h it (itX it) := ⟨⟨o, e⟩, ⟨o, e⟩, fun h1 h2 ⟨o, q⟩ k => ⟨o, k _ q⟩⟩
section
variable {X : Cx} {pins : List (Addr × Obj)} {σ : L2.St} {H : Hp} {s : Shared} {t it q : Addr} {i : Nat} {zs : List V}
theorem itT_get (I : Inv X pins σ H s) (e : H it = some (itT t it i)) : s.heap.IsTupleIter it t i := (I.hok it _ e).1
/-- iter(t), t a tuple -/
def rIterT (K : PySem.W.Frag) : List V → Hp → VK → Prop := fun xs H Q => ∃ (t : Addr) (zs : List V), xs = [.ref t] ∧ SqT K H t zs ∧ ∀ it, H it = none → Q (.ref it) (upd H it (itT t it 0))
theorem call_iterT : CallR X (.builtin "iter") (rIterT X.K) := by
  rintro pins s σ H xs us Q I r ⟨t, zs, rfl, hq, k⟩
  obtain rfl := Vals.ref1 r
  obtain ⟨its, rv, p, hz⟩ := I.tuple hq
  refine Calls.call_function_entry (by decide +kernel) (by decide +kernel) PySem.W.kdk_entry_iter (PySem.W.kdk_args_iter _) ?_
  unfold Builtin.«iter»
  refine wpAny_bind (m := someArgs "iter" 1 2 _) (wpAny_of_eq (a := [Value.ref t]) (by first | rfl | kernel_rfl!) ?_)
  show wpAny _ _ (pyIter (.ref t) >>= _) _ _ _
  refine wpAny_bind (wpAny_pyIter_tuple (show s.heap.IsTuple t its.toArray from p) (wpAny_pure ⟨_, rfl, .ref s.heap.objs.size, _, I.laid (t' := s.toks) (fun b u e => Heap.get?_push_of_some _ e) (Nat.le_refl _) (itT_ok ⟨_, Heap.get?_push_size _ rfl, rfl, rfl⟩), rfl, k _ (I.hok.fresh (Nat.le_refl _))⟩))
/-- what such an __iter__ promises -/
def spIt (K : PySem.W.Frag) (C : Addr) (f : Str) : Sp := fun vs H Q _ => ∃ a dx fs t zs, vs = [.ref a] ∧ H a = some (.ins C dx fs) ∧ fs.lookup f = some (.ref t) ∧ SqT K H t zs ∧ ∀ it, H it = none → Q (.ref it) (upd H it (itT t it 0))
theorem sqt_upd {K : PySem.W.Frag} {b : Addr} {o u : HO} (hq : SqT K H t zs) (hb : H b = some u) (hu : ∀ xs, u ≠ .tup xs) (hu2 : ∀ o xs, u ≠ .frz o (.tup xs)) : SqT K (upd H b o) t zs := by
  rcases hq with (h | ⟨o', h⟩) | h
  · exact .inl (.inl (by rw [upd_ne fun z => by subst z; rw [hb] at h; exact hu _ (Option.some.inj h)]; exact h))
  · exact .inl (.inr ⟨o', by rw [upd_ne fun z => by subst z; rw [hb] at h; exact hu2 _ _ (Option.some.inj h)]; exact h⟩)
  · exact .inr h
/-- a turn of the iterator -/
theorem itT_next {A : Around} {E : Value → Shared → Prop} {z : V} {Q : Option Value → Shared → Prop} (I : Inv X pins σ H s) (hi : H it = some (itT t it i)) (hq : SqT X.K H t zs) (hz : zs[i]? = some z)
    (k : ∀ u s', RelV z u → Inv X pins σ (upd H it (itT t it (i + 1))) s' → Q (some u) s') : wpAny (model X.prog X.w) A (pyNext (.ref it)) Q E s := by
  obtain ⟨its, rv, p, _⟩ := I.tuple hq
  obtain ⟨u, hu, ru⟩ := rv.get hz
  refine wpAny_pyNext_tuple_item (itT_get I hi) (show s.heap.IsTuple t its.toArray from p) (x := u) (by rw [List.getElem?_toArray]; exact hu) fun h' st sb => ?_
  have st2 := st
  obtain ⟨o, ho, _⟩ := st2
  exact k u _ ru (I.write (x := it) (e := it) (t' := s.toks) (by rw [hi]; exact True.intro) (.inl rfl) (fun b o nb z => (sb.2 b nb).trans z) ⟨o, ho⟩ (itT_ok st))
/-- the end of the iterator -/
theorem itT_end {A : Around} {E : Value → Shared → Prop} {Q : Option Value → Shared → Prop} (hh : A.handled = none) (I : Inv X pins σ H s) (hi : H it = some (itT t it i)) (hq : SqT X.K H t zs) (hz : zs[i]? = none)
    (k : ∀ s', Inv X pins σ (upd H it (itX it)) s' → Q none s') : wpAny (model X.prog X.w) A (pyNext (.ref it)) Q E s := by
  obtain ⟨its, rv, p, _⟩ := I.tuple hq
  have n : its.toArray[i]? = none := by rw [List.getElem?_toArray]; exact rv.none_of hz
  have st := itT_get I hi
  have st2 := st
  obtain ⟨o, ho, hc, hd⟩ := st2
  obtain ⟨ol, hol, _, nl, hdl⟩ := (show s.heap.IsTuple t its.toArray from p)
  unfold pyNext
  refine wpAny_bind (wpAny_attempt (wpAny_callSpecial?_slot (name := Str.ofString "__next__") st.typeIs F.slot_tuple_iterator_next (wpAny_call_entry F.slot_tuple_iterator_next st.typeIs F.entry_tuple_iterator_next ?_ (F.args_tuple_iterator_next_1 _))))
  show wpAny _ _ (field (.ref it) 0 >>= _) _ _ s
  refine wpAny_bind (wpAny_field ho hd (x := .ref t) rfl ?_)
  show wpAny _ _ (if (Value.ref t == Value.none) = true then _ else _) _ _ s
  rw [if_neg (show ¬ (Value.ref t == Value.none) = true by simp)]
  show wpAny _ _ (field (.ref it) 1 >>= _) _ _ s
  refine wpAny_bind (wpAny_field ho hd (x := .int i 0) rfl ?_)
  show wpAny _ _ (seqItems? (.ref t) >>= _) _ _ s
  refine wpAny_bind (wpAny_seqItems hol hdl ?_)
  simp only [Int.toNat_natCast, n]
  refine wpAny_bind (wpAny_rule (wpAny_bind (wpAny_setField ho hd (by simp) ?_)))
  show wpAny _ _ (newExc (.type "StopIteration") [] >>= _) _ _ _
  refine wpAny_bind ?_
  simp only [newExc, newTuple]
  refine wpAny_bind (wpAny_newObj_type ?_ (by size_fits))
  refine wpAny_bind (m := firstArgMember _ _) (wpAny_of_eq (a := Value.none) (by first | rfl | (simp only [firstArgMember]; rfl)) ?_)
  refine wpAny_newObj_type ?_ (by size_fits)
  simp only [raiseNew]
  refine wpAny_bind (wpAny_handled ?_)
  first | rw [show A.in1.handled = none from hh] | rw [hh]
  refine wpAny_bind (wpAny_pure ?_)
  refine wpAny_throw ?_
  refine wpAny_bind ?_
  refine wpAny_isInstance (T := "StopIteration") (b := true) ⟨_, Heap.get?_push_size _ rfl, rfl⟩ isSubtype_stop ?_
  refine wpAny_pure ?_
  have h1 := Heap.get?_update_self (Obj.mapFields (·.setIfInBounds 0 Value.none)) ho (Obj.isFreed_of_fields (Obj.data_mapFields hd _))
  exact k _ (I.write (x := it) (e := it) (t' := s.toks) (by rw [hi]; exact True.intro) (.inl rfl) (fun b o nb z => Heap.get?_push_of_some _ (Heap.get?_push_of_some _ (((Heap.SameBut.update ..).2 b nb).trans z))) ⟨_, Heap.get?_push_of_some _ (Heap.get?_push_of_some _ h1)⟩ (itX_ok (Heap.get?_push_of_some _ (Heap.get?_push_of_some _ h1))))
/-- the list at q is filled from the iterator -/
theorem itT_fill {A : Around} {Rs : Result → Shared → Prop} (hh : A.handled = none) (hz : zs.length ≤ 1000000) (hne : q ≠ it) : ∀ (n i : Nat) (H : Hp) (s : Shared), n + i = zs.length → Inv X pins σ H s → H it = some (itT t it i) → H q = some (.lst (zs.take i)) → SqT X.K H t zs →
    (∀ H' s', Inv X pins σ H' s' → H' q = some (.lst zs) → H' it = some (itX it) → (∀ b, b ≠ it → b ≠ q → H' b = H b) → Rs (.ok (.ret .none)) s') → codeAny (model X.prog X.w) A (.builtin "list.extend.loop" ⟨[.ref q, .ref it, .none], []⟩) Rs s := by
  intro n
  have l6 : (1000000 : Nat) < sizeLine := by rw [sizeLine_eq]; decide
  induction n with
  | zero =>
    intro i H s hn I hi hl hq k
    refine codeAny_builtin PySem.F.entry_extend_loop ?_
    rw [Around.under_plainId PySem.F.plain_extend_loop _]
    show wpAny _ A.in1 (pyNext (.ref it) >>= _) _ _ s
    refine wpAny_bind (itT_end hh I hi hq (List.getElem?_eq_none (by omega)) fun s' I' => wpAny_pure (k _ s' I' ?_ upd_same ?_))
    · rw [upd_ne hne, hl, List.take_of_length_le (by omega)]
    · intro b h1 _; exact upd_ne h1
  | succ n ih =>
    intro i H s hn I hi hl hq k
    refine codeAny_builtin PySem.F.entry_extend_loop ?_
    rw [Around.under_plainId PySem.F.plain_extend_loop _]
    show wpAny _ A.in1 (pyNext (.ref it) >>= _) _ _ s
    have hlt : i < zs.length := by omega
    refine wpAny_bind (itT_next I hi hq (List.getElem?_eq_getElem hlt) fun u s' ru I' => ?_)
    show wpAny _ A.in1 (updateSeq q (·.push u) >>= _) _ _ _
    have hl' : upd H it (itT t it (i + 1)) q = some (.lst (zs.take i)) := by rw [upd_ne hne]; exact hl
    obtain ⟨z, its, m, r2, hl2, e⟩ := I'.lstM hl'
    have e3 : zs.take i ++ [zs[i]] = zs.take (i + 1) := by rw [List.take_add_one, List.getElem?_eq_getElem hlt]; rfl
    have l1 : its.length = i := by
      have := r2.length
      rw [List.length_take] at this
      omega
    refine wpAny_bind (wpAny_updateSeq e rfl (wpAny_pure ⟨plainId_quiet PySem.F.plain_extend_loop _, ?_⟩) (by rw [List.size_toArray]; omega) (by show (its.toArray.push u).size ≤ sizeLine + 1; rw [Array.size_push, List.size_toArray]; omega))
    have I2 := I'.lset (f := (·.push u)) (its' := its ++ [u]) (ys := zs.take i ++ [zs[i]]) (t' := s'.toks) hl' e (by simp) (r2.append (.cons ru .nil)) (by rw [List.length_append, List.length_singleton, List.length_take]; omega)
    rw [e3] at I2
    refine ih (i + 1) _ _ (by omega) I2 (by rw [upd_ne hne.symm, upd_same]) upd_same ?_ fun H' s'' J e1 e2 e4 => k H' s'' J e1 e2 fun b b1 b2 => by rw [e4 b b1 b2, upd_ne b2, upd_ne b1]
    exact sqt_upd (sqt_upd hq hi (fun xs z => by cases z) (fun o xs z => by cases z)) hl' (fun xs z => by cases z) fun o xs z => by cases z
end
end EG

-- EngB
/-! Engine B: the small syntax (CE, CS) and what it computes. -/
namespace EG
open PySem PySem.Spec L2

/-- a result: a value, an exception (its class, its fields), or nothing is known -/
inductive R (α : Type) where
  | ok (a : α) (cs : Cs)
  | exc (c : Nat) (pl : List IV) (cs : Cs)
  | stuck
def R.bind {α β : Type} (r : R α) (f : α → Cs → R β) : R β := match r with
  | .ok a cs => f a cs
  | .exc c pl cs => .exc c pl cs
  | .stuck => .stuck
/-- an exception here is not carried -/
def R.noexc {α : Type} (r : R α) : R α := match r with
  | .exc _ _ _ => .stuck
  | r => r
@[simp] theorem R.bind_ok {α β : Type} (a : α) (cs : Cs) (f : α → Cs → R β) : (R.ok a cs).bind f = f a cs := rfl
@[simp] theorem R.bind_exc {α β : Type} (c : Nat) (pl : List IV) (cs : Cs) (f : α → Cs → R β) : (R.exc c pl cs : R α).bind f = .exc c pl cs := rfl
@[simp] theorem R.bind_stuck {α β : Type} (f : α → Cs → R β) : (R.stuck : R α).bind f = .stuck := rfl
@[simp] theorem R.noexc_ok {α : Type} (a : α) (cs : Cs) : (R.ok a cs).noexc = .ok a cs := rfl

inductive BO where
  | add | sub | mul | fdiv | mod | pow
  deriving DecidableEq
inductive Blt where
  | len | abs | int | str | tuple | list | sum | all | any | min | max
  deriving DecidableEq
inductive Ty where
  | int | bool | str | tuple | list | cls (c : Nat)
  deriving DecidableEq

mutual
/-- an expression -/
inductive CE where
  | stuck
  | var (i : Nat) | non | bl (b : Bool) | int (i : Int) | str (x : Str) | con (k : Nat)
  | tup (as : CA) | lst (as : CA)
  | bin (op : BO) (a b : CE) | neg (a : CE)
  | cmp (op : CmpOp) (a b : CE) | isN (a : CE) | notN (a : CE)
  | chain (o1 o2 : CmpOp) (a b c : CE)
  | and (a b : CE) | or (a b : CE) | not (a : CE)
  | ite (t a b : CE)
  | call (f : Nat) (as : CA) | mk (c : Nat) (as : CA) | meth (c f : Nat) (o : CE) (as : CA)
  | attr (o : CE) (c k : Nat)
  | blt (b : Blt) (as : CA)
  | isi (a : CE) (t : Ty)
  | sub (a i : CE)
  | sli (a : CE) (lo hi : CP)
  | comp (elt : CE) (own tg : List Nat) (it : CI) (cond : CP)
  | comp2 (elt : CE) (own tg : List Nat) (it : CI) (tg1 : List Nat) (it1 : CI) (cond1 : CP)
  | fs2 (a : CE) (s : Str) (b : CE)
  | join (s : Str) (a : CE)
  | clst (as : CA)
  | cval (c : Nat) (f : Str) (i : Int)
  | lenm (c f : Nat) (as : CA)
  | strm (c f : Nat) (as : CA)
  | rev (a : CE)
  /-- o.f, a property: its getter is the def f -/
  | prp (c f : Nat) (o : CE)
  /-- list(o), o of a class whose __iter__ says iter(self.x), x its field k; its __len__ is the def f -/
  | lsti (c f k : Nat) (as : CA)
/-- arguments -/
inductive CA where
  | nil | cons (e : CE) (as : CA)
/-- what is walked -/
inductive CI where
  | ex (e : CE) | rng1 (a : CE) | rng2 (a b : CE) | enum (e : CE) | zip (a b : CE)
/-- a part that may be left out -/
inductive CP where
  | no | some (e : CE)
end

/-- what the calls of a text do, and its constants -/
structure Fns where
  fn : Nat → List IV → Cs → R IV
  init : Nat → List IV → Cs → R (List IV)
  con : Nat → IV
  /-- the numbers of Quotient's methods, its class -/
  q : Nat
  add : Nat
  sub : Nat
  mul : Nat
  neg : Nat
  lt : Nat
  le : Nat
  eq : Nat
  str : Nat
  /-- a class whose instances stand in cells -/
  cel : Nat → Bool
  /-- the number of classes -/
  nc : Nat
  /-- the quotient's own == is known -/
  eqk : Bool
  /-- exceptions that a clause may take, and which is under which -/
  xok : Nat → Bool
  xsub : Nat → Nat → Bool

abbrev Env := List (Option IV)

/-! ### operations by values -/
def smallI (i : Int) : Bool := decide (i.natAbs.log2 < 8000)
def smallW (i : Int) : Bool := decide (i.natAbs.log2 < 60000000)
/-- == of two values that hold no others -/
def eq0 : IV → IV → Bool
  | .non, .non => true
  | .bl a, .bl b => a == b
  | .bl a, .int j => (if a then 1 else 0) == j
  | .int i, .bl b => i == (if b then 1 else 0)
  | .int i, .int j => i == j
  | .str x, .str y => x == y
  | _, _ => false
def eqL (f : IV → IV → Option Bool) : List IV → List IV → Option Bool
  | [], [] => some true
  | x :: xs, y :: ys => match f x y with
      | some true => eqL f xs ys
      | some false => some false
      | none => none
  | [], _ :: _ => some false
  | _ :: _, [] => some false
/-- plain data at the top -/
def plainI : IV → Bool
  | .obj _ _ => false
  | .cell _ => false
  | .scr _ => false
  | _ => true
/-- a quotient's own == -/
def eqQ (q : Nat) : List IV → IV → Option Bool
  | [.int t, .int b], .obj c' [.int t', .int b'] => if c' = q then some (t == t' && b == b') else none
  | [.int _, .int _], y => if plainI y then some false else none
  | _, _ => none
/-- ==, where it is known -/
def eqF (q : Nat) : Nat → IV → IV → Option Bool
  | 0, _, _ => none
  | n + 1, x, y => match x, y with
      | .tup xs, .tup ys => eqL (eqF q n) xs ys
      | .lst xs, .lst ys => eqL (eqF q n) xs ys
      | .obj c fs, y => if c = q then eqQ q fs y else none
      | x, .obj c fs => if c = q then eqQ q fs x else none
      | x, y => if plainI x && plainI y then some (eq0 x y) else none
def eqI (q : Nat) (x y : IV) : Option Bool := eqF q 12 x y
def scalI : IV → Bool
  | .non => true
  | .bl _ => true
  | .int _ => true
  | .str _ => true
  | _ => false
/-- x in xs -/
def inI (x : IV) (ys : List IV) : Option Bool := if scalI x && ys.all scalI then some (ys.any fun y => eq0 y x) else none
/-- x in xs, by == -/
def inE (f : IV → IV → Option Bool) (x : IV) : List IV → Option Bool
  | [] => some false
  | y :: ys => match f y x with
      | some true => some true
      | some false => inE f x ys
      | none => none
def orI (a b : Option Bool) : Option Bool := match a with
  | some x => some x
  | none => b
def truI : IV → Option Bool
  | .non => some false
  | .bl b => some b
  | .int i => some (i != 0)
  | .str x => if x.length ≤ 1000000 then some (x.length != 0) else none
  | .tup xs => some (!xs.isEmpty)
  | .lst xs => some (!xs.isEmpty)
  | _ => none
def isiI : IV → Ty → Bool
  | .bl _, .bool => true
  | .bl _, .int => true
  | .int _, .int => true
  | .str _, .str => true
  | .tup _, .tuple => true
  | .lst _, .list => true
  | .obj c _, .cls c' => c == c'
  | _, _ => false
def isiO (x : IV) (t : Ty) : Option Bool := match x with
  | .scr _ => none
  | .cell _ => none
  | x => some (isiI x t)
def isiN (n : Nat) (x : IV) (t : Ty) : Option Bool := match x with
  | .obj c fs => if c < n then isiO (.obj c fs) t else none
  | x => isiO x t
def R.ofO {α : Type} (o : Option α) (cs : Cs) : R α := match o with
  | some a => .ok a cs
  | none => .stuck
@[simp] theorem R.ofO_some {α : Type} (a : α) (cs : Cs) : R.ofO (some a) cs = .ok a cs := rfl
def binI (Φ : Fns) (op : BO) (x y : IV) (cs : Cs) : R IV := match op, x, y with
  | .add, .int i, .int j => .ok (.int (i + j)) cs
  | .sub, .int i, .int j => .ok (.int (i - j)) cs
  | .mul, .int i, .int j => if smallW i && smallW j then .ok (.int (i * j)) cs else .stuck
  | .fdiv, .int i, .int j => if j ≠ 0 ∧ smallI j = true then .ok (.int (i.fdiv j)) cs else .stuck
  | .mod, .int i, .int j => if j ≠ 0 then .ok (.int (i.fmod j)) cs else .stuck
  | .pow, .int i, .int j => if 0 ≤ j ∧ j ≤ 1000 ∧ i.natAbs < 1000 then .ok (.int (i ^ j.toNat)) cs else .stuck
  | .add, .tup xs, .tup ys => if xs.length + ys.length ≤ 1000000 then .ok (.tup (xs ++ ys)) cs else .stuck
  | .add, .lst xs, .lst ys => if xs.length + ys.length ≤ 1000000 then .ok (.lst (xs ++ ys)) cs else .stuck
  | .add, .str a, .str b => if a.length + b.length ≤ 1000000 then .ok (.str (a ++ b)) cs else .stuck
  | .mul, .tup xs, .int k => if xs.isEmpty = false ∧ 2 ≤ k ∧ k ≤ 1000 ∧ xs.length ≤ 1000 then .ok (.tup (List.replicate k.toNat xs).flatten) cs else .stuck
  | .mul, .lst xs, .int k => if 0 ≤ k ∧ k ≤ 1000 ∧ xs.length ≤ 1000 then .ok (.lst (List.replicate k.toNat xs).flatten) cs else .stuck
  | .mul, .str a, .int k => if 0 ≤ k ∧ k ≤ 1000 ∧ a.length ≤ 1000 then .ok (.str (Txt.mul a k)) cs else .stuck
  | op, .obj c fs, .obj c' gs => if c = Φ.q ∧ c' = Φ.q then (match op with
      | .add => Φ.fn Φ.add [.obj c fs, .obj c' gs] cs
      | .sub => Φ.fn Φ.sub [.obj c fs, .obj c' gs] cs
      | .mul => Φ.fn Φ.mul [.obj c fs, .obj c' gs] cs
      | _ => .stuck) else .stuck
  | _, _, _ => .stuck
def eqG (Φ : Fns) (x y : IV) : Option Bool := if Φ.eqk then eqI Φ.q x y else (match x, y with
  | .int i, .int j => some (i == j)
  | _, _ => none)
def inQ (Φ : Fns) (x : IV) (ys : List IV) : Option Bool := if Φ.eqk then inE (eqI Φ.q) x ys else none
def cmpI (Φ : Fns) (op : CmpOp) (x y : IV) (cs : Cs) : R IV := match op, x, y with
  | .Eq, x, y => (R.ofO (eqG Φ x y) cs).bind fun b cs => .ok (.bl b) cs
  | .NotEq, x, y => (R.ofO (eqG Φ x y) cs).bind fun b cs => .ok (.bl (!b)) cs
  | .Lt, .int i, .int j => .ok (.bl (decide (i < j))) cs
  | .LtE, .int i, .int j => .ok (.bl (decide (i ≤ j))) cs
  | .Gt, .int i, .int j => .ok (.bl (decide (j < i))) cs
  | .GtE, .int i, .int j => .ok (.bl (decide (j ≤ i))) cs
  | .Lt, .obj c fs, .obj c' gs => if c = Φ.q ∧ c' = Φ.q then Φ.fn Φ.lt [.obj c fs, .obj c' gs] cs else .stuck
  | .LtE, .obj c fs, .obj c' gs => if c = Φ.q ∧ c' = Φ.q then Φ.fn Φ.le [.obj c fs, .obj c' gs] cs else .stuck
  | .In, x, .tup ys => (R.ofO (orI (inI x ys) (inQ Φ x ys)) cs).bind fun b cs => .ok (.bl b) cs
  | .In, x, .lst ys => (R.ofO (orI (inI x ys) (inQ Φ x ys)) cs).bind fun b cs => .ok (.bl b) cs
  | .NotIn, x, .tup ys => (R.ofO (orI (inI x ys) (inQ Φ x ys)) cs).bind fun b cs => .ok (.bl (!b)) cs
  | .NotIn, x, .lst ys => (R.ofO (orI (inI x ys) (inQ Φ x ys)) cs).bind fun b cs => .ok (.bl (!b)) cs
  | .In, .str x, .str y => .ok (.bl (!(Builtin.Str.occurrences y x 0 y.length 1).isEmpty)) cs
  | _, _, _ => .stuck
/-- texts -/
def strsOf : List IV → Option (List Str)
  | [] => some []
  | .str i :: xs => (strsOf xs).map (i :: ·)
  | _ :: _ => none
/-- s.join(xs) -/
def joinI (s : Str) (x : IV) (cs : Cs) : R IV := match x with
  | .lst xs => (R.ofO (strsOf xs) cs).bind fun ys cs => if (ys.map (·.length)).sum + ys.length * s.length ≤ 1000000 then .ok (.str (Txt.join s ys)) cs else .stuck
  | _ => .stuck
def intsOf : List IV → Option (List Int)
  | [] => some []
  | .int i :: xs => (intsOf xs).map (i :: ·)
  | _ :: _ => none
def blsOf : List IV → Option (List Bool)
  | [] => some []
  | .bl i :: xs => (blsOf xs).map (i :: ·)
  | _ :: _ => none
def bl1 (f : IV → Cs → R IV) (as : List IV) (cs : Cs) : R IV := match as with
  | [x] => f x cs
  | _ => .stuck
def bl2 (f : IV → IV → Cs → R IV) (as : List IV) (cs : Cs) : R IV := match as with
  | [x, y] => f x y cs
  | _ => .stuck
@[simp] theorem bl1_one (f : IV → Cs → R IV) (x : IV) (cs : Cs) : bl1 f [x] cs = f x cs := rfl
@[simp] theorem bl2_two (f : IV → IV → Cs → R IV) (x y : IV) (cs : Cs) : bl2 f [x, y] cs = f x y cs := rfl
def lenI (x : IV) (cs : Cs) : R IV := match x with
  | .tup xs => .ok (.int xs.length) cs
  | .lst xs => .ok (.int xs.length) cs
  | .scr xs => .ok (.int xs.length) cs
  | .str x => if x.length ≤ 1000000 then .ok (.int x.length) cs else .stuck
  | _ => .stuck
def absI (x : IV) (cs : Cs) : R IV := match x with
  | .int i => .ok (.int (if i < 0 then -i else i)) cs
  | _ => .stuck
def intI (x : IV) (cs : Cs) : R IV := match x with
  | .int i => .ok (.int i) cs
  | .bl b => .ok (.int (if b then 1 else 0)) cs
  | .str x => if x.length ≤ 640 then (R.ofO (PySem.intText? x) cs).bind fun i cs => .ok (.int i) cs else .stuck
  | _ => .stuck
def strI (x : IV) (cs : Cs) : R IV := match x with
  | .int i => if i.natAbs.log2 < 1920 then .ok (.str (toString i)) cs else .stuck
  | _ => .stuck
def tupI (x : IV) (cs : Cs) : R IV := match x with
  | .lst xs => .ok (.tup xs) cs
  | .tup xs => .ok (.tup xs) cs
  | _ => .stuck
def lstI (x : IV) (cs : Cs) : R IV := match x with
  | .lst xs => .ok (.lst xs) cs
  | .tup xs => .ok (.lst xs) cs
  | _ => .stuck
def sumI (x : IV) (cs : Cs) : R IV := match x with
  | .lst xs => (R.ofO (intsOf xs) cs).bind fun ns cs => .ok (.int ns.sum) cs
  | _ => .stuck
def allI (x : IV) (cs : Cs) : R IV := match x with
  | .lst xs => (R.ofO (blsOf xs) cs).bind fun ns cs => .ok (.bl (ns.all id)) cs
  | _ => .stuck
def anyI (x : IV) (cs : Cs) : R IV := match x with
  | .lst xs => (R.ofO (blsOf xs) cs).bind fun ns cs => .ok (.bl (ns.any id)) cs
  | _ => .stuck
def minI (x y : IV) (cs : Cs) : R IV := match x, y with
  | .int i, .int j => .ok (.int (if j < i then j else i)) cs
  | _, _ => .stuck
def maxI (x y : IV) (cs : Cs) : R IV := match x, y with
  | .int i, .int j => .ok (.int (if j > i then j else i)) cs
  | _, _ => .stuck
def bltI (b : Blt) : List IV → Cs → R IV := match b with
  | .len => bl1 lenI
  | .abs => bl1 absI
  | .int => bl1 intI
  | .str => bl1 strI
  | .tuple => bl1 tupI
  | .list => bl1 lstI
  | .sum => bl1 sumI
  | .all => bl1 allI
  | .any => bl1 anyI
  | .min => bl2 minI
  | .max => bl2 maxI
def subI (x i : IV) (cs : Cs) : R IV := match x, i with
  | .tup xs, .int i => R.ofO (atI xs i) cs
  | .lst xs, .int i => R.ofO (atI xs i) cs
  | .scr xs, .int i => (R.ofO (atI xs i) cs).bind fun i cs => .ok (.int i) cs
  | .cell n, .int i => (match cs[n]? with
      | some (.lst xs) => R.ofO (atI xs i) cs
      | _ => .stuck)
  | .str x, .int i => if x.length ≤ 1000000 then (R.ofO (atI x.cps.toList i) cs).bind fun c cs => .ok (.str ⟨#[c]⟩) cs else .stuck
  | _, _ => .stuck
/-- the items of xs[lo:hi] -/
def cutI {α : Type} (xs : List α) (lo hi : Option Int) : List α := (xs.drop (HT.sIx xs.length 0 lo)).take (HT.sIx xs.length xs.length hi - HT.sIx xs.length 0 lo)
def sliI (x : IV) (lo hi : Option Int) (cs : Cs) : R IV := match x with
  | .tup xs => .ok (.tup (cutI xs lo hi)) cs
  | .lst xs => .ok (.lst (cutI xs lo hi)) cs
  | .str x => if x.length ≤ 1000000 then .ok (.str ⟨(cutI x.cps.toList lo hi).toArray⟩) cs else .stuck
  | _ => .stuck
/-- an instance of the class -/
def isOf (c : Nat) (x : IV) (cs : Cs) : Bool := match x with
  | .obj c' _ => c' == c
  | .cell n => (match cs[n]? with
      | some (.ins c' _) => c' == c
      | _ => false)
  | _ => false
def attrI (x : IV) (c k : Nat) (cs : Cs) : R IV := match x with
  | .obj c' fs => if c' = c then R.ofO fs[k]? cs else .stuck
  | .cell n => (match cs[n]? with
      | some (.ins c' fs) => if c' = c then R.ofO fs[k]? cs else .stuck
      | _ => .stuck)
  | _ => .stuck
def mkI (Φ : Fns) (c : Nat) (as : List IV) (cs : Cs) : R IV := (Φ.init c as cs).bind fun fs cs => if Φ.cel c then .ok (.cell cs.length) (cs ++ [.ins c fs]) else .ok (.obj c fs) cs
def seqI : IV → Option (List IV)
  | .tup xs => some xs
  | .lst xs => some xs
  | _ => none
def setMany (env : Env) : List Nat → List IV → Option Env
  | [], [] => some env
  | i :: is, x :: xs => setMany (env.set i (some x)) is xs
  | _, _ => none
def setTup (env : Env) (tg : List Nat) (x : IV) : Option Env := match x with
  | .tup xs => setMany env tg xs
  | _ => none
/-- a target: one name, or several -/
def setTg (env : Env) (tg : List Nat) (x : IV) : Option Env := match tg with
  | [i] => some (env.set i (some x))
  | tg => setTup env tg x
def wipeE (env : Env) : List Nat → Env
  | [] => env
  | v :: vs => (wipeE env vs).set v none
/-- in a test: its truth -/
def tst (k : Bool) (r : R IV) : R IV := if k then r.bind fun v cs => (R.ofO (truI v) cs).bind fun b cs => .ok (.bl b) cs else r
@[simp] theorem tst_false (r : R IV) : tst false r = r := rfl
@[simp] theorem tst_true (r : R IV) : tst true r = r.bind fun v cs => (R.ofO (truI v) cs).bind fun b cs => .ok (.bl b) cs := rfl
/-- a comprehension's turns -/
def compGo (turn : IV → List IV → Cs → R (List IV)) : List IV → List IV → Cs → R (List IV)
  | [], acc, cs => .ok acc cs
  | x :: xs, acc, cs => (turn x acc cs).bind fun acc cs => compGo turn xs acc cs
@[simp] theorem compGo_nil (turn) (acc : List IV) (cs : Cs) : compGo turn [] acc cs = .ok acc cs := rfl
@[simp] theorem compGo_cons (turn) (x : IV) (xs acc : List IV) (cs : Cs) : compGo turn (x :: xs) acc cs = (turn x acc cs).bind fun acc cs => compGo turn xs acc cs := rfl
def rngI (lo : Int) (n : Nat) : List IV := (List.range n).map fun i => .int (lo + (i : Nat))
def isNon : IV → Bool
  | .non => true
  | _ => false
def asB : IV → Option Bool
  | .bl b => some b
  | _ => none

/-- xs[::-1] of a tuple -/
def revI (x : IV) (cs : Cs) : R IV := match x with
  | .tup xs => .ok (.tup xs.reverse) cs
  | _ => .stuck
/-- what __len__ hands back -/
def lenK (y : IV) (cs : Cs) : R IV := match y with
  | .int i => if 0 ≤ i ∧ i < 2 ^ 62 then .ok (.int i) cs else .stuck
  | _ => .stuck
/-- len of an instance -/
def lenmI (Φ : Fns) (c f : Nat) (xs : List IV) (cs : Cs) : R IV := match xs with
  | [x] => if isOf c x cs = true then (Φ.fn f [x] cs).bind lenK else .stuck
  | _ => .stuck
/-- the items of a tuple that is walked -/
def tupO : IV → Option (List IV)
  | .tup xs => some xs
  | _ => none
/-- a small length -/
def smallK (y : IV) (cs : Cs) : R IV := match y with
  | .int i => if 0 ≤ i ∧ i ≤ 1000000 then .ok (.int i) cs else .stuck
  | _ => .stuck
/-- list(..) of an instance -/
def lstiI (Φ : Fns) (c f k : Nat) (xs : List IV) (cs : Cs) : R IV := match xs with
  | [x] => if (Φ.eqk && isOf c x cs) = true then (attrI x c k cs).bind fun t cs => (R.ofO (tupO t) cs).bind fun ys cs => ((Φ.fn f [x] cs).noexc.bind smallK).bind fun _ cs => if ys.length ≤ 1000000 then .ok (.lst ys) cs else .stuck else .stuck
  | _ => .stuck

/-- what __str__ hands back -/
def strK (y : IV) (cs : Cs) : R IV := match y with
  | .str x => .ok (.str x) cs
  | _ => .stuck
/-- str of an instance -/
def strmI (Φ : Fns) (c f : Nat) (xs : List IV) (cs : Cs) : R IV := match xs with
  | [.obj c' fs] => if c' = c then (Φ.fn f [.obj c' fs] cs).bind strK else .stuck
  | _ => .stuck
/-- a number in an f-string -/
def fmtO : IV → Option Int
  | .int i => if i.natAbs.log2 < 1920 then some i else none
  | _ => none

mutual
/-- an expression's value; k: its truth, as a test -/
def ev (Φ : Fns) (k : Bool) : CE → Env → Cs → R IV
  | .stuck, _, _ => .stuck
  | .var i, env, cs => tst k (R.ofO (env[i]?.join) cs)
  | .non, _, cs => tst k (.ok .non cs)
  | .bl b, _, cs => tst k (.ok (.bl b) cs)
  | .int i, _, cs => tst k (.ok (.int i) cs)
  | .str x, _, cs => tst k (.ok (.str x) cs)
  | .con j, _, cs => tst k (.ok (Φ.con j) cs)
  | .cval _ _ i, _, cs => tst k (.ok (.int i) cs)
  | .tup as, env, cs => tst k ((evs Φ as env cs).bind fun xs cs => .ok (.tup xs) cs)
  | .lst as, env, cs => tst k ((evs Φ as env cs).bind fun xs cs => .ok (.lst xs) cs)
  | .bin op a b, env, cs => tst k ((ev Φ false a env cs).bind fun x cs => (ev Φ false b env cs).bind fun y cs => binI Φ op x y cs)
  | .neg a, env, cs => tst k ((ev Φ false a env cs).bind fun x cs => match x with
      | .int i => .ok (.int (-i)) cs
      | .obj c fs => if c = Φ.q then Φ.fn Φ.neg [.obj c fs] cs else .stuck
      | _ => .stuck)
  | .cmp op a b, env, cs => tst k ((ev Φ false a env cs).bind fun x cs => (ev Φ false b env cs).bind fun y cs => cmpI Φ op x y cs)
  | .isN a, env, cs => tst k ((ev Φ false a env cs).bind fun x cs => .ok (.bl (isNon x)) cs)
  | .notN a, env, cs => tst k ((ev Φ false a env cs).bind fun x cs => .ok (.bl (!(isNon x))) cs)
  | .chain o1 o2 a b c, env, cs => tst k ((ev Φ false a env cs).bind fun x cs => (ev Φ false b env cs).bind fun y cs => (cmpI Φ o1 x y cs).bind fun r cs => (R.ofO (asB r) cs).bind fun r cs =>
      if r then (ev Φ false c env cs).bind fun z cs => cmpI Φ o2 y z cs else .ok (.bl false) cs)
  | .and a b, env, cs => (ev Φ k a env cs).bind fun x cs => (R.ofO (asB x) cs).bind fun x cs => if x then ev Φ k b env cs else .ok (.bl false) cs
  | .or a b, env, cs => (ev Φ k a env cs).bind fun x cs => (R.ofO (asB x) cs).bind fun x cs => if x then .ok (.bl true) cs else ev Φ k b env cs
  | .not a, env, cs => (ev Φ k a env cs).bind fun x cs => (R.ofO (asB x) cs).bind fun x cs => .ok (.bl (!x)) cs
  | .ite t a b, env, cs => (ev Φ true t env cs).bind fun x cs => (R.ofO (asB x) cs).bind fun x cs => if x then ev Φ k a env cs else ev Φ k b env cs
  | .call f as, env, cs => tst k ((evs Φ as env cs).bind fun xs cs => Φ.fn f xs cs)
  | .mk c as, env, cs => tst k ((evs Φ as env cs).bind fun xs cs => mkI Φ c xs cs)
  | .meth c f o as, env, cs => tst k ((ev Φ false o env cs).bind fun x cs => if isOf c x cs = true then (evs Φ as env cs).bind fun xs cs => Φ.fn f (x :: xs) cs else .stuck)
  | .attr o c j, env, cs => tst k ((ev Φ false o env cs).bind fun x cs => attrI x c j cs)
  | .blt b as, env, cs => tst k ((evs Φ as env cs).bind fun xs cs => bltI b xs cs)
  | .rev a, env, cs => tst k ((ev Φ false a env cs).bind fun x cs => revI x cs)
  | .lenm c f as, env, cs => tst k ((evs Φ as env cs).bind fun xs cs => lenmI Φ c f xs cs)
  | .strm c f as, env, cs => tst k ((evs Φ as env cs).bind fun xs cs => strmI Φ c f xs cs)
  | .prp c f o, env, cs => tst k ((ev Φ false o env cs).bind fun x cs => if isOf c x cs = true then (Φ.fn f [x] cs).noexc else .stuck)
  | .lsti c f j as, env, cs => tst k ((evs Φ as env cs).bind fun xs cs => lstiI Φ c f j xs cs)
  | .isi a t, env, cs => tst k ((ev Φ false a env cs).bind fun x cs => (R.ofO (isiN Φ.nc x t) cs).bind fun b cs => .ok (.bl b) cs)
  | .sub a i, env, cs => tst k ((ev Φ false a env cs).bind fun x cs => (ev Φ false i env cs).bind fun y cs => subI x y cs)
  | .sli a lo hi, env, cs => tst k ((ev Φ false a env cs).bind fun x cs => (evp Φ lo env cs).bind fun l cs => (evp Φ hi env cs).bind fun h cs => sliI x l h cs)
  | .comp elt own tg it cond, env, cs => tst k ((evi Φ it env cs).bind fun xs cs => if xs.length ≤ 1000000 then (compGo (fun x acc cs => ((R.ofO (setTg (wipeE env own) tg x) cs).bind fun env' cs => (evc Φ cond env' cs).bind fun b cs =>
      if b then (ev Φ false elt env' cs).bind fun y cs => .ok (acc ++ [y]) cs else .ok acc cs).noexc) xs [] cs).bind fun ys cs => .ok (.lst ys) cs else .stuck)
  | .comp2 elt own tg it tg1 it1 cond1, env, cs => tst k ((evi Φ it env cs).bind fun xs cs => if xs.length ≤ 1000 then (compGo (fun x acc cs => ((R.ofO (setTg (wipeE env own) tg x) cs).bind fun env' cs => (evi Φ it1 env' cs).bind fun xs1 cs =>
      if xs1.length ≤ 1000 then compGo (fun x1 acc cs => ((R.ofO (setTg (wipeE env' tg1) tg1 x1) cs).bind fun env'' cs => (evc Φ cond1 env'' cs).bind fun b cs =>
      if b then (ev Φ false elt env'' cs).bind fun y cs => .ok (acc ++ [y]) cs else .ok acc cs).noexc) xs1 acc cs else .stuck).noexc) xs [] cs).bind fun ys cs => .ok (.lst ys) cs else .stuck)
  | .fs2 a s b, env, cs => tst k ((ev Φ false a env cs).bind fun x cs => (R.ofO (fmtO x) cs).bind fun i cs => (ev Φ false b env cs).bind fun y cs => (R.ofO (fmtO y) cs).bind fun j cs => .ok (.str ((toString i : Str) ++ s ++ (toString j : Str))) cs)
  | .join s a, env, cs => tst k ((ev Φ false a env cs).bind fun x cs => joinI s x cs)
  | .clst as, env, cs => tst k ((evs Φ as env cs).bind fun xs cs => .ok (.cell cs.length) (cs ++ [.lst xs]))
def evs (Φ : Fns) : CA → Env → Cs → R (List IV)
  | .nil, _, cs => .ok [] cs
  | .cons e as, env, cs => (ev Φ false e env cs).bind fun x cs => (evs Φ as env cs).bind fun xs cs => .ok (x :: xs) cs
def evi (Φ : Fns) : CI → Env → Cs → R (List IV)
  | .ex e, env, cs => (ev Φ false e env cs).bind fun x cs => R.ofO (seqI x) cs
  | .rng1 a, env, cs => (ev Φ false a env cs).bind fun x cs => match x with
      | .int j => if -(2 ^ 62) ≤ j ∧ j < 2 ^ 62 then .ok (rngI 0 j.toNat) cs else .stuck
      | _ => .stuck
  | .rng2 a b, env, cs => (ev Φ false a env cs).bind fun x cs => (ev Φ false b env cs).bind fun y cs => match x, y with
      | .int i, .int j => if (-(2 ^ 62) ≤ i ∧ i < 2 ^ 62) ∧ (-(2 ^ 62) ≤ j ∧ j < 2 ^ 62) then .ok (rngI i (j - i).toNat) cs else .stuck
      | _, _ => .stuck
  | .enum e, env, cs => (ev Φ false e env cs).bind fun x cs => (R.ofO (seqI x) cs).bind fun xs cs => .ok (xs.zipIdx.map fun p => .tup [.int (p.2 : Nat), p.1]) cs
  | .zip a b, env, cs => (ev Φ false a env cs).bind fun x cs => (ev Φ false b env cs).bind fun y cs => (R.ofO (seqI x) cs).bind fun xs cs => (R.ofO (seqI y) cs).bind fun ys cs => .ok (List.zipWith (fun u v => .tup [u, v]) xs ys) cs
def evp (Φ : Fns) : CP → Env → Cs → R (Option Int)
  | .no, _, cs => .ok none cs
  | .some e, env, cs => (ev Φ false e env cs).bind fun x cs => match x with
      | .int i => .ok (some i) cs
      | _ => .stuck
def evc (Φ : Fns) : CP → Env → Cs → R Bool
  | .no, _, cs => .ok true cs
  | .some e, env, cs => (ev Φ true e env cs).bind fun x cs => R.ofO (asB x) cs
end
end EG

-- EngC
/-! Engine C: what a reading of the small syntax promises of the model (tE), and the simple constructs. -/
namespace EG
open PySem PySem.Spec L2

/-- what is wanted behind a result -/
def ExcP (T : CT) (S : Addr → Prop) (κ : List Addr) (H : Hp) (pl : List IV) (d : Option Addr) : Prop :=
  (pl = [] ∧ d = none) ∨ ∃ x v f dd, pl = [x] ∧ d = some dd ∧ H dd = some (.xd [(f, v)]) ∧ RV T S κ H x v
/-- a new list that nobody else holds -/
def FrL (T : CT) (S : Addr → Prop) (H : Hp) (κ' : List Addr) (H' : Hp) (x : IV) (v : V) (cs : Cs) : Prop :=
  ∃ a xs vs, x = .lst xs ∧ v = .ref a ∧ H' a = some (.lst vs) ∧ H a = none ∧ ¬ S a ∧ a ∉ κ' ∧ RVs T (fun b => S b ∨ b = a) κ' H' xs vs ∧ RS T (fun b => S b ∨ b = a) κ' H' cs
abbrev EX := Nat → List IV → Option Addr → Hp → Prop
def Wp (T : CT) (S : Addr → Prop) (E : Value → Option Addr → Hp → Prop) (κ : List Addr) (H : Hp) (fr : Bool) (r : R IV) (Q : VK) : Prop := match r with
  | .ok x cs => ∀ κ' H' v, Stp κ H κ' H' → RS T S κ' H' cs → RV T S κ' H' x v → (fr = true → FrL T S H κ' H' x v cs) → Q v H'
  | .exc c pl cs => ∀ κ' H' d, Stp κ H κ' H' → RS T S κ' H' cs → ExcP T S κ' H' pl d → E (.ref (T.cls c)) d H'
  | .stuck => False
/-- .. of a result of any kind, whose rest is g -/
def Wk {α : Type} (T : CT) (S : Addr → Prop) (E : Value → Option Addr → Hp → Prop) (κ : List Addr) (H : Hp) (r : R α) (G : α → Cs → List Addr → Hp → Prop) : Prop := match r with
  | .ok x cs => ∀ κ' H', Stp κ H κ' H' → RS T S κ' H' cs → G x cs κ' H'
  | .exc c pl cs => ∀ κ' H' d, Stp κ H κ' H' → RS T S κ' H' cs → ExcP T S κ' H' pl d → E (.ref (T.cls c)) d H'
  | .stuck => False
section
variable {T : CT} {S : Addr → Prop} {E : Value → Option Addr → Hp → Prop} {κ κ' κ1 : List Addr} {H H' H1 : Hp} {fr : Bool} {Q : VK} {α β : Type}
theorem Wp.step {r : R IV} (h : Wp T S E κ H fr r Q) (s : Stp κ H κ1 H1) : Wp T S E κ1 H1 fr r Q := by
  cases r with
  | ok x cs => exact fun κ' H' v st rs rv f => h κ' H' v (s.trans st) rs rv fun e => let ⟨a, xs, vs, h1, h2, h3, h4, h5⟩ := f e; ⟨a, xs, vs, h1, h2, h3, s.dom a h4, h5⟩
  | exc c pl cs => exact fun κ' H' d st rs x => h κ' H' d (s.trans st) rs x
  | stuck => exact h
theorem Wk.step {r : R α} {G : α → Cs → List Addr → Hp → Prop} (h : Wk T S E κ H r G) (s : Stp κ H κ1 H1) : Wk T S E κ1 H1 r G := by
  cases r with
  | ok x cs => exact fun κ' H' st rs => h κ' H' (s.trans st) rs
  | exc c pl cs => exact fun κ' H' d st rs x => h κ' H' d (s.trans st) rs x
  | stuck => exact h
/-- an expression's part: its value, then the rest -/
theorem Wp.bind {r : R IV} {g : IV → Cs → R IV} (h : Wp T S E κ H fr (r.bind g) Q) :
    Wp T S E κ H false r fun v H1 => ∃ x cs1 κ1, Stp κ H κ1 H1 ∧ RS T S κ1 H1 cs1 ∧ RV T S κ1 H1 x v ∧ Wp T S E κ1 H1 fr (g x cs1) Q := by
  cases r with
  | ok x cs => exact fun κ' H' v st rs rv _ => ⟨x, cs, κ', st, rs, rv, Wp.step (r := g x cs) h st⟩
  | exc c pl cs => exact h
  | stuck => exact h
/-- .. of another kind -/
theorem Wp.bindk {r : R α} {g : α → Cs → R IV} (h : Wp T S E κ H fr (r.bind g) Q) :
    Wk T S E κ H r fun x cs1 κ1 H1 => Stp κ H κ1 H1 ∧ RS T S κ1 H1 cs1 ∧ Wp T S E κ1 H1 fr (g x cs1) Q := by
  cases r with
  | ok x cs => exact fun κ' H' st rs => ⟨st, rs, Wp.step (r := g x cs) h st⟩
  | exc c pl cs => exact h
  | stuck => exact h
theorem Wk.bindk {r : R α} {g : α → Cs → R β} {G : β → Cs → List Addr → Hp → Prop} (h : Wk T S E κ H (r.bind g) G) :
    Wk T S E κ H r fun x cs1 κ1 H1 => Stp κ H κ1 H1 ∧ RS T S κ1 H1 cs1 ∧ Wk T S E κ1 H1 (g x cs1) G := by
  cases r with
  | ok x cs => exact fun κ' H' st rs => ⟨st, rs, Wk.step (r := g x cs) h st⟩
  | exc c pl cs => exact h
  | stuck => exact h
theorem Wk.bind {r : R IV} {g : IV → Cs → R β} {G : β → Cs → List Addr → Hp → Prop} (h : Wk T S E κ H (r.bind g) G) :
    Wp T S E κ H false r fun v H1 => ∃ x cs1 κ1, Stp κ H κ1 H1 ∧ RS T S κ1 H1 cs1 ∧ RV T S κ1 H1 x v ∧ Wk T S E κ1 H1 (g x cs1) G := by
  cases r with
  | ok x cs => exact fun κ' H' v st rs rv _ => ⟨x, cs, κ', st, rs, rv, Wk.step (r := g x cs) h st⟩
  | exc c pl cs => exact h
  | stuck => exact h
theorem Wp.imp {r : R IV} {Q' : VK} (h : Wp T S E κ H fr r Q) (f : ∀ v H, Q v H → Q' v H) : Wp T S E κ H fr r Q' := by
  cases r with
  | ok x cs => exact fun κ' H' v st rs rv fr => f _ _ (h κ' H' v st rs rv fr)
  | exc c pl cs => exact h
  | stuck => exact h
theorem Wp.ok {x : IV} {cs : Cs} {v : V} (h : Wp T S E κ H false (.ok x cs) Q) (rs : RS T S κ H cs) (rv : RV T S κ H x v) : Q v H := h κ H v Stp.rfl' rs rv (fun z => nomatch z)
theorem Wp.new {x : IV} {cs : Cs} {p : Addr} {o : HO} (h : Wp T S E κ H false (.ok x cs) Q) (rs : RS T S κ H cs) (hp : H p = none) (rv : RV T S κ (upd H p o) x (.ref p)) : Q (.ref p) (upd H p o) :=
  h κ _ _ (Stp.new hp) (rs.new hp) rv (fun z => nomatch z)
theorem Wp.ofO {o : Option IV} {cs : Cs} (h : Wp T S E κ H fr (R.ofO o cs) Q) : ∃ x, o = some x ∧ Wp T S E κ H fr (.ok x cs) Q := by
  cases o with
  | none => exact h.elim
  | some x => exact ⟨x, rfl, h⟩
theorem Wp.ofOb {o : Option α} {cs : Cs} {g : α → Cs → R IV} (h : Wp T S E κ H fr ((R.ofO o cs).bind g) Q) : ∃ x, o = some x ∧ Wp T S E κ H fr (g x cs) Q := by
  cases o with
  | none => exact h.elim
  | some x => exact ⟨x, rfl, h⟩
theorem Wk.ofOb {o : Option α} {cs : Cs} {g : α → Cs → R β} {G : β → Cs → List Addr → Hp → Prop} (h : Wk T S E κ H ((R.ofO o cs).bind g) G) : ∃ x, o = some x ∧ Wk T S E κ H (g x cs) G := by
  cases o with
  | none => exact h.elim
  | some x => exact ⟨x, rfl, h⟩
end

/-- the names' values -/
def RE (T : CT) (S : Addr → Prop) (κ : List Addr) (H : Hp) (env : Env) (σ : St) : Prop := ∀ (i : Nat) (x : IV), env[i]? = some (some x) → ∃ v, σ[i]? = some (some v) ∧ RV T S κ H x v
theorem RE.mv {T : CT} {S S' : Addr → Prop} {κ κ' : List Addr} {H H' : Hp} {env : Env} {σ : St} (h : RE T S κ H env σ) (m : Mv T S κ H S' κ' H') : RE T S' κ' H' env σ := fun i x e =>
  let ⟨v, e', r⟩ := h i x e; ⟨v, e', m.rv _ _ r⟩
/-- the reading of an expression that computes f -/
def tE (T : CT) (W : WX) (fr : Bool) (f : Env → Cs → R IV) : TE := fun σ H Q => ∃ S κ env cs, RS T S κ H cs ∧ RE T S κ H env σ ∧ Wp T S (fun c d H' => W c d σ H') κ H fr (f env cs) Q
/-- .. of a test -/
def tT (T : CT) (W : WX) (f : Env → Cs → R IV) : TT := fun σ H Q => ∃ S κ env cs, RS T S κ H cs ∧ RE T S κ H env σ ∧ Wp T S (fun c d H' => W c d σ H') κ H false (f env cs) fun v H' => ∃ b, v = .bl b ∧ Q b H'
/-- .. of a list of arguments -/
def tA (T : CT) (W : WX) (f : Env → Cs → R (List IV)) : TA := fun σ H Q => ∃ S κ env cs, RS T S κ H cs ∧ RE T S κ H env σ ∧ Wk T S (fun c d H' => W c d σ H') κ H (f env cs) fun xs cs' κ' H' => ∀ vs, RVs T S κ' H' xs vs → Q vs H'
section
variable {T : CT} {W : WX} {X : Cx} {S : Addr → Prop} {κ : List Addr} {H : Hp} {env : Env} {cs : Cs} {σ : St} {fr : Bool} {Q : VK}
/-- an expression is run: its value, then the rest -/
theorem use {e : Expr} {f : Env → Cs → R IV} {g : IV → Cs → R IV} {pins : List (Addr × Obj)} {s : Shared} (h : PE X e (tE T W false f)) (I : Inv X pins σ H s) (rs : RS T S κ H cs) (re : RE T S κ H env σ) (w : Wp T S (fun c d H' => W c d σ H') κ H fr ((f env cs).bind g) Q) :
    wpAny (model X.prog X.w) X.A (eval e X.env) (EP X pins σ fun v H1 => ∃ x cs1 κ1, Stp κ H κ1 H1 ∧ RS T S κ1 H1 cs1 ∧ RV T S κ1 H1 x v ∧ Wp T S (fun c d H' => W c d σ H') κ1 H1 fr (g x cs1) Q) X.xe s :=
  h.run pins s σ H _ I ⟨S, κ, env, cs, rs, re, w.bind⟩
theorem PE.of {e : Expr} {f : Env → Cs → R IV} (h : ∀ (pins : List (Addr × Obj)) (s : Shared) (σ : St) (H : Hp) (Q : VK) (S : Addr → Prop) (κ : List Addr) (env : Env) (cs : Cs), Inv X pins σ H s → RS T S κ H cs → RE T S κ H env σ → Wp T S (fun c d H' => W c d σ H') κ H fr (f env cs) Q →
    wpAny (model X.prog X.w) X.A (eval e X.env) (EP X pins σ Q) X.xe s) : PE X e (tE T W fr f) :=
  ⟨fun pins s σ H Q I ⟨S, κ, env, cs, rs, re, w⟩ => h pins s σ H Q S κ env cs I rs re w⟩
/-- by a rule of the layer: its reading t -/
theorem PE.by' {e : Expr} {f : Env → Cs → R IV} {t : TE} (h : PE X e t) (q : ∀ (σ : St) (H : Hp) (Q : VK) (S : Addr → Prop) (κ : List Addr) (env : Env) (cs : Cs), RS T S κ H cs → RE T S κ H env σ → Wp T S (fun c d H' => W c d σ H') κ H fr (f env cs) Q → t σ H Q) : PE X e (tE T W fr f) :=
  ⟨fun pins s σ H Q I ⟨S, κ, env, cs, rs, re, w⟩ => h.run pins s σ H Q I (q σ H Q S κ env cs rs re w)⟩
/-- a fresh one is one -/
theorem PE.nofr {e : Expr} {f : Env → Cs → R IV} (h : PE X e (tE T W true f)) : PE X e (tE T W false f) :=
  PE.by' h fun σ H Q S κ env cs rs re w => ⟨S, κ, env, cs, rs, re, by
    revert w
    cases f env cs with
    | ok x cs => exact fun w κ' H' v st rs rv _ => w κ' H' v st rs rv (fun z => nomatch z)
    | exc c pl cs => exact fun w => w
    | stuck => exact fun w => w⟩

/-! ### names, constants -/
theorem se_stuck {e : Expr} {g : Env → Cs → R IV} (hg : ∀ env cs, g env cs = .stuck) : PE X e (tE T W fr g) := PE.of fun _ _ _ _ _ _ _ _ _ _ _ _ w => by rw [hg] at w; exact w.elim
theorem se_var {i : Nat} {x : Str} {pos : Pos} (hN : X.N[i]? = some x) (hv : Vis X.env.scope x) (h1 : (x == ("__debug__" : Str)) = false) (h2 : (x == ("__classdict__" : Str)) = false) :
    PE X (.Name x pos) (tE T W false fun env cs => R.ofO (env[i]?.join) cs) := by
  refine PE.by' (pe_var hN hv h1 h2) fun σ H Q S κ env cs rs re w => ?_
  obtain ⟨y, e, w⟩ := w.ofO
  have e' : env[i]? = some (some y) := by
    revert e
    cases env[i]? with
    | none => intro e; cases e
    | some o => intro e; rw [show o = some y from e]
  obtain ⟨v, ev, rv⟩ := re i y e'
  exact ⟨v, ev, w.ok rs rv⟩
theorem se_non {j pos} : PE X (.Constant .none j pos) (tE T W false fun _ cs => .ok .non cs) := PE.by' pe_non fun σ H Q S κ env cs rs re w => w.ok rs (by unfold RV; rfl)
theorem se_bl {b j pos} : PE X (.Constant (.bool b) j pos) (tE T W false fun _ cs => .ok (.bl b) cs) := PE.by' pe_bl fun σ H Q S κ env cs rs re w => w.ok rs (by unfold RV; rfl)
theorem se_int {i j pos} : PE X (.Constant (.int i) j pos) (tE T W false fun _ cs => .ok (.int i) cs) := PE.by' pe_int fun σ H Q S κ env cs rs re w => w.ok rs (by unfold RV; rfl)
theorem se_str {i j pos} : PE X (.Constant (.str i) j pos) (tE T W false fun _ cs => .ok (.str i) cs) := PE.by' pe_str fun σ H Q S κ env cs rs re w => w.ok rs (by unfold RV; rfl)

/-! ### arguments, tuples, lists -/
theorem sa_nil {f : Env → Cs → R (List IV)} (hf : ∀ env cs, f env cs = .ok [] cs) : PA X [] (tA T W f) := ⟨fun pos pins s σ H Q I ⟨S, κ, env, cs, rs, re, w⟩ => by
  rw [hf] at w
  exact pa_nil.run pos pins s σ H Q I (w κ H Stp.rfl' rs [] RVs.nil)⟩
theorem sa_cons {e : Expr} {es : List Expr} {f : Env → Cs → R IV} {g : Env → Cs → R (List IV)} (h1 : PE X e (tE T W false f)) (h2 : PA X es (tA T W g)) (hs : starEach (e :: es) X.env = (false, eval e X.env) :: starEach es X.env) :
    PA X (e :: es) (tA T W fun env cs => (f env cs).bind fun x cs => (g env cs).bind fun xs cs => .ok (x :: xs) cs) := ⟨fun pos pins s σ H Q I ⟨S, κ, env, cs, rs, re, w⟩ => by
  refine (pa_cons h1 h2 hs).run pos pins s σ H Q I ?_
  refine ⟨S, κ, env, cs, rs, re, (Wk.bind w).imp fun v H1 q => ?_⟩
  obtain ⟨x, cs1, κ1, st1, rs1, rv1, w1⟩ := q
  refine ⟨S, κ1, env, cs1, rs1, re.mv st1.mv, ?_⟩
  have w2 := Wk.bindk w1
  revert w2
  cases g env cs1 with
  | ok xs cs2 =>
    intro w2 κ2 H2 st2 rs2 vs rvs
    obtain ⟨_, _, w3⟩ := w2 κ2 H2 st2 rs2
    exact w3 κ2 H2 Stp.rfl' rs2 (v :: vs) (RVs.cons (st2.mv.rv _ _ rv1) rvs)
  | exc c pl cs => exact fun w2 => w2
  | stuck => exact fun w2 => w2⟩
/-- arguments, then the rest by their values -/
theorem useA {es : List Expr} {f : Env → Cs → R (List IV)} {g : List IV → Cs → R IV} {pins : List (Addr × Obj)} {s : Shared} {pos : Pos} (h : PA X es (tA T W f)) (I : Inv X pins σ H s) (rs : RS T S κ H cs) (re : RE T S κ H env σ) (w : Wp T S (fun c d H' => W c d σ H') κ H fr ((f env cs).bind g) Q) :
    wpAny (model X.prog X.w) X.A (spliced (backTo pos (starEach es X.env))) (AP X pins σ fun vs H1 => ∃ xs cs1 κ1, f env cs = .ok xs cs1 ∧ Stp κ H κ1 H1 ∧ RS T S κ1 H1 cs1 ∧ RVs T S κ1 H1 xs vs ∧ Wp T S (fun c d H' => W c d σ H') κ1 H1 fr (g xs cs1) Q) X.xe s := by
  refine h.run pos pins s σ H _ I ⟨S, κ, env, cs, rs, re, ?_⟩
  have w2 := w.bindk
  revert w2
  cases f env cs with
  | ok xs cs2 => exact fun w2 κ2 H2 st2 rs2 vs rvs => ⟨xs, cs2, κ2, rfl, st2, rs2, rvs, (w2 κ2 H2 st2 rs2).2.2⟩
  | exc c pl cs => exact fun w2 => w2
  | stuck => exact fun w2 => w2
/-- .. for a reading over arguments -/
theorem tA.use {f : Env → Cs → R (List IV)} {g : List IV → Cs → R IV} {Z : List V → Hp → Prop} (rs : RS T S κ H cs) (re : RE T S κ H env σ) (w : Wp T S (fun c d H' => W c d σ H') κ H fr ((f env cs).bind g) Q)
    (k : ∀ vs H1 xs cs1 κ1, f env cs = .ok xs cs1 → Stp κ H κ1 H1 → RS T S κ1 H1 cs1 → RVs T S κ1 H1 xs vs → Wp T S (fun c d H' => W c d σ H') κ1 H1 fr (g xs cs1) Q → Z vs H1) : tA T W f σ H Z := by
  refine ⟨S, κ, env, cs, rs, re, ?_⟩
  have w2 := w.bindk
  revert w2 k
  cases f env cs with
  | ok xs cs2 => exact fun k w2 κ2 H2 st2 rs2 vs rvs => k vs H2 xs cs2 κ2 rfl st2 rs2 rvs (w2 κ2 H2 st2 rs2).2.2
  | exc c pl cs => exact fun _ w2 => w2
  | stuck => exact fun _ w2 => w2
theorem tE.use {f : Env → Cs → R IV} {g : IV → Cs → R IV} {Z : V → Hp → Prop} (rs : RS T S κ H cs) (re : RE T S κ H env σ) (w : Wp T S (fun c d H' => W c d σ H') κ H fr ((f env cs).bind g) Q)
    (k : ∀ v H1 x cs1 κ1, Stp κ H κ1 H1 → RS T S κ1 H1 cs1 → RV T S κ1 H1 x v → Wp T S (fun c d H' => W c d σ H') κ1 H1 fr (g x cs1) Q → Z v H1) : tE T W false f σ H Z :=
  ⟨S, κ, env, cs, rs, re, w.bind.imp fun v H1 ⟨x, cs1, κ1, a, b, c, d⟩ => k v H1 x cs1 κ1 a b c d⟩
theorem Wp.newTup {xs : List IV} {vs : List V} {p : Addr} (w : Wp T S E κ H false (.ok (.tup xs) cs) Q) (rs : RS T S κ H cs) (rv : RVs T S κ H xs vs) (hp : H p = none) : Q (.ref p) (upd H p (.tup vs)) :=
  w.new rs hp (by unfold RV; exact ⟨p, vs, rfl, SqT.of upd_same, (Stp.new hp).mv.rvs _ _ rv⟩)
theorem Wp.newLst {xs : List IV} {vs : List V} {p : Addr} (w : Wp T S E κ H fr (.ok (.lst xs) cs) Q) (rs : RS T S κ H cs) (rv : RVs T S κ H xs vs) (hp : H p = none) : Q (.ref p) (upd H p (.lst vs)) := by
  have nS : ¬ S p := fun z => rs.dom p z hp
  have nk : p ∉ κ := fun z => rs.kdom z hp
  refine w κ _ _ (Stp.new hp) (rs.new hp) ?_ fun _ => ⟨p, xs, vs, rfl, rfl, upd_same, hp, nS, nk, ?_, ?_⟩
  · unfold RV
    exact ⟨p, vs, rfl, ⟨upd_same, nS, nk⟩, (Stp.new hp).mv.rvs _ _ rv⟩
  · exact ((Mv.add hp).trans (Stp.new hp).mv).rvs _ _ rv
  · refine rs.mv ((Mv.add hp).trans (Stp.new hp).mv) (fun a ha => upd_ne fun z => nk (z ▸ ha)) (fun a s z => ?_) fun a ha z => ?_
    · by_cases q : a = p
      · subst q; rw [upd_same] at z; cases z
      · rw [upd_ne q] at z
        exact rs.dom a (s.resolve_right q) z
    · rcases z with z | z
      · obtain ⟨_, _, _, _, _, n⟩ := rs.at ha; exact n z
      · exact nk (z ▸ ha)
theorem se_tup {es : List Expr} {k : Nat} {pos : Pos} {f : Env → Cs → R (List IV)} (h : PA X es (tA T W f)) (hl : ∀ env cs xs cs', f env cs = .ok xs cs' → xs.length ≤ sizeLine) : PE X (.Tuple es k pos) (tE T W false fun env cs => (f env cs).bind fun xs cs => .ok (.tup xs) cs) := by
  refine PE.by' (pe_tup h) fun σ H Q S κ env cs rs re w => ?_
  refine ⟨S, κ, env, cs, rs, re, ?_⟩
  have w2 := w.bindk
  have hl' := hl env cs
  revert w2 hl'
  cases f env cs with
  | ok xs cs2 => exact fun w2 hl' κ2 H2 st2 rs2 vs rvs => ⟨by rw [← rvs.len]; exact hl' _ _ rfl, fun p hp => (w2 κ2 H2 st2 rs2).2.2.newTup rs2 rvs hp⟩
  | exc c pl cs => exact fun w2 _ => w2
  | stuck => exact fun w2 _ => w2
theorem se_lst {es : List Expr} {pos : Pos} {f : Env → Cs → R (List IV)} (h : PA X es (tA T W f)) (hl : ∀ env cs xs cs', f env cs = .ok xs cs' → xs.length ≤ sizeLine) : PE X (.List es pos) (tE T W fr fun env cs => (f env cs).bind fun xs cs => .ok (.lst xs) cs) := by
  refine PE.by' (pe_lst h) fun σ H Q S κ env cs rs re w => ?_
  refine ⟨S, κ, env, cs, rs, re, ?_⟩
  have w2 := w.bindk
  have hl' := hl env cs
  revert w2 hl'
  cases f env cs with
  | ok xs cs2 => exact fun w2 hl' κ2 H2 st2 rs2 vs rvs => ⟨by rw [← rvs.len]; exact hl' _ _ rfl, fun p hp => (w2 κ2 H2 st2 rs2).2.2.newLst rs2 rvs hp⟩
  | exc c pl cs => exact fun w2 _ => w2
  | stuck => exact fun w2 _ => w2
/-- a new list in a cell -/
theorem Wp.newCell {xs : List IV} {vs : List V} {p : Addr} (w : Wp T S E κ H false (.ok (.cell cs.length) (cs ++ [.lst xs])) Q) (rs : RS T S κ H cs) (rv : RVs T S κ H xs vs) (hp : H p = none) : Q (.ref p) (upd H p (.lst vs)) := by
  have nS : ¬ S p := fun z => rs.dom p z hp
  have nk : p ∉ κ := fun z => rs.kdom z hp
  have st : Stp κ H (κ ++ [p]) (upd H p (.lst vs)) := by
    have s := Stp.new (κ := κ) (o := .lst vs) hp
    refine ⟨⟨[p], rfl⟩, fun a ha => ?_, fun a o e q => s.evo a o e q, s.dom⟩
    rcases List.mem_append.mp ha with z | z
    · exact .inl z
    · have : a = p := by simpa using z
      subst this; exact .inr hp
  have mv : Mv T S κ H S (κ ++ [p]) (upd H p (.lst vs)) := st.mv
  refine w (κ ++ [p]) _ _ st ⟨?_, ?_, fun a z => ?_, ?_⟩ ?_ fun z => nomatch z
  · rw [List.nodup_append]
    refine ⟨rs.nd, by simp, fun a ha b hb e => nk ?_⟩
    have : b = p := by simpa using hb
    rw [← this, ← e]; exact ha
  · rw [List.length_append, List.length_append, rs.len]; rfl
  · by_cases q : a = p
    · subst q; rw [upd_same]; intro z; cases z
    · rw [upd_ne q]; exact rs.dom a z
  · intro n o a e1 e2
    by_cases hn : n < cs.length
    · rw [List.getElem?_append_left hn] at e1
      rw [List.getElem?_append_left (by rw [rs.len]; exact hn)] at e2
      obtain ⟨q1, q2⟩ := rs.cel n o a e1 e2
      have ha : a ≠ p := fun z => nk (z ▸ List.mem_of_getElem? e2)
      exact ⟨q1.mv mv (upd_ne ha), q2⟩
    · rw [List.getElem?_append_right (by omega)] at e1
      rw [List.getElem?_append_right (by rw [rs.len]; omega)] at e2
      rw [rs.len] at e2
      have h0 : n - cs.length = 0 := by
        rcases Nat.eq_zero_or_pos (n - cs.length) with z | z
        · exact z
        · rw [List.getElem?_eq_none (by simp only [List.length_cons, List.length_nil]; omega)] at e1; cases e1
      rw [h0] at e1 e2
      have e1' : o = .lst xs := by simpa using e1.symm
      have e2' : a = p := by simpa using e2.symm
      subst e1' e2'
      exact ⟨⟨vs, upd_same, mv.rvs _ _ rv⟩, nS⟩
  · unfold RV
    refine ⟨p, rfl, ?_⟩
    rw [← rs.len, List.getElem?_append_right (Nat.le_refl _)]
    simp
theorem se_clst {es : List Expr} {pos : Pos} {f : Env → Cs → R (List IV)} (h : PA X es (tA T W f)) (hl : ∀ env cs xs cs', f env cs = .ok xs cs' → xs.length ≤ sizeLine) : PE X (.List es pos) (tE T W false fun env cs => (f env cs).bind fun xs cs => .ok (.cell cs.length) (cs ++ [.lst xs])) := by
  refine PE.by' (pe_lst h) fun σ H Q S κ env cs rs re w => ?_
  refine ⟨S, κ, env, cs, rs, re, ?_⟩
  have w2 := w.bindk
  have hl' := hl env cs
  revert w2 hl'
  cases f env cs with
  | ok xs cs2 => exact fun w2 hl' κ2 H2 st2 rs2 vs rvs => ⟨by rw [← rvs.len]; exact hl' _ _ rfl, fun p hp => (w2 κ2 H2 st2 rs2).2.2.newCell rs2 rvs hp⟩
  | exc c pl cs => exact fun w2 _ => w2
  | stuck => exact fun w2 _ => w2
end
end EG

-- EngD
/-! Engine D: the text's table, calls by values, operators by values. -/
namespace EG
open PySem PySem.Spec L2

/-- the text: its defs (functions, methods; constructors apart), its classes, its constants -/
structure TX where
  nf : Nat
  nc : Nat
  nk : Nat
  fad : Nat → Addr
  fdt : Nat → FuncData
  fps : Nat → List Str
  ffr : Nat → Bool
  fnm : Nat → Str
  isM : Nat → Bool
  fcl : Nat → Nat
  iad : Nat → Addr
  idt : Nat → FuncData
  ips : Nat → List Str
  cnm : Nat → Str
  knm : Nat → Str
  /-- constants of classes -/
  cvs : List (Nat × Str × Int)
  /-- properties: class, name, getter -/
  prs : List (Nat × Str × Nat)
  /-- classes whose __iter__ says iter(self.x): class, def, field -/
  its : List (Nat × Nat × Nat)
/-- no getter -/
def notP (prs : List (Nat × Str × Nat)) (f : Nat) : Bool := prs.all fun p => !(p.2.2 == f)

/-- a def's promise -/
def spF (T : CT) (n : Nat) (fr : Bool) (g : List IV → Cs → R IV) : Sp := fun vs H Q E => vs.length = n ∧ ∃ S κ as cs, RS T S κ H cs ∧ RVs T S κ H as vs ∧ Wp T S E κ H fr (g as cs) Q
/-- what is wanted behind a constructor that began in H -/
def Wi (T : CT) (S : Addr → Prop) (E : Value → Option Addr → Hp → Prop) (κ : List Addr) (H : Hp) (c : Nat) (x dx : Addr) (r : R (List IV)) (Q : Hp → Prop) : Prop := match r with
  | .ok fs cs => ∀ κ' H' vs dx', Stp κ H κ' H' → RS T (fun b => S b ∨ b = x) κ' H' cs → H' x = some (.ins (T.cls c) dx' ((T.fld c).zip vs)) → fs.length = (T.fld c).length → RVs T (fun b => S b ∨ b = x) κ' H' fs vs → Q H'
  | .exc e pl cs => ∀ κ' H' d, Stp κ H κ' H' → RS T S κ' H' cs → ExcP T S κ' H' pl d → E (.ref (T.cls e)) d H'
  | .stuck => False
def spI (T : CT) (n : Nat) (c : Nat) (g : List IV → Cs → R (List IV)) : Sp := fun vs H Q E => vs.length = n ∧ ∃ S κ as cs x dx ws H0, vs = .ref x :: ws ∧ H = upd (upd H0 dx (.own x)) x (.ins (T.cls c) dx []) ∧ H0 x = none ∧ H0 dx = none ∧ dx ≠ x ∧
  RS T S κ H0 cs ∧ RVs T S κ H0 as ws ∧ Wi T S E κ H0 c x dx (g as cs) fun H' => Q .non H'

def bltName : Blt → Str
  | .len => "len" | .abs => "abs" | .int => "int" | .str => "str" | .tuple => "tuple" | .list => "list" | .sum => "sum" | .all => "all" | .any => "any" | .min => "min" | .max => "max"
def tyVal (T : CT) : Ty → Value
  | .int => .type "int" | .bool => .type "bool" | .str => .type "str" | .tuple => .type "tuple" | .list => .type "list" | .cls c => .ref (T.cls c)

/-- what a body knows of the text -/
structure Fs (T : CT) (Φ : Fns) (J : TX) (lv : Nat) (X : Cx) : Prop where
  K : X.K = T.K
  fn : ∀ f, f < J.nf → FnOk X.prog X.w X.K X.mg X.base (L2.CX X.prog X.w) lv (J.fad f) (J.fdt f) (J.fps f) (spF T (J.fps f).length (J.ffr f) (Φ.fn f))
  bi : ∀ f, f < J.nf → Binds X.K (J.fdt f) (J.fps f) []
  kp : ∀ f, f < J.nf → PySem.W.keepIn X.K (.ref (J.fad f)) = true
  gl : ∀ f, f < J.nf → J.isM f = false → X.mg (J.fnm f) = some (.ref (J.fad f))
  me : ∀ f, f < J.nf → J.isM f = true → notP J.prs f = true → J.fcl f < J.nc ∧ Meth X.K (T.cls (J.fcl f)) (J.fnm f) (J.fad f) ∧ ((T.fld (J.fcl f)).contains (J.fnm f)) = false
  cl : ∀ c, c < J.nc → Cls X.K (T.cls c) ∧ (∀ f ∈ T.fld c, NoAttr X.K (T.cls c) f) ∧ (T.fld c).Nodup ∧ (T.fld c).length < 1000
  ini : ∀ c, c < J.nc → FnOk X.prog X.w X.K X.mg X.base (L2.CX X.prog X.w) lv (J.iad c) (J.idt c) (J.ips c) (spI T (J.ips c).length c (Φ.init c)) ∧ Binds X.K (J.idt c) (J.ips c) [] ∧ Mk X.K (T.cls c) (J.iad c) ∧ X.mg (J.cnm c) = some (.ref (T.cls c))
  co : ∀ k, k < J.nk → ∃ u v, X.mg (J.knm k) = some u ∧ RelV v u ∧ flatI (Φ.con k) = true ∧ (∀ S κ H, RV T S κ H (Φ.con k) v)
  pr : ∀ p ∈ J.prs, p.1 < J.nc ∧ p.2.2 < J.nf ∧ (J.fps p.2.2).length = 1 ∧ J.ffr p.2.2 = false ∧ ∃ pa, PropOf X.K (T.cls p.1) p.2.1 pa (J.fad p.2.2)
  it : Φ.eqk = true → ∀ p ∈ J.its, p.1 < J.nc ∧ ∃ x, (T.fld p.1)[p.2.2]? = some x ∧ PySem.W.findIn X.K (.ref (T.cls p.1)) "__iter__" = some (some (.ref (J.fad p.2.1))) ∧ PySem.W.isFn X.K (.ref (J.fad p.2.1)) = true ∧ Binds X.K (J.fdt p.2.1) ["self"] [] ∧ FnOk X.prog X.w X.K X.mg X.base (L2.CX X.prog X.w) lv (J.fad p.2.1) (J.fdt p.2.1) ["self"] (spIt X.K (T.cls p.1) x)
  cv : ∀ p ∈ J.cvs, X.mg (J.cnm p.1) = some (.ref (T.cls p.1)) ∧ ∃ mc u, ClX.CRead X.K (T.cls p.1) mc ∧ ClX.CVal X.K (T.cls p.1) mc p.2.1 (.int p.2.2) u
  bl : ∀ b, X.mg (bltName b) = none
  isi : X.mg "isinstance" = none
  rng : X.mg "range" = none
  enu : X.mg "enumerate" = none
  zip : X.mg "zip" = none
  bol : X.mg "bool" = none
  /-- isinstance of the classes -/
  kit : ∀ c, c < J.nc → ∀ t, (∀ c', t = Ty.cls c' → c' < J.nc) → PySem.W.kitOne X.K (.ref (T.cls c)) (tyVal T t) = some (isiI (.obj c []) t)
  kib : ∀ (n : String) (c : Nat), c < J.nc → ["NoneType", "int", "bool", "str", "tuple", "list"].contains n = true → PySem.W.kitOne X.K (.type n) (.ref (T.cls c)) = some false
  qc : Φ.q < J.nc
  qm : PySem.W.selfFirst X.K (T.cls Φ.q) = true
  qo : ∀ p ∈ [(("__add__" : Str), Φ.add), ("__sub__", Φ.sub), ("__mul__", Φ.mul), ("__lt__", Φ.lt), ("__le__", Φ.le), ("__eq__", Φ.eq)], p.2 < J.nf ∧ PySem.W.findIn X.K (.ref (T.cls Φ.q)) p.1 = some (some (.ref (J.fad p.2))) ∧ PySem.W.isFn X.K (.ref (J.fad p.2)) = true ∧ (J.fps p.2).length = 2 ∧ J.ffr p.2 = false
  qn : ∀ n : String, ["NoneType", "int", "bool", "str", "tuple", "list"].contains n = true → PySem.W.subIn X.K (.type n) (.ref (T.cls Φ.q)) = some false
  qr : ∀ n : String, ["NoneType", "int", "bool", "str", "tuple", "list"].contains n = true → PySem.W.subIn X.K (.ref (T.cls Φ.q)) (.type n) = some false
  qs : Φ.eqk = true → ∀ (t b : Int) (y : IV) (cs : Cs) (r : Bool), eqQ Φ.q [.int t, .int b] y = some r → Φ.fn Φ.eq [.obj Φ.q [.int t, .int b], y] cs = .ok (.bl r) cs
  cA : ∀ c, c < J.nc → PySem.W.findIn X.K (.ref (T.cls c)) "__class__" = some (some (.builtin "object.__class__"))
  cG : PySem.W.specialIn X.K (.builtin "object.__class__") "__get__" = some (some (.builtin "getset_descriptor.__get__"))
  cT : PySem.W.takesIn X.K (.builtin "object.__class__") = some true
  cM : ∀ c, c < J.nc → PySem.W.mroIn X.K (T.cls c) (.type "object") = some true
  qg : Φ.neg < J.nf ∧ PySem.W.findIn X.K (.ref (T.cls Φ.q)) "__neg__" = some (some (.ref (J.fad Φ.neg))) ∧ PySem.W.isFn X.K (.ref (J.fad Φ.neg)) = true ∧ (J.fps Φ.neg).length = 1 ∧ J.ffr Φ.neg = false
  qob : PySem.W.subIn X.K (.ref (T.cls Φ.q)) (.type "object") = some true
  nce : Φ.nc = J.nc
  qne : PySem.W.findIn X.K (.ref (T.cls Φ.q)) "__ne__" = some (some (.builtin "object.__ne__"))

structure CxOk (T : CT) (Φ : Fns) (J : TX) (lv : Nat) (N : List Str) (sc : Scope) (X : Cx) : Prop where
  fs : Fs T Φ J lv X
  hN : X.N = N
  nd : X.N.Nodup
  sc : X.env.scope = sc
  calm : X.calm = true
  room : Room (lv + 14) X.A

section
variable {T : CT} {Φ : Fns} {J : TX} {lv : Nat} {W : WX} {X : Cx} {S : Addr → Prop} {κ : List Addr} {H : Hp} {env : Env} {cs : Cs} {σ : St} {fr : Bool} {Q : VK}
theorem RVs.vals_len {xs : List IV} {vs : List V} {n : Nat} (r : RVs T S κ H xs vs) (h : xs.length = n) : vs.length = n := by rw [← r.len]; exact h
/-- a def is called, by values, somewhere below the body -/
theorem callFA {f : Nat} {as : List IV} {vs : List V} {us : List Value} {pins : List (Addr × Obj)} {s : Shared} {A : Around} (F : Fs T Φ J lv X) (hf : f < J.nf) (hr : Room lv A) (hA : A.frames = X.A.frames) (tk : Takes X W) (I : Inv X pins σ H s) (rs : RS T S κ H cs) (rv : RVs T S κ H as vs) (r : Vals vs us)
    (hl : as.length = (J.fps f).length) (w : Wp T S (fun c d H' => W c d σ H') κ H (J.ffr f) (Φ.fn f as cs) Q) : wpAny (model X.prog X.w) A (call (.ref (J.fad f)) us) (EP X pins σ Q) X.xe s := by
  have hlv : us.length = (J.fps f).length := by rw [← r.length, ← rv.len]; exact hl
  have b := F.bi f hf s us I.kIn (by rw [List.append_nil]; exact hlv)
  rw [List.append_nil] at b
  have e0 : Env0 X.prog X.w X.K X.mg X.base A X.stack s H := by
    have e := I.env0
    exact ⟨by rw [hA]; exact e.frames, e.mod, e.bs, e.bsz, e.funs, e.frf, e.hok, e.bare⟩
  refine wpAny_call (codeAny_mono ((F.fn f hf).run A X.stack s H ⟨us, []⟩ us vs Q (WE W σ) hr e0 b r ⟨rv.vals_len hl, S, κ, as, cs, rs, rv, w⟩) fun r s' hq => ?_)
  cases r with
  | error e => exact passAt tk σ pins H s e s' I hq
  | ok fl =>
    cases fl with
    | ret u => exact I.after hq
    | next => exact False.elim hq
    | brk => exact False.elim hq
    | cont => exact False.elim hq
theorem callF {f : Nat} {as : List IV} {vs : List V} {us : List Value} {pins : List (Addr × Obj)} {s : Shared} (F : Fs T Φ J lv X) (hf : f < J.nf) (hr : Room lv X.A) (tk : Takes X W) (I : Inv X pins σ H s) (rs : RS T S κ H cs) (rv : RVs T S κ H as vs) (r : Vals vs us)
    (hl : as.length = (J.fps f).length) (w : Wp T S (fun c d H' => W c d σ H') κ H (J.ffr f) (Φ.fn f as cs) Q) : wpAny (model X.prog X.w) X.A (call (.ref (J.fad f)) us) (EP X pins σ Q) X.xe s := callFA F hf hr rfl tk I rs rv r hl w
/-- an instance is made, by values -/
theorem runMk {c : Nat} {as : List IV} {vs : List V} {us : List Value} {pins : List (Addr × Obj)} {s : Shared} (F : Fs T Φ J lv X) (hc : c < J.nc) (hr : Room (lv + 1) X.A) (tk : Takes X W) (I : Inv X pins σ H s) (rs : RS T S κ H cs) (rv : RVs T S κ H as vs) (r : Vals vs us)
    (hl : as.length + 1 = (J.ips c).length) (w : Wp T S (fun c d H' => W c d σ H') κ H false (mkI Φ c as cs) Q) : wpAny (model X.prog X.w) X.A (call (.ref (T.cls c)) us) (EP X pins σ Q) X.xe s := by
  obtain ⟨FI, bi, M, _⟩ := F.ini c hc
  have nx : H (s.heap.objs.size + 1) = none := I.hok.fresh (Nat.le_succ _)
  have nd : H s.heap.objs.size = none := I.hok.fresh (Nat.le_refl _)
  have hne : s.heap.objs.size ≠ s.heap.objs.size + 1 := Nat.ne_of_lt (Nat.lt_succ_self _)
  have I2 := Inv.made (C := T.cls c) I
  have r2 : Vals (V.ref (s.heap.objs.size + 1) :: vs) (Value.ref (s.heap.objs.size + 1) :: us) := .cons rfl r
  have hlv : (V.ref (s.heap.objs.size + 1) :: vs).length = (J.ips c).length := by rw [List.length_cons, ← rv.len]; exact hl
  have hlu : (Value.ref (s.heap.objs.size + 1) :: us).length = (J.ips c).length := by rw [← r2.length]; exact hlv
  have hsp : spI T (J.ips c).length c (Φ.init c) (V.ref (s.heap.objs.size + 1) :: vs) (upd (upd H s.heap.objs.size (.own (s.heap.objs.size + 1))) (s.heap.objs.size + 1) (.ins (T.cls c) s.heap.objs.size [])) (fun v H2 => v = .non ∧ Q (.ref (s.heap.objs.size + 1)) H2) (WE W σ) := by
    refine ⟨hlv, S, κ, as, cs, _, _, vs, H, rfl, rfl, nx, nd, hne, rs, rv, ?_⟩
    revert w
    unfold mkI
    cases Φ.init c as cs with
    | stuck => exact fun w => w.elim
    | exc e pl cs' => exact fun w => w
    | ok fs cs' =>
      intro w κ' H' ws dx' st rs' hx hlf rvs
      have nk : s.heap.objs.size + 1 ∉ κ' := fun z => by
        obtain ⟨_, _, _, _, _, n⟩ := rs'.at z
        exact n (.inr rfl)
      have nS : ¬ S (s.heap.objs.size + 1) := fun z => rs.dom _ z nx
      refine ⟨rfl, ?_⟩
      rw [R.bind_ok] at w
      cases hcel : Φ.cel c with
      | false =>
        rw [hcel] at w
        refine w κ' H' _ st (rs'.sub fun a h => .inl h) ?_ fun z => nomatch z
        unfold RV
        exact ⟨_, _, ws, rfl, hx, ⟨nS, nk⟩, hlf, (Mv.anti fun a h => .inl h).rvs _ _ rvs⟩
      | true =>
        rw [hcel] at w
        have mv : Mv T (fun b => S b ∨ b = s.heap.objs.size + 1) κ' H' S (κ' ++ [s.heap.objs.size + 1]) H' := {
          l := fun a vs ⟨q, n, n'⟩ => ⟨q, fun z => n (.inl z), fun z => (List.mem_append.mp z).elim n' fun z => n (.inr (by simpa using z))⟩
          t := fun _ _ q => q
          r := fun _ _ q => q
          o := fun a C dx fs e n => ⟨e, fun z => n.1 (.inl z), fun z => (List.mem_append.mp z).elim n.2 fun z => n.1 (.inr (by simpa using z))⟩
          c := fun n a e => by rw [List.getElem?_append_left (List.getElem?_eq_some_iff.mp e).1]; exact e }
        refine w (κ' ++ [s.heap.objs.size + 1]) H' _ ⟨?_, ?_, st.evo, st.dom⟩ ⟨?_, ?_, fun a z => rs'.dom a (.inl z), ?_⟩ ?_ fun z => nomatch z
        · obtain ⟨q, e⟩ := st.pre
          exact ⟨q ++ [s.heap.objs.size + 1], by rw [e, List.append_assoc]⟩
        · intro a ha
          rcases List.mem_append.mp ha with z | z
          · exact st.fresh a z
          · have : a = s.heap.objs.size + 1 := by simpa using z
            subst this; exact .inr nx
        · rw [List.nodup_append]
          refine ⟨rs'.nd, by simp, fun a ha b hb e => nk ?_⟩
          have : b = s.heap.objs.size + 1 := by simpa using hb
          rw [← this, ← e]; exact ha
        · rw [List.length_append, List.length_append, rs'.len]; rfl
        · intro n o a e1 e2
          by_cases hn : n < cs'.length
          · rw [List.getElem?_append_left hn] at e1
            rw [List.getElem?_append_left (by rw [rs'.len]; exact hn)] at e2
            obtain ⟨q1, q2⟩ := rs'.cel n o a e1 e2
            exact ⟨q1.mv mv rfl, fun z => q2 (.inl z)⟩
          · rw [List.getElem?_append_right (by omega)] at e1
            rw [List.getElem?_append_right (by rw [rs'.len]; omega)] at e2
            rw [rs'.len] at e2
            have h0 : n - cs'.length = 0 := by
              rcases Nat.eq_zero_or_pos (n - cs'.length) with z | z
              · exact z
              · rw [List.getElem?_eq_none (by simp only [List.length_cons, List.length_nil]; omega)] at e1; cases e1
            rw [h0] at e1 e2
            have e1' : o = .ins c fs := by simpa using e1.symm
            have e2' : a = s.heap.objs.size + 1 := by simpa using e2.symm
            subst e1' e2'
            exact ⟨⟨_, ws, hx, hlf, mv.rvs _ _ rvs⟩, nS⟩
        · unfold RV
          refine ⟨_, rfl, ?_⟩
          rw [← rs'.len, List.getElem?_append_right (Nat.le_refl _)]
          simp
  have b := bi { s with heap := (s.heap.push PySem.W.emptyDict).push (PySem.W.instObj (T.cls c) s.heap.objs.size) } (Value.ref (s.heap.objs.size + 1) :: us) I2.kIn (by rw [List.append_nil]; exact hlu)
  rw [List.append_nil] at b
  refine wpAny_call (make_map (f := J.iad c) I.kIn M.makes M.init (beq_iff_eq.mp M.fn) (codeAny_mono (FI.run _ X.stack _ _ ⟨Value.ref (s.heap.objs.size + 1) :: us, []⟩ (Value.ref (s.heap.objs.size + 1) :: us) _ _ (WE W σ) (hr.make (T.cls c) us [])
    (I2.env0.make (T.cls c) us []) b r2 hsp) fun r s' hq' => ?_))
  cases r with
  | error e => exact passAt tk σ pins _ _ e s' I2 hq'
  | ok fl =>
    cases fl with
    | ret u =>
      obtain ⟨v, H', I3, rv', ev, q3⟩ := I2.after hq'
      subst ev
      exact ⟨rv', ⟨V.ref (s.heap.objs.size + 1), H', I3, rfl, q3⟩⟩
    | next => exact False.elim hq'
    | brk => exact False.elim hq'
    | cont => exact False.elim hq'
end
end EG

-- EngE
/-! Engine E: operators and calls as rules. -/
namespace EG
open PySem PySem.Spec L2 PyProof.Rows

def notStar : Expr → Bool
  | .Starred _ _ => false
  | _ => true
theorem star_cons {e : Expr} {es : List Expr} {env : PySem.Env} (h : notStar e = true) : starEach (e :: es) env = (false, eval e env) :: starEach es env := by
  cases e <;> first | rfl | cases h
theorem star_any {env : PySem.Env} {pos : Pos} : ∀ {es : List Expr}, es.all notStar = true → (backTo pos (starEach es env)).any (·.1) = false
  | [], _ => rfl
  | e :: es, h => by
    rw [List.all_cons, Bool.and_eq_true] at h
    rw [star_cons h.1]
    show (false || (backTo pos (starEach es env)).any (·.1)) = false
    rw [star_any h.2]; rfl
theorem star_one {e : Expr} {env : PySem.Env} (h : notStar e = true) : starEach [e] env = [(false, eval e env)] := by rw [star_cons h]; rfl

section
variable {T : CT} {Φ : Fns} {J : TX} {lv : Nat} {W : WX} {X : Cx} {S : Addr → Prop} {κ : List Addr} {H : Hp} {env : Env} {cs : Cs} {σ : L2.St} {fr : Bool} {Q : VK} {N : List Str} {sc : Scope}

/-- an operator of two values -/
def OpS (T : CT) (W : WX) (X : Cx) (fop : Value → Value → Sem Value) (h : IV → IV → Cs → R IV) : Prop :=
  ∀ (pins : List (Addr × Obj)) (s : Shared) (σ : L2.St) (H : Hp) (S : Addr → Prop) (κ : List Addr) (cs : Cs) (x y : IV) (v u : V) (a b : Value) (Q : VK), Inv X pins σ H s → RS T S κ H cs → RV T S κ H x v → RV T S κ H y u → RelV v a → RelV u b →
    Wp T S (fun c d H' => W c d σ H') κ H false (h x y cs) Q → wpAny (model X.prog X.w) X.A (fop a b) (EP X pins σ Q) X.xe s
theorem OpS.of {fop : Value → Value → Sem Value} {h : IV → IV → Cs → R IV} {r : R2} (o : OpR X fop r)
    (q : ∀ (σ : L2.St) (H : Hp) (S : Addr → Prop) (κ : List Addr) (cs : Cs) (x y : IV) (v u : V) (Q : VK), RS T S κ H cs → RV T S κ H x v → RV T S κ H y u → Wp T S (fun c d H' => W c d σ H') κ H false (h x y cs) Q → r v u H Q) : OpS T W X fop h :=
  fun pins s σ H S κ cs x y v u a b Q I rs rx ry ra rb w => o pins s σ H v u a b Q I ra rb (q σ H S κ cs x y v u Q rs rx ry w)
theorem se_bin {a b : Expr} {op : Operator} {pos : Pos} {f g : Env → Cs → R IV} {h : IV → IV → Cs → R IV} (o : OpS T W X (binaryOp op) h) (ha : PE X a (tE T W false f)) (hb : PE X b (tE T W false g)) :
    PE X (.BinOp a op b pos) (tE T W false fun env cs => (f env cs).bind fun x cs => (g env cs).bind fun y cs => h x y cs) := by
  refine PE.of fun pins s σ H Q S κ env cs I rs re w => ?_
  refine wpAny_BinOp (thn (use ha I rs re w) fun v s1 ⟨vv, H1, I1, r1, x, cs1, κ1, st1, rs1, rv1, w1⟩ => ?_)
  refine thn (use hb I1 rs1 (re.mv st1.mv) w1) fun u s2 ⟨uu, H2, I2, r2, y, cs2, κ2, st2, rs2, rv2, w2⟩ => ?_
  exact o pins s2 σ H2 S κ2 cs2 x y vv uu v u Q I2 rs2 (st2.mv.rv _ _ rv1) rv2 r1 r2 w2
theorem se_cmp {a b : Expr} {op : CmpOp} {pos : Pos} {f g : Env → Cs → R IV} {h : IV → IV → Cs → R IV} (o : OpS T W X (compareOp op) h) (ha : PE X a (tE T W false f)) (hb : PE X b (tE T W false g)) (hm : behindInMarks op b = false) :
    PE X (.Compare a [op] [b] pos) (tE T W false fun env cs => (f env cs).bind fun x cs => (g env cs).bind fun y cs => h x y cs) := by
  refine PE.of fun pins s σ H Q S κ env cs I rs re w => ?_
  refine wpAny_Compare1 (thn (use ha I rs re w) fun v s1 ⟨vv, H1, I1, r1, x, cs1, κ1, st1, rs1, rv1, w1⟩ => ?_) hm
  refine thn (use hb I1 rs1 (re.mv st1.mv) w1) fun u s2 ⟨uu, H2, I2, r2, y, cs2, κ2, st2, rs2, rv2, w2⟩ => ?_
  exact o pins s2 σ H2 S κ2 cs2 x y vv uu v u Q I2 rs2 (st2.mv.rv _ _ rv1) rv2 r1 r2 w2

/-! ### arithmetic -/
/-- ints, by a rule of the layer -/
theorem ops_int {fop : Value → Value → Sem Value} {C : Int → Int → Prop} {g : Int → Int → V} {g' : Int → Int → IV} (o : OpR X fop (rI C g)) (hg : ∀ S κ H i j, RV T S κ H (g' i j) (g i j)) {h : IV → IV → Cs → R IV}
    (hh : ∀ x y cs, h x y cs = .stuck ∨ ∃ i j, x = .int i ∧ y = .int j ∧ C i j ∧ h x y cs = .ok (g' i j) cs) : OpS T W X fop h := OpS.of o fun σ H S κ cs x y v u Q rs rx ry w => by
  rcases hh x y cs with e | ⟨i, j, rfl, rfl, c, e⟩
  · rw [e] at w; exact w.elim
  · rw [e] at w
    unfold RV at rx ry
    exact ⟨i, j, rx, ry, c, w.ok rs (hg ..)⟩
theorem OpS.or {fop : Value → Value → Sem Value} {h h1 h2 : IV → IV → Cs → R IV} (a : OpS T W X fop h1) (b : OpS T W X fop h2) (e : ∀ x y cs, h x y cs = h1 x y cs ∨ h x y cs = h2 x y cs) : OpS T W X fop h :=
  fun pins s σ H S κ cs x y v u a' b' Q I rs rx ry ra rb w => by
    rcases e x y cs with e | e
    · rw [e] at w; exact a pins s σ H S κ cs x y v u a' b' Q I rs rx ry ra rb w
    · rw [e] at w; exact b pins s σ H S κ cs x y v u a' b' Q I rs rx ry ra rb w
theorem OpR.ri {fop : Value → Value → Sem Value} {g : Int → Int → V} (o : OpR X fop (rI0 g)) : OpR X fop (rI (fun _ _ => True) g) := fun pins s σ H x y v u Q I rx ry ⟨i, j, e1, e2, _, q⟩ => o pins s σ H x y v u Q I rx ry ⟨i, j, e1, e2, q⟩
theorem smallW_ok {i j : Int} (hi : smallW i = true) (hj : smallW j = true) : CMulX i j := by
  have hi' : i.natAbs.log2 < 60000000 := of_decide_eq_true hi
  have hj' : j.natAbs.log2 < 60000000 := of_decide_eq_true hj
  have b : ∀ n : Nat, n.log2 < 60000000 → n < 2 ^ 60000000 := fun n h => by
    by_cases z : n = 0
    · subst z; exact Nat.pow_pos (by decide)
    · exact (Nat.log2_lt z).mp h
  exact mulx_ok (b _ hi') (b _ hj') (by decide)
def CDivG (i j : Int) : Prop := j ≠ 0 ∧ j.natAbs.log2 < 9000
theorem op_fdivG : OpR X (binaryOp .FloorDiv) (rI CDivG fun i j => .int (i.fdiv j)) := opI fun _ _ _ _ _ _ _ hc q => floordiv_int hc.1 q (.inl (PyProof.noPylong_of_log2 hc.2))
theorem rv_int {S : Addr → Prop} {κ : List Addr} {H : Hp} {i : Int} : RV T S κ H (.int i) (.int i) := by unfold RV; rfl
theorem rv_bl {S : Addr → Prop} {κ : List Addr} {H : Hp} {i : Bool} : RV T S κ H (.bl i) (.bl i) := by unfold RV; rfl
theorem rv_str {S : Addr → Prop} {κ : List Addr} {H : Hp} {i : Str} : RV T S κ H (.str i) (.str i) := by unfold RV; rfl
theorem rv_ref_tup {S : Addr → Prop} {κ : List Addr} {H : Hp} {xs : List IV} {v : V} (h : RV T S κ H (.tup xs) v) : ∃ a vs, v = .ref a ∧ SqT T.K H a vs ∧ RVs T S κ H xs vs := by unfold RV at h; exact h
theorem rv_ref_lst {S : Addr → Prop} {κ : List Addr} {H : Hp} {xs : List IV} {v : V} (h : RV T S κ H (.lst xs) v) : ∃ a vs, v = .ref a ∧ SqV S κ H a vs ∧ RVs T S κ H xs vs := by unfold RV at h; exact h

/-- two Quotients, by their own method -/
def hQ2 (Φ : Fns) (f : Nat) : IV → IV → Cs → R IV := fun x y cs => match x, y with
  | .obj c fs, .obj c' gs => if c = Φ.q ∧ c' = Φ.q then Φ.fn f [.obj c fs, .obj c' gs] cs else .stuck
  | _, _ => .stuck
theorem EP.notNI {pins : List (Addr × Obj)} {σ : L2.St} {Q : VK} {u : Value} {s : Shared} (h : EP X pins σ Q u s) : PySem.W.CmpBack (EP X pins σ Q) u s := by
  obtain ⟨v, H', I, r, q⟩ := id h
  cases v with
  | non => cases r; exact h
  | bl _ => cases r; exact h
  | int _ => obtain ⟨t, rfl⟩ := r; exact h
  | str _ => obtain ⟨t, rfl⟩ := r; exact h
  | byt _ => obtain ⟨t, rfl⟩ := r; exact h
  | flt _ => obtain ⟨t, rfl⟩ := r; exact h
  | ref _ => cases r; exact h
  | ty _ => cases r; exact h
theorem ops_q2 {op : Operator} {f : Nat} (O : CxOk T Φ J lv N sc X) (tk : Takes X W) (hp : (PySem.dunder op.info.2, f) ∈ [(("__add__" : Str), Φ.add), ("__sub__", Φ.sub), ("__mul__", Φ.mul), ("__lt__", Φ.lt), ("__le__", Φ.le), ("__eq__", Φ.eq)]) : OpS T W X (binaryOp op) (hQ2 Φ f) := by
  intro pins s σ H S κ cs x y v u a b Q I rs rx ry ra rb w
  obtain ⟨hf, hfi, hfn, hps, hfr⟩ := O.fs.qo _ hp
  cases x with
  | obj c fs => cases y with
    | obj c' gs =>
      unfold hQ2 at w
      dsimp only at w
      by_cases hc : c = Φ.q ∧ c' = Φ.q
      · rw [if_pos hc] at w
        have rxs := RVs.cons rx (RVs.cons ry RVs.nil)
        obtain ⟨h1, h2⟩ := hc
        unfold RV at rx ry
        obtain ⟨p, dx, vs, rfl, hp1, _, _, _⟩ := rx
        obtain ⟨p', dx', vs', rfl, hp2, _, _, _⟩ := ry
        cases ra
        cases rb
        rw [h1] at hp1
        rw [h2] at hp2
        obtain ⟨mA, Jx, _⟩ := ins_get I.hok hp1
        obtain ⟨mB, Jy, _⟩ := ins_get I.hok hp2
        obtain ⟨od, Jx, _⟩ := Jx.look
        obtain ⟨od', Jy, _⟩ := Jy.look
        obtain ⟨m, hF⟩ := I.fr
        refine PySem.W.binop_K (K := X.K) hF I.ok.mod.kin Jx Jy.type O.fs.qm hfi hfn ?_
        refine wpAny_mono (callF (W := W) O.fs hf (O.room.mono (by omega)) tk I rs rxs (.cons rfl (.cons rfl .nil)) (by rw [hps]; rfl) (by rw [hfr]; exact w)) (fun u s' q => EP.notNI q) fun _ _ z => z
      · rw [if_neg hc] at w; exact w.elim
    | _ => exact w.elim
  | _ => cases y <;> exact w.elim
theorem ops_qc {op : CmpOp} {f : Nat} (hop : ∀ a b, compareOp op a b = richCompare op a b) (O : CxOk T Φ J lv N sc X) (tk : Takes X W) (hp : ((PySem.cmpInfo op).2.1, f) ∈ [(("__add__" : Str), Φ.add), ("__sub__", Φ.sub), ("__mul__", Φ.mul), ("__lt__", Φ.lt), ("__le__", Φ.le), ("__eq__", Φ.eq)]) : OpS T W X (compareOp op) (hQ2 Φ f) := by
  intro pins s σ H S κ cs x y v u a b Q I rs rx ry ra rb w
  obtain ⟨hf, hfi, hfn, hps, hfr⟩ := O.fs.qo _ hp
  cases x with
  | obj c fs => cases y with
    | obj c' gs =>
      unfold hQ2 at w
      dsimp only at w
      by_cases hc : c = Φ.q ∧ c' = Φ.q
      · rw [if_pos hc] at w
        have rxs := RVs.cons rx (RVs.cons ry RVs.nil)
        obtain ⟨h1, h2⟩ := hc
        unfold RV at rx ry
        obtain ⟨p, dx, vs, rfl, hp1, _, _, _⟩ := rx
        obtain ⟨p', dx', vs', rfl, hp2, _, _, _⟩ := ry
        cases ra
        cases rb
        rw [h1] at hp1
        rw [h2] at hp2
        obtain ⟨mA, Jx, _⟩ := ins_get I.hok hp1
        obtain ⟨mB, Jy, _⟩ := ins_get I.hok hp2
        obtain ⟨od, Jx, _⟩ := Jx.look
        obtain ⟨od', Jy, _⟩ := Jy.look
        obtain ⟨m, hF⟩ := I.fr
        rw [hop]
        refine PySem.W.cmp_K (K := X.K) (O.room.units0) hF I.ok.mod.kin Jx Jy.type (by simp [PySem.W.notFirst]) hfi hfn ?_
        refine wpAny_mono (callF (W := W) O.fs hf (O.room.mono (by omega)) tk I rs rxs (.cons rfl (.cons rfl .nil)) (by rw [hps]; rfl) (by rw [hfr]; exact w)) (fun u s' q => EP.notNI q) fun _ _ z => z
      · rw [if_neg hc] at w; exact w.elim
    | _ => exact w.elim
  | _ => cases y <;> exact w.elim
end
end EG

-- EngF
/-! Engine F: == and != of any depth, with the text's own == of quotients. -/
namespace GB
open PySem PySem.SeqAt
open AutoSeq1 (wpAny_loadPart')
open MeetsSeq MeetsSeq2 MeetsSeq3 SeqRoads2 GQ
section
variable {prog : Program} {w : World} {A : Around} {R : Result → Shared → Prop}
abbrev TObj (dd : Option Addr) (items : Array Value) (n : Nat) (sl : Array (Option Value)) : Obj := { cls := .type "tuple", dict := dd, data := .seq items n, slots := sl }
abbrev LObj (items : Array Value) (n : Nat) : Obj := { cls := .type "list", data := .seq items n }
theorem tuple_eqB (l b : Addr) (items items2 : Array Value) (n n2 : Nat) (dd dd2 : Option Addr) (sl sl2 : Array (Option Value)) (I : Shared → Prop) (e : Nat → Bool)
    (turn : ∀ i (h1 : i < items.size) (h2 : i < items2.size) s, (∀ j, j < i → e j = true) → I s → wpAny (model prog w) A.in1 (eqBool items[i] items2[i]) (fun r s' => r = e i ∧ I s') (fun e s' => R (.error e) s') s)
    (fin : ∀ s, I s → R (.ok (.ret (.bool (((List.range (min items.size items2.size)).all e && items.size == items2.size))))) s) {s : Shared} (hl1 : s.heap.get? l = some (TObj dd items n sl)) (hb1 : s.heap.get? b = some (TObj dd2 items2 n2 sl2)) (h : I s) :
    wpAny (model prog w) A.in1 (Builtin.«tuple.__eq__» ⟨[.ref l, .ref b], []⟩) (FinOf prog w A R) (fun e s' => R (.error e) s') s := by
  have f2 := AutoSeq1.sub_tuple_tuple
  have hZ : (items.toList.zip items2.toList).length = min items.size items2.size := by simp
  have h0 := h
  obtain ⟨hp, g, d, tk, os⟩ := s
  wp_walk using wpAny_loadPart' hl1, wpAny_loadPart' hb1, wpAny_forIn_list _ (fun rest b s' => b.1 = none ∧ ∃ i, rest = (items.toList.zip items2.toList).drop i ∧ (∀ j, j < i → e j = true) ∧ i ≤ min items.size items2.size ∧ I s') _
  case turn =>
    rintro ⟨y, x⟩ rest b s' ⟨hb', i, hz, hp', hi, hI⟩
    have hlt : i < (items.toList.zip items2.toList).length := by
      rcases Nat.lt_or_ge i (items.toList.zip items2.toList).length with h' | h'
      · exact h'
      · rw [List.drop_of_length_le h'] at hz; cases hz
    have hm : i < min items.size items2.size := hZ ▸ hlt
    have h1 : i < items.size := Nat.lt_of_lt_of_le hm (Nat.min_le_left _ _)
    have h2 : i < items2.size := Nat.lt_of_lt_of_le hm (Nat.min_le_right _ _)
    rw [List.drop_eq_getElem_cons hlt] at hz
    injection hz with hyx hrest
    have hy : y = items[i] := by have := congrArg Prod.fst hyx; simpa using this
    have hx : x = items2[i] := by have := congrArg Prod.snd hyx; simpa using this
    subst hy hx
    refine wpAny_bind (wpAny_mono (turn i h1 h2 s' hp' hI) (fun r s2 q2 => ?_) fun _ _ x => x)
    obtain ⟨hr, q2⟩ := q2
    cases he : e i with
    | true =>
      rw [he] at hr
      subst hr
      wp_walk
      exact ⟨rfl, i + 1, hrest, fun j hj => by
        rcases Nat.lt_or_ge j i with z | z
        · exact hp' j z
        · rw [show j = i by omega]; exact he, hm, q2⟩
    | false =>
      rw [he] at hr
      subst hr
      have hf := fin s2 q2
      have hall : (List.range (min items.size items2.size)).all e = false := by
        rw [List.all_eq_false]
        exact ⟨i, List.mem_range.mpr hm, by rw [he]; exact Bool.false_ne_true⟩
      rw [hall] at hf
      wp_walk
      first
        | exact hf
        | simpa using hf
        | exact ⟨_, rfl, by simpa using hf⟩
  case fin =>
    rintro ⟨b1, b2⟩ s' ⟨hb', i, hz, hp', hi, hI⟩
    simp only at hb'
    subst hb'
    have hge : min items.size items2.size ≤ i := by
      rcases Nat.lt_or_ge i (items.toList.zip items2.toList).length with h' | h'
      · rw [List.drop_eq_getElem_cons h'] at hz; cases hz
      · exact hZ ▸ h'
    have hf := fin s' hI
    have hall : (List.range (min items.size items2.size)).all e = true := by
      rw [List.all_eq_true]
      exact fun j hj => hp' j (Nat.lt_of_lt_of_le (List.mem_range.mp hj) hge)
    rw [hall, Bool.true_and] at hf
    wp_walk
    first
      | (simpa [Builtin.Tuple.tupleCompareSizes, bne] using hf)
      | exact ⟨_, rfl, by simpa [Builtin.Tuple.tupleCompareSizes, bne] using hf⟩
  case h =>
    exact ⟨rfl, 0, rfl, fun j hj => absurd hj (Nat.not_lt_zero _), Nat.zero_le _, h0⟩
theorem tuple_neB (l b : Addr) (items items2 : Array Value) (n n2 : Nat) (dd dd2 : Option Addr) (sl sl2 : Array (Option Value)) (I : Shared → Prop) (e : Nat → Bool)
    (turn : ∀ i (h1 : i < items.size) (h2 : i < items2.size) s, (∀ j, j < i → e j = true) → I s → wpAny (model prog w) A.in1 (eqBool items[i] items2[i]) (fun r s' => r = e i ∧ I s') (fun e s' => R (.error e) s') s)
    (fin : ∀ s, I s → R (.ok (.ret (.bool (!((List.range (min items.size items2.size)).all e && items.size == items2.size))))) s) {s : Shared} (hl1 : s.heap.get? l = some (TObj dd items n sl)) (hb1 : s.heap.get? b = some (TObj dd2 items2 n2 sl2)) (h : I s) :
    wpAny (model prog w) A.in1 (Builtin.«tuple.__ne__» ⟨[.ref l, .ref b], []⟩) (FinOf prog w A R) (fun e s' => R (.error e) s') s := by
  have f2 := AutoSeq1.sub_tuple_tuple
  have hZ : (items.toList.zip items2.toList).length = min items.size items2.size := by simp
  have h0 := h
  obtain ⟨hp, g, d, tk, os⟩ := s
  wp_walk using wpAny_loadPart' hl1, wpAny_loadPart' hb1, wpAny_forIn_list _ (fun rest b s' => b.1 = none ∧ ∃ i, rest = (items.toList.zip items2.toList).drop i ∧ (∀ j, j < i → e j = true) ∧ i ≤ min items.size items2.size ∧ I s') _
  case turn =>
    rintro ⟨y, x⟩ rest b s' ⟨hb', i, hz, hp', hi, hI⟩
    have hlt : i < (items.toList.zip items2.toList).length := by
      rcases Nat.lt_or_ge i (items.toList.zip items2.toList).length with h' | h'
      · exact h'
      · rw [List.drop_of_length_le h'] at hz; cases hz
    have hm : i < min items.size items2.size := hZ ▸ hlt
    have h1 : i < items.size := Nat.lt_of_lt_of_le hm (Nat.min_le_left _ _)
    have h2 : i < items2.size := Nat.lt_of_lt_of_le hm (Nat.min_le_right _ _)
    rw [List.drop_eq_getElem_cons hlt] at hz
    injection hz with hyx hrest
    have hy : y = items[i] := by have := congrArg Prod.fst hyx; simpa using this
    have hx : x = items2[i] := by have := congrArg Prod.snd hyx; simpa using this
    subst hy hx
    refine wpAny_bind (wpAny_mono (turn i h1 h2 s' hp' hI) (fun r s2 q2 => ?_) fun _ _ x => x)
    obtain ⟨hr, q2⟩ := q2
    cases he : e i with
    | true =>
      rw [he] at hr
      subst hr
      wp_walk
      exact ⟨rfl, i + 1, hrest, fun j hj => by
        rcases Nat.lt_or_ge j i with z | z
        · exact hp' j z
        · rw [show j = i by omega]; exact he, hm, q2⟩
    | false =>
      rw [he] at hr
      subst hr
      have hf := fin s2 q2
      have hall : (List.range (min items.size items2.size)).all e = false := by
        rw [List.all_eq_false]
        exact ⟨i, List.mem_range.mpr hm, by rw [he]; exact Bool.false_ne_true⟩
      rw [hall] at hf
      wp_walk
      first
        | exact hf
        | simpa using hf
        | exact ⟨_, rfl, by simpa using hf⟩
  case fin =>
    rintro ⟨b1, b2⟩ s' ⟨hb', i, hz, hp', hi, hI⟩
    simp only at hb'
    subst hb'
    have hge : min items.size items2.size ≤ i := by
      rcases Nat.lt_or_ge i (items.toList.zip items2.toList).length with h' | h'
      · rw [List.drop_eq_getElem_cons h'] at hz; cases hz
      · exact hZ ▸ h'
    have hf := fin s' hI
    have hall : (List.range (min items.size items2.size)).all e = true := by
      rw [List.all_eq_true]
      exact fun j hj => hp' j (Nat.lt_of_lt_of_le (List.mem_range.mp hj) hge)
    rw [hall, Bool.true_and] at hf
    wp_walk
    first
      | (simpa [Builtin.Tuple.tupleCompareSizes, bne] using hf)
      | exact ⟨_, rfl, by simpa [Builtin.Tuple.tupleCompareSizes, bne] using hf⟩
  case h =>
    exact ⟨rfl, 0, rfl, fun j hj => absurd hj (Nat.not_lt_zero _), Nat.zero_le _, h0⟩
def LIeq (prog : Program) (w : World) (A : Around) (E : Value → Shared → Prop) (l b : Addr) (N : Nat) (I : Shared → Prop) (e : Nat → Bool) : Prop :=
  ∀ i s, (∀ j, j < i → e j = true) → I s → ∃ (items items2 : Array Value) (n n2 : Nat), s.heap.get? l = some (LObj items n) ∧ s.heap.get? b = some (LObj items2 n2) ∧ items.size = N ∧ items2.size = N ∧
    ∀ (h1 : i < items.size) (h2 : i < items2.size), wpAny (model prog w) A.in1 (eqBool items[i] items2[i]) (fun r s' => r = e i ∧ I s') E s
theorem eq_loopB (l b : Addr) (N : Nat) (I : Shared → Prop) (e : Nat → Bool) (hl : LIeq prog w A (fun e s' => R (.error e) s') l b N I e)
    (fin : ∀ s, I s → R (.ok (.ret (.bool (((List.range N).all e))))) s) (k : Nat) :
    ∀ i : Nat, N - i = k → i ≤ N → (∀ j, j < i → e j = true) → ∀ s, I s →
      wpAny (model prog w) A.in1 (Builtin.«list.__eq__.loop» ⟨[.ref l, .ref b, rawInt i, rawInt 2], []⟩) (FinOf prog w A R) (fun e s' => R (.error e) s') s := by
  induction k with
  | zero =>
    intro i hk hi hp' s h
    obtain ⟨items, items2, n, n2, hl1, hb1, hs1, hs2, _⟩ := hl i s hp' h
    have hf := fin s h
    have hall : (List.range N).all e = true := by
      rw [List.all_eq_true]
      exact fun j hj => hp' j (Nat.lt_of_lt_of_le (List.mem_range.mp hj) (by omega))
    rw [hall] at hf
    obtain ⟨hp, g, d, tk, os⟩ := s
    wp_walk using wpAny_loadPart' hl1, wpAny_loadPart' hb1
    have hi1 : items[((i : Nat) : Int).toNat]? = none := by simp; omega
    have hi2 : items2[((i : Nat) : Int).toNat]? = none := by simp; omega
    rw [hi1, hi2]
    wp_walk using wpAny_loadPart' hl1, wpAny_loadPart' hb1
    first
      | (show R (.ok (.ret (.bool (items.size == items2.size)))) _; rw [hs1, hs2]; simpa using hf)
      | (show R (.ok (.ret (.bool (items.size != items2.size)))) _; rw [hs1, hs2]; simpa using hf)
  | succ k ih =>
    intro i hk hi hp' s h
    obtain ⟨items, items2, n, n2, hl1, hb1, hs1, hs2, turn⟩ := hl i s hp' h
    have hlt : i < items.size := by omega
    have hlt2 : i < items2.size := by omega
    have ht := turn hlt hlt2
    obtain ⟨hp, g, d, tk, os⟩ := s
    wp_walk using wpAny_loadPart' hl1, wpAny_loadPart' hb1
    have hi1 : items[((i : Nat) : Int).toNat]? = some items[i] := by simp [hlt]
    have hi2 : items2[((i : Nat) : Int).toNat]? = some items2[i] := by simp [hlt2]
    have hc : ((i : Int) + 1) = ((i + 1 : Nat) : Int) := by omega
    rw [hi1, hi2]
    refine wpAny_bind (wpAny_mono ht (fun r s2 h2 => ?_) fun _ _ x => x)
    obtain ⟨hr, h2⟩ := h2
    cases he : e i with
    | true =>
      rw [he] at hr
      subst hr
      have hrec := ih (i + 1) (by omega) (by omega) (fun j hj => by
        rcases Nat.lt_or_ge j i with z | z
        · exact hp' j z
        · rw [show j = i by omega]; exact he) s2 h2
      obtain ⟨hp2, g2, d2, tk2, os2⟩ := s2
      wp_walk
      rw [hc]
      exact ⟨plainId_quiet plain_eq_loop _, codeAny_builtin entry_eq_loop (by
        rw [Around.under_plainId plain_eq_loop _]
        exact hrec)⟩
    | false =>
      rw [he] at hr
      subst hr
      have hf := fin s2 h2
      have hall : (List.range N).all e = false := by
        rw [List.all_eq_false]
        exact ⟨i, List.mem_range.mpr (by omega), by rw [he]; exact Bool.false_ne_true⟩
      rw [hall] at hf
      obtain ⟨items3, items4, n3, n4, hl2, hb2, hs3, hs4, _⟩ := hl i s2 hp' h2
      have hlt3 : i < items3.size := by omega
      have hlt4 : i < items4.size := by omega
      have hi3 : items3[((i : Nat) : Int).toNat]? = some items3[i] := by simp [hlt3]
      have hi4 : items4[((i : Nat) : Int).toNat]? = some items4[i] := by simp [hlt4]
      obtain ⟨hp2, g2, d2, tk2, os2⟩ := s2
      wp_walk using wpAny_loadPart' hl2, wpAny_loadPart' hb2
      rw [hi3, hi4]
      wp_walk
      first
        | exact hf
        | simpa using hf
theorem list_eqB (l b : Addr) (N : Nat) (I : Shared → Prop) (e : Nat → Bool) (hl : LIeq prog w A (fun e s' => R (.error e) s') l b N I e)
    (fin : ∀ s, I s → R (.ok (.ret (.bool (((List.range N).all e))))) s) {s : Shared} (h : I s) :
    wpAny (model prog w) A.in1 (Builtin.«list.__eq__» ⟨[.ref l, .ref b], []⟩) (FinOf prog w A R) (fun e s' => R (.error e) s') s := by
  obtain ⟨items, items2, n, n2, hl1, hb1, hs1, hs2, _⟩ := hl 0 s (fun j hj => absurd hj (Nat.not_lt_zero _)) h
  have hrec := eq_loopB (A := A) (R := R) l b N I e hl fin _ 0 rfl (Nat.zero_le _) (fun j hj => absurd hj (Nat.not_lt_zero _)) s h
  obtain ⟨hp, g, d, tk, os⟩ := s
  have f3 := AutoSeq1.sub_list_list
  have hne : ¬ (items.size != items2.size) = true := by simp [hs1, hs2]
  wp_walk using wpAny_loadPart' hl1, wpAny_loadPart' hb1
  exact ⟨plainId_quiet plain_eq_loop _, codeAny_builtin entry_eq_loop (by
    rw [Around.under_plainId plain_eq_loop _]
    exact hrec)⟩
def LIne (prog : Program) (w : World) (A : Around) (E : Value → Shared → Prop) (l b : Addr) (N : Nat) (I : Shared → Prop) (e : Nat → Bool) : Prop :=
  ∀ i s, (∀ j, j < i → e j = true) → I s → ∃ (items items2 : Array Value) (n n2 : Nat), s.heap.get? l = some (LObj items n) ∧ s.heap.get? b = some (LObj items2 n2) ∧ items.size = N ∧ items2.size = N ∧
    ∀ (h1 : i < items.size) (h2 : i < items2.size), wpAny (model prog w) A.in1 (eqBool items[i] items2[i]) (fun r s' => r = e i ∧ I s') E s
theorem ne_loopB (l b : Addr) (N : Nat) (I : Shared → Prop) (e : Nat → Bool) (hl : LIne prog w A (fun e s' => R (.error e) s') l b N I e)
    (fin : ∀ s, I s → R (.ok (.ret (.bool (!((List.range N).all e))))) s) (k : Nat) :
    ∀ i : Nat, N - i = k → i ≤ N → (∀ j, j < i → e j = true) → ∀ s, I s →
      wpAny (model prog w) A.in1 (Builtin.«list.__eq__.loop» ⟨[.ref l, .ref b, rawInt i, rawInt 3], []⟩) (FinOf prog w A R) (fun e s' => R (.error e) s') s := by
  induction k with
  | zero =>
    intro i hk hi hp' s h
    obtain ⟨items, items2, n, n2, hl1, hb1, hs1, hs2, _⟩ := hl i s hp' h
    have hf := fin s h
    have hall : (List.range N).all e = true := by
      rw [List.all_eq_true]
      exact fun j hj => hp' j (Nat.lt_of_lt_of_le (List.mem_range.mp hj) (by omega))
    rw [hall] at hf
    obtain ⟨hp, g, d, tk, os⟩ := s
    wp_walk using wpAny_loadPart' hl1, wpAny_loadPart' hb1
    have hi1 : items[((i : Nat) : Int).toNat]? = none := by simp; omega
    have hi2 : items2[((i : Nat) : Int).toNat]? = none := by simp; omega
    rw [hi1, hi2]
    wp_walk using wpAny_loadPart' hl1, wpAny_loadPart' hb1
    first
      | (show R (.ok (.ret (.bool (items.size == items2.size)))) _; rw [hs1, hs2]; simpa using hf)
      | (show R (.ok (.ret (.bool (items.size != items2.size)))) _; rw [hs1, hs2]; simpa using hf)
  | succ k ih =>
    intro i hk hi hp' s h
    obtain ⟨items, items2, n, n2, hl1, hb1, hs1, hs2, turn⟩ := hl i s hp' h
    have hlt : i < items.size := by omega
    have hlt2 : i < items2.size := by omega
    have ht := turn hlt hlt2
    obtain ⟨hp, g, d, tk, os⟩ := s
    wp_walk using wpAny_loadPart' hl1, wpAny_loadPart' hb1
    have hi1 : items[((i : Nat) : Int).toNat]? = some items[i] := by simp [hlt]
    have hi2 : items2[((i : Nat) : Int).toNat]? = some items2[i] := by simp [hlt2]
    have hc : ((i : Int) + 1) = ((i + 1 : Nat) : Int) := by omega
    rw [hi1, hi2]
    refine wpAny_bind (wpAny_mono ht (fun r s2 h2 => ?_) fun _ _ x => x)
    obtain ⟨hr, h2⟩ := h2
    cases he : e i with
    | true =>
      rw [he] at hr
      subst hr
      have hrec := ih (i + 1) (by omega) (by omega) (fun j hj => by
        rcases Nat.lt_or_ge j i with z | z
        · exact hp' j z
        · rw [show j = i by omega]; exact he) s2 h2
      obtain ⟨hp2, g2, d2, tk2, os2⟩ := s2
      wp_walk
      rw [hc]
      exact ⟨plainId_quiet plain_eq_loop _, codeAny_builtin entry_eq_loop (by
        rw [Around.under_plainId plain_eq_loop _]
        exact hrec)⟩
    | false =>
      rw [he] at hr
      subst hr
      have hf := fin s2 h2
      have hall : (List.range N).all e = false := by
        rw [List.all_eq_false]
        exact ⟨i, List.mem_range.mpr (by omega), by rw [he]; exact Bool.false_ne_true⟩
      rw [hall] at hf
      obtain ⟨items3, items4, n3, n4, hl2, hb2, hs3, hs4, _⟩ := hl i s2 hp' h2
      have hlt3 : i < items3.size := by omega
      have hlt4 : i < items4.size := by omega
      have hi3 : items3[((i : Nat) : Int).toNat]? = some items3[i] := by simp [hlt3]
      have hi4 : items4[((i : Nat) : Int).toNat]? = some items4[i] := by simp [hlt4]
      obtain ⟨hp2, g2, d2, tk2, os2⟩ := s2
      wp_walk using wpAny_loadPart' hl2, wpAny_loadPart' hb2
      rw [hi3, hi4]
      wp_walk
      first
        | exact hf
        | simpa using hf
theorem list_neB (l b : Addr) (N : Nat) (I : Shared → Prop) (e : Nat → Bool) (hl : LIne prog w A (fun e s' => R (.error e) s') l b N I e)
    (fin : ∀ s, I s → R (.ok (.ret (.bool (!((List.range N).all e))))) s) {s : Shared} (h : I s) :
    wpAny (model prog w) A.in1 (Builtin.«list.__ne__» ⟨[.ref l, .ref b], []⟩) (FinOf prog w A R) (fun e s' => R (.error e) s') s := by
  obtain ⟨items, items2, n, n2, hl1, hb1, hs1, hs2, _⟩ := hl 0 s (fun j hj => absurd hj (Nat.not_lt_zero _)) h
  have hrec := ne_loopB (A := A) (R := R) l b N I e hl fin _ 0 rfl (Nat.zero_le _) (fun j hj => absurd hj (Nat.not_lt_zero _)) s h
  obtain ⟨hp, g, d, tk, os⟩ := s
  have f3 := AutoSeq1.sub_list_list
  have hne : ¬ (items.size != items2.size) = true := by simp [hs1, hs2]
  wp_walk using wpAny_loadPart' hl1, wpAny_loadPart' hb1
  exact ⟨plainId_quiet plain_eq_loop _, codeAny_builtin entry_eq_loop (by
    rw [Around.under_plainId plain_eq_loop _]
    exact hrec)⟩
section
variable {E : Value → Shared → Prop} {s : Shared}
theorem rceq_list {l b : Addr} {N : Nat} (I : Shared → Prop) (e : Nat → Bool) {Q : Value → Shared → Prop} (hu : A.units < cLine) (hl : LIeq prog w A E l b N I e)
    (fin : ∀ s, I s → Q (.bool (((List.range N).all e))) s) (h : I s) : wpAny (model prog w) A (richCompare .Eq (.ref l) (.ref b)) Q E s := by
  obtain ⟨items, items2, n, n2, hl1, hb1, hs1, hs2, _⟩ := hl 0 s (fun j hj => absurd hj (Nat.not_lt_zero _)) h
  refine wpAny_richCompare_same_room (op := .Eq) ⟨_, hl1, rfl⟩ ⟨_, hb1, rfl⟩ F.slot_list_eq (call_here F.slot_list_eq ⟨_, hl1, rfl⟩ F.entry_list_eq (F.args_list_eq_2 _ _) ?_) hu
  exact list_eqB (R := wants (fun v s' => v ≠ .notImplemented ∧ Q v s') E) l b N I e hl (fun s' q => ⟨(fun x => nomatch x), fin s' q⟩) h
theorem rceq_tup {l b : Addr} {items items2 : Array Value} (I : Shared → Prop) (e : Nat → Bool) {Q : Value → Shared → Prop} (hu : A.units < cLine) (hl : s.heap.IsTuple l items) (hb : s.heap.IsTuple b items2)
    (turn : ∀ i (h1 : i < items.size) (h2 : i < items2.size) s, (∀ j, j < i → e j = true) → I s → wpAny (model prog w) A.in1 (eqBool items[i] items2[i]) (fun r s' => r = e i ∧ I s') E s)
    (fin : ∀ s, I s → Q (.bool (((List.range (min items.size items2.size)).all e && items.size == items2.size))) s) (h : I s) : wpAny (model prog w) A (richCompare .Eq (.ref l) (.ref b)) Q E s := by
  obtain ⟨⟨cls, dd, data, sl⟩, ho, hc, n, hd⟩ := id hl
  obtain ⟨⟨cls2, dd2, data2, sl2⟩, ho2, hc2, n2, hd2⟩ := id hb
  simp only at hc hd hc2 hd2
  subst hc hd hc2 hd2
  refine wpAny_richCompare_same_room (op := .Eq) ⟨_, ho, rfl⟩ ⟨_, ho2, rfl⟩ F.slot_tuple_eq (call_here F.slot_tuple_eq ⟨_, ho, rfl⟩ F.entry_tuple_eq (F.args_tuple_eq_2 _ _) ?_) hu
  exact tuple_eqB (R := wants (fun v s' => v ≠ .notImplemented ∧ Q v s') E) l b items items2 n n2 dd dd2 sl sl2 I e turn (fun s' q => ⟨(fun x => nomatch x), fin s' q⟩) ho ho2 h
end
section
variable {E : Value → Shared → Prop} {s : Shared}
theorem rcne_list {l b : Addr} {N : Nat} (I : Shared → Prop) (e : Nat → Bool) {Q : Value → Shared → Prop} (hu : A.units < cLine) (hl : LIne prog w A E l b N I e)
    (fin : ∀ s, I s → Q (.bool (!((List.range N).all e))) s) (h : I s) : wpAny (model prog w) A (richCompare .NotEq (.ref l) (.ref b)) Q E s := by
  obtain ⟨items, items2, n, n2, hl1, hb1, hs1, hs2, _⟩ := hl 0 s (fun j hj => absurd hj (Nat.not_lt_zero _)) h
  refine wpAny_richCompare_same_room (op := .NotEq) ⟨_, hl1, rfl⟩ ⟨_, hb1, rfl⟩ F.slot_list_ne (call_here F.slot_list_ne ⟨_, hl1, rfl⟩ F.entry_list_ne (F.args_list_ne_2 _ _) ?_) hu
  exact list_neB (R := wants (fun v s' => v ≠ .notImplemented ∧ Q v s') E) l b N I e hl (fun s' q => ⟨(fun x => nomatch x), fin s' q⟩) h
theorem rcne_tup {l b : Addr} {items items2 : Array Value} (I : Shared → Prop) (e : Nat → Bool) {Q : Value → Shared → Prop} (hu : A.units < cLine) (hl : s.heap.IsTuple l items) (hb : s.heap.IsTuple b items2)
    (turn : ∀ i (h1 : i < items.size) (h2 : i < items2.size) s, (∀ j, j < i → e j = true) → I s → wpAny (model prog w) A.in1 (eqBool items[i] items2[i]) (fun r s' => r = e i ∧ I s') E s)
    (fin : ∀ s, I s → Q (.bool (!((List.range (min items.size items2.size)).all e && items.size == items2.size))) s) (h : I s) : wpAny (model prog w) A (richCompare .NotEq (.ref l) (.ref b)) Q E s := by
  obtain ⟨⟨cls, dd, data, sl⟩, ho, hc, n, hd⟩ := id hl
  obtain ⟨⟨cls2, dd2, data2, sl2⟩, ho2, hc2, n2, hd2⟩ := id hb
  simp only at hc hd hc2 hd2
  subst hc hd hc2 hd2
  refine wpAny_richCompare_same_room (op := .NotEq) ⟨_, ho, rfl⟩ ⟨_, ho2, rfl⟩ F.slot_tuple_ne (call_here F.slot_tuple_ne ⟨_, ho, rfl⟩ F.entry_tuple_ne (F.args_tuple_ne_2 _ _) ?_) hu
  exact tuple_neB (R := wants (fun v s' => v ≠ .notImplemented ∧ Q v s') E) l b items items2 n n2 dd dd2 sl sl2 I e turn (fun s' q => ⟨(fun x => nomatch x), fin s' q⟩) ho ho2 h
end
end
/-- == of two different objects inside a builtin, by their rich comparison -/
theorem eqBool_refB {prog : Program} {w : World} {A : Around} {E : Value → Shared → Prop} {s : Shared} {l : Addr} {b : Value} {Q : Bool → Shared → Prop} (hne : b ≠ .ref l) (h : wpAny (model prog w) A (richCompare .Eq (.ref l) b) (fun v s' => ∃ r, v = .bool r ∧ Q r s') E s) : wpAny (model prog w) A (eqBool (.ref l) b) Q E s := by
  unfold eqBool
  refine wpAny_holding ?_
  refine wpAny_ite_split (fun hab => absurd (eq_of_beq hab).symm hne) (fun _ => ?_)
  have h' : wpAny (model prog w) A (richCompare .Eq (.ref l) b >>= truthOfDropped) Q E s := wpAny_bind (wpAny_mono h (fun v s' hv => by
    obtain ⟨r, rfl, q⟩ := hv
    exact wpAny_truthy_bool q) fun _ _ x => x)
  first
    | exact h'
    | (cases b <;> exact h')
end GB

-- Eng7
/-! Engine 7: in, by any ==; == of a plain value and an instance behind it. -/
namespace GB
open PySem PySem.SeqAt
open AutoSeq1 (wpAny_loadPart')
open MeetsSeq MeetsSeq2 MeetsSeq3 SeqRoads2 GQ
section
variable {prog : Program} {w : World} {A : Around} {R : Result → Shared → Prop}
theorem tuple_inB (l : Addr) (items : Array Value) (n : Nat) (dd : Option Addr) (sl : Array (Option Value)) (x : Value) (I : Shared → Prop) (e : Nat → Bool)
    (turn : ∀ i (h1 : i < items.size) s, (∀ j, j < i → e j = false) → I s → wpAny (model prog w) A.in1 (eqBool items[i] x) (fun r s' => r = e i ∧ I s') (fun e s' => R (.error e) s') s)
    (fin : ∀ s, I s → R (.ok (.ret (.bool ((List.range items.size).any e)))) s) {s : Shared} (hl1 : s.heap.get? l = some (TObj dd items n sl)) (h : I s) :
    wpAny (model prog w) A.in1 (Builtin.«tuple.__contains__» ⟨[.ref l, x], []⟩) (FinOf prog w A R) (fun e s' => R (.error e) s') s := by
  have h0 := h
  obtain ⟨hp, g, d, tk, os⟩ := s
  wp_walk using wpAny_loadPart' hl1, wpAny_forIn_array _ (fun rest b s' => b.1 = none ∧ ∃ i, rest = items.toList.drop i ∧ (∀ j, j < i → e j = false) ∧ i ≤ items.size ∧ I s') _
  case turn =>
    rintro y rest b s' ⟨hb', i, hz, hp', hi, hI⟩
    have hlt : i < items.toList.length := by
      rcases Nat.lt_or_ge i items.toList.length with h' | h'
      · exact h'
      · rw [List.drop_of_length_le h'] at hz; cases hz
    have h1 : i < items.size := by simpa using hlt
    rw [List.drop_eq_getElem_cons hlt] at hz
    injection hz with hyx hrest
    have hy : y = items[i] := by simpa using hyx
    subst hy
    refine wpAny_bind (wpAny_mono (turn i h1 s' hp' hI) (fun r s2 q2 => ?_) fun _ _ x => x)
    obtain ⟨hr, q2⟩ := q2
    cases he : e i with
    | false =>
      rw [he] at hr
      subst hr
      wp_walk
      exact ⟨rfl, i + 1, hrest, fun j hj => by
        rcases Nat.lt_or_ge j i with z | z
        · exact hp' j z
        · rw [show j = i by omega]; exact he, h1, q2⟩
    | true =>
      rw [he] at hr
      subst hr
      have hf := fin s2 q2
      have hall : (List.range items.size).any e = true := by
        rw [List.any_eq_true]
        exact ⟨i, List.mem_range.mpr h1, he⟩
      rw [hall] at hf
      wp_walk
      first
        | exact hf
        | simpa using hf
        | exact ⟨_, rfl, by simpa using hf⟩
  case fin =>
    rintro ⟨b1, b2⟩ s' ⟨hb', i, hz, hp', hi, hI⟩
    simp only at hb'
    subst hb'
    have hge : items.size ≤ i := by
      rcases Nat.lt_or_ge i items.toList.length with h' | h'
      · rw [List.drop_eq_getElem_cons h'] at hz; cases hz
      · simpa using h'
    have hf := fin s' hI
    have hall : (List.range items.size).any e = false := by
      rw [List.any_eq_false]
      exact fun j hj => by rw [hp' j (Nat.lt_of_lt_of_le (List.mem_range.mp hj) hge)]; exact Bool.false_ne_true
    rw [hall] at hf
    wp_walk
    first
      | exact hf
      | simpa using hf
      | exact ⟨_, rfl, by simpa using hf⟩
  case h =>
    exact ⟨rfl, 0, rfl, fun j hj => absurd hj (Nat.not_lt_zero _), Nat.zero_le _, h0⟩
def LIin (prog : Program) (w : World) (A : Around) (E : Value → Shared → Prop) (l : Addr) (x : Value) (N : Nat) (I : Shared → Prop) (e : Nat → Bool) : Prop :=
  ∀ i s, (∀ j, j < i → e j = false) → I s → ∃ (items : Array Value) (n : Nat), s.heap.get? l = some (LObj items n) ∧ items.size = N ∧
    ∀ (h1 : i < items.size), wpAny (model prog w) A.in1 (eqBool items[i] x) (fun r s' => r = e i ∧ I s') E s
theorem in_loopB (l : Addr) (x : Value) (N : Nat) (I : Shared → Prop) (e : Nat → Bool) (hl : LIin prog w A (fun e s' => R (.error e) s') l x N I e)
    (fin : ∀ s, I s → R (.ok (.ret (.bool ((List.range N).any e)))) s) (k : Nat) :
    ∀ i : Nat, N - i = k → i ≤ N → (∀ j, j < i → e j = false) → ∀ s, I s →
      wpAny (model prog w) A.in1 (Builtin.«list.__contains__.loop» ⟨[.ref l, x, rawInt i], []⟩) (FinOf prog w A R) (fun e s' => R (.error e) s') s := by
  induction k with
  | zero =>
    intro i hk hi hp' s h
    obtain ⟨items, n, hl1, hs1, _⟩ := hl i s hp' h
    have hf := fin s h
    have hall : (List.range N).any e = false := by
      rw [List.any_eq_false]
      exact fun j hj => by rw [hp' j (Nat.lt_of_lt_of_le (List.mem_range.mp hj) (by omega))]; exact Bool.false_ne_true
    rw [hall] at hf
    obtain ⟨hp, g, d, tk, os⟩ := s
    wp_walk using wpAny_loadPart' hl1
    have hi1 : items[((i : Nat) : Int).toNat]? = none := by simp; omega
    rw [hi1]
    wp_walk using wpAny_loadPart' hl1
    exact hf
  | succ k ih =>
    intro i hk hi hp' s h
    obtain ⟨items, n, hl1, hs1, turn⟩ := hl i s hp' h
    have hlt : i < items.size := by omega
    have ht := turn hlt
    obtain ⟨hp, g, d, tk, os⟩ := s
    wp_walk using wpAny_loadPart' hl1
    have hi1 : items[((i : Nat) : Int).toNat]? = some items[i] := by simp [hlt]
    have hc : ((i : Int) + 1) = ((i + 1 : Nat) : Int) := by omega
    rw [hi1]
    refine wpAny_bind (wpAny_mono ht (fun r s2 h2 => ?_) fun _ _ x => x)
    obtain ⟨hr, h2⟩ := h2
    cases he : e i with
    | false =>
      rw [he] at hr
      subst hr
      have hrec := ih (i + 1) (by omega) (by omega) (fun j hj => by
        rcases Nat.lt_or_ge j i with z | z
        · exact hp' j z
        · rw [show j = i by omega]; exact he) s2 h2
      obtain ⟨hp2, g2, d2, tk2, os2⟩ := s2
      wp_walk
      rw [hc]
      exact ⟨plainId_quiet plain_contains_loop _, codeAny_builtin entry_contains_loop (by
        rw [Around.under_plainId plain_contains_loop _]
        exact hrec)⟩
    | true =>
      rw [he] at hr
      subst hr
      have hf := fin s2 h2
      have hall : (List.range N).any e = true := by
        rw [List.any_eq_true]
        exact ⟨i, List.mem_range.mpr (by omega), he⟩
      rw [hall] at hf
      obtain ⟨hp2, g2, d2, tk2, os2⟩ := s2
      wp_walk
      first
        | exact hf
        | simpa using hf
theorem list_inB (l : Addr) (x : Value) (N : Nat) (I : Shared → Prop) (e : Nat → Bool) (hl : LIin prog w A (fun e s' => R (.error e) s') l x N I e)
    (fin : ∀ s, I s → R (.ok (.ret (.bool ((List.range N).any e)))) s) {s : Shared} (h : I s) :
    wpAny (model prog w) A.in1 (Builtin.«list.__contains__» ⟨[.ref l, x], []⟩) (FinOf prog w A R) (fun e s' => R (.error e) s') s := by
  obtain ⟨items, n, hl1, hs1, _⟩ := hl 0 s (fun j hj => absurd hj (Nat.not_lt_zero _)) h
  have hrec := in_loopB (A := A) (R := R) l x N I e hl fin _ 0 rfl (Nat.zero_le _) (fun j hj => absurd hj (Nat.not_lt_zero _)) s h
  obtain ⟨hp, g, d, tk, os⟩ := s
  wp_walk using wpAny_loadPart' hl1
  exact ⟨plainId_quiet plain_contains_loop _, codeAny_builtin entry_contains_loop (by
    rw [Around.under_plainId plain_contains_loop _]
    exact hrec)⟩
section
variable {E : Value → Shared → Prop} {s : Shared}
/-- in and not in, by what the contents' look says -/
theorem in_here {T id : String} {B : Builtin} {c x : Value} {Q : Value → Shared → Prop} (neg : Bool) (hT : s.TypeIs c T) (slot : Slot T "__contains__" id)
    (entry : entryFor table id = some B) (args : argsOk id ⟨[c, x], []⟩)
    (h : wpAny (model prog w) A.in1 (B ⟨[c, x], []⟩) (FinOf prog w A (wants (fun v s' => ∃ b, v = .bool b ∧ Q (.bool (if neg then !b else b)) s') E)) (fun e s' => wants (fun v s' => ∃ b, v = .bool b ∧ Q (.bool (if neg then !b else b)) s') E (.error e) s') s) :
    wpAny (model prog w) A (compareOp (if neg then .NotIn else .In) x c) Q E s := by
  cases neg with
  | false =>
    show wpAny _ A (do return .bool (← contains c x)) Q E s
    refine wpAny_bind (wpAny_contains_slot hT slot (wpAny_mono (call_here slot hT entry args h) (fun v s' hv => ?_) fun _ _ e => e))
    obtain ⟨b, rfl, hq⟩ := hv
    exact wpAny_truthy_bool (wpAny_pure hq)
  | true =>
    show wpAny _ A (do return .bool (!(← contains c x))) Q E s
    refine wpAny_bind (wpAny_contains_slot hT slot (wpAny_mono (call_here slot hT entry args h) (fun v s' hv => ?_) fun _ _ e => e))
    obtain ⟨b, rfl, hq⟩ := hv
    exact wpAny_truthy_bool (wpAny_pure hq)
theorem in_tupB {l : Addr} {items : Array Value} {x : Value} (neg : Bool) (I : Shared → Prop) (e : Nat → Bool) {Q : Value → Shared → Prop} (hl : s.heap.IsTuple l items)
    (turn : ∀ i (h1 : i < items.size) s, (∀ j, j < i → e j = false) → I s → wpAny (model prog w) A.in1 (eqBool items[i] x) (fun r s' => r = e i ∧ I s') E s)
    (fin : ∀ s, I s → Q (.bool (if neg then !((List.range items.size).any e) else (List.range items.size).any e)) s) (h : I s) : wpAny (model prog w) A (compareOp (if neg then .NotIn else .In) x (.ref l)) Q E s := by
  obtain ⟨⟨cls, dd, data, sl⟩, ho, hc, n, hd⟩ := id hl
  simp only at hc hd
  subst hc hd
  exact in_here neg ⟨_, ho, rfl⟩ F.slot_tuple_contains F.entry_tuple_contains (F.args_tuple_contains_2 _ _) (tuple_inB (R := wants (fun v s' => ∃ b, v = .bool b ∧ Q (.bool (if neg then !b else b)) s') E) l items n dd sl x I e turn (fun s' q => ⟨_, rfl, fin s' q⟩) ho h)
theorem in_lstB {l : Addr} {x : Value} {N : Nat} (neg : Bool) (I : Shared → Prop) (e : Nat → Bool) {Q : Value → Shared → Prop} (hl : LIin prog w A E l x N I e)
    (fin : ∀ s, I s → Q (.bool (if neg then !((List.range N).any e) else (List.range N).any e)) s) (h : I s) : wpAny (model prog w) A (compareOp (if neg then .NotIn else .In) x (.ref l)) Q E s := by
  obtain ⟨items, n, hl1, hs1, _⟩ := hl 0 s (fun j hj => absurd hj (Nat.not_lt_zero _)) h
  exact in_here neg ⟨_, hl1, rfl⟩ F.slot_list_contains F.entry_list_contains (F.args_list_contains_2 _ _) (list_inB (R := wants (fun v s' => ∃ b, v = .bool b ∧ Q (.bool (if neg then !b else b)) s') E) l x N I e hl (fun s' q => ⟨_, rfl, fin s' q⟩) h)
end
end
/-! an instance behind a plain value -/
section
variable {C dx : Addr}
theorem int_eq_dec (b : Int) (u : Tok) (l C dx : Addr) : Meets (Builtin.«int.__eq__» ⟨[.int b u, .ref l], []⟩) (fun _ R s => s.heap.get? l = some (PySem.W.instObj C dx) ∧ R (.ok (.ret .notImplemented)) s) :=
  .of_wp fun prog w A R s h => by obtain ⟨hp, g, d, tk, os⟩ := s; obtain ⟨hl, h⟩ := h; unfold PySem.W.instObj at hl; wp_walk using wpAny_loadPart' hl, wpAny_load hl; exact ⟨_, rfl, h⟩
theorem bool_eq_dec (b : Bool) (l C dx : Addr) : Meets (Builtin.«int.__eq__» ⟨[.bool b, .ref l], []⟩) (fun _ R s => s.heap.get? l = some (PySem.W.instObj C dx) ∧ R (.ok (.ret .notImplemented)) s) :=
  .of_wp fun prog w A R s h => by obtain ⟨hp, g, d, tk, os⟩ := s; obtain ⟨hl, h⟩ := h; unfold PySem.W.instObj at hl; wp_walk using wpAny_loadPart' hl, wpAny_load hl; exact ⟨_, rfl, h⟩
theorem str_eq_dec (b : Str) (u : Tok) (l C dx : Addr) : Meets (Builtin.«str.__eq__» ⟨[.str b u, .ref l], []⟩) (fun _ R s => s.heap.get? l = some (PySem.W.instObj C dx) ∧ R (.ok (.ret .notImplemented)) s) :=
  .of_wp fun prog w A R s h => by obtain ⟨hp, g, d, tk, os⟩ := s; obtain ⟨hl, h⟩ := h; unfold PySem.W.instObj at hl; wp_walk using wpAny_loadPart' hl, wpAny_load hl; exact ⟨_, rfl, h⟩
theorem int_ne_dec (b : Int) (u : Tok) (l C dx : Addr) : Meets (Builtin.«int.__ne__» ⟨[.int b u, .ref l], []⟩) (fun _ R s => s.heap.get? l = some (PySem.W.instObj C dx) ∧ R (.ok (.ret .notImplemented)) s) :=
  .of_wp fun prog w A R s h => by obtain ⟨hp, g, d, tk, os⟩ := s; obtain ⟨hl, h⟩ := h; unfold PySem.W.instObj at hl; wp_walk using wpAny_loadPart' hl, wpAny_load hl; exact ⟨_, rfl, h⟩
theorem bool_ne_dec (b : Bool) (l C dx : Addr) : Meets (Builtin.«int.__ne__» ⟨[.bool b, .ref l], []⟩) (fun _ R s => s.heap.get? l = some (PySem.W.instObj C dx) ∧ R (.ok (.ret .notImplemented)) s) :=
  .of_wp fun prog w A R s h => by obtain ⟨hp, g, d, tk, os⟩ := s; obtain ⟨hl, h⟩ := h; unfold PySem.W.instObj at hl; wp_walk using wpAny_loadPart' hl, wpAny_load hl; exact ⟨_, rfl, h⟩
theorem str_ne_dec (b : Str) (u : Tok) (l C dx : Addr) : Meets (Builtin.«str.__ne__» ⟨[.str b u, .ref l], []⟩) (fun _ R s => s.heap.get? l = some (PySem.W.instObj C dx) ∧ R (.ok (.ret .notImplemented)) s) :=
  .of_wp fun prog w A R s h => by obtain ⟨hp, g, d, tk, os⟩ := s; obtain ⟨hl, h⟩ := h; unfold PySem.W.instObj at hl; wp_walk using wpAny_loadPart' hl, wpAny_load hl; exact ⟨_, rfl, h⟩
end
section
variable {prog : Program} {w : World} {A : Around} {R : Result → Shared → Prop}
theorem tuple_eq_dec (l p C dx : Addr) (items : Array Value) (n : Nat) (dd : Option Addr) (sl : Array (Option Value)) {s : Shared} (hl : s.heap.get? l = some (TObj dd items n sl)) (hp : s.heap.get? p = some (PySem.W.instObj C dx))
    (hsub : ∀ (A : Around) (Q : Bool → Shared → Prop) (E : Value → Shared → Prop), Q false s → wpAny (model prog w) A (isSubtype (.ref C) (.type "tuple")) Q E s) (h : R (.ok (.ret .notImplemented)) s) :
    wpAny (model prog w) A.in1 (Builtin.«tuple.__eq__» ⟨[.ref l, .ref p], []⟩) (FinOf prog w A R) (fun e s' => R (.error e) s') s := by
  obtain ⟨hh, g, d, tk, os⟩ := s
  unfold PySem.W.instObj at hp
  wp_walk using wpAny_loadPart' hl, wpAny_load hp
  refine hsub _ _ _ ?_
  wp_walk
  first
    | exact h
    | exact ⟨_, rfl, h⟩
theorem tuple_ne_dec (l p C dx : Addr) (items : Array Value) (n : Nat) (dd : Option Addr) (sl : Array (Option Value)) {s : Shared} (hl : s.heap.get? l = some (TObj dd items n sl)) (hp : s.heap.get? p = some (PySem.W.instObj C dx))
    (hsub : ∀ (A : Around) (Q : Bool → Shared → Prop) (E : Value → Shared → Prop), Q false s → wpAny (model prog w) A (isSubtype (.ref C) (.type "tuple")) Q E s) (h : R (.ok (.ret .notImplemented)) s) :
    wpAny (model prog w) A.in1 (Builtin.«tuple.__ne__» ⟨[.ref l, .ref p], []⟩) (FinOf prog w A R) (fun e s' => R (.error e) s') s := by
  obtain ⟨hh, g, d, tk, os⟩ := s
  unfold PySem.W.instObj at hp
  wp_walk using wpAny_loadPart' hl, wpAny_load hp
  refine hsub _ _ _ ?_
  wp_walk
  first
    | exact h
    | exact ⟨_, rfl, h⟩
theorem list_eq_dec (l p C dx : Addr) (items : Array Value) (n : Nat) {s : Shared} (hl : s.heap.get? l = some (LObj items n)) (hp : s.heap.get? p = some (PySem.W.instObj C dx))
    (hsub : ∀ (A : Around) (Q : Bool → Shared → Prop) (E : Value → Shared → Prop), Q false s → wpAny (model prog w) A (isSubtype (.ref C) (.type "list")) Q E s) (h : R (.ok (.ret .notImplemented)) s) :
    wpAny (model prog w) A.in1 (Builtin.«list.__eq__» ⟨[.ref l, .ref p], []⟩) (FinOf prog w A R) (fun e s' => R (.error e) s') s := by
  obtain ⟨hh, g, d, tk, os⟩ := s
  unfold PySem.W.instObj at hp
  wp_walk using wpAny_loadPart' hl, wpAny_load hp
  refine hsub _ _ _ ?_
  wp_walk
  first
    | exact h
    | exact ⟨_, rfl, h⟩
theorem list_ne_dec (l p C dx : Addr) (items : Array Value) (n : Nat) {s : Shared} (hl : s.heap.get? l = some (LObj items n)) (hp : s.heap.get? p = some (PySem.W.instObj C dx))
    (hsub : ∀ (A : Around) (Q : Bool → Shared → Prop) (E : Value → Shared → Prop), Q false s → wpAny (model prog w) A (isSubtype (.ref C) (.type "list")) Q E s) (h : R (.ok (.ret .notImplemented)) s) :
    wpAny (model prog w) A.in1 (Builtin.«list.__ne__» ⟨[.ref l, .ref p], []⟩) (FinOf prog w A R) (fun e s' => R (.error e) s') s := by
  obtain ⟨hh, g, d, tk, os⟩ := s
  unfold PySem.W.instObj at hp
  wp_walk using wpAny_loadPart' hl, wpAny_load hp
  refine hsub _ _ _ ?_
  wp_walk
  first
    | exact h
    | exact ⟨_, rfl, h⟩
end
section
open PySem.W
variable {prog : Program} {w : World} {A : Around} {E : Value → Shared → Prop} {s : Shared} {K : Frag} {x C f : Addr} {ox : Obj} {od : Option Obj} {b : Value}
/-- a plain value first, an instance behind it -/
theorem rc_refl {op : CmpOp} {a : Value} {T ida : String} {Q : Value → Shared → Prop} (hu : A.units < cLine) (X : K.In s.heap) (I : InstAt s.heap x ox C od) (ha : s.TypeIs a T)
    (hsub : subIn K (.ref C) (.type T) = some false) (h1 : Slot T (cmpInfo op).2.1 ida)
    (hc1 : ∀ Q' : Value → Shared → Prop, Q' .notImplemented s → wpAny (model prog w) A (call (.builtin ida) [a, .ref x]) Q' E s)
    (one : wpAny (model prog w) A (tryCompare (.ref x) (cmpInfo op).2.2 a) (fun q s' => ∃ v, q = some v ∧ Q v s') E s) : wpAny (model prog w) A (richCompare op a (.ref x)) Q E s := by
  rcases hi : cmpInfo op with ⟨sym, f, r⟩
  rw [hi] at h1 one
  simp only [richCompare, hi, ha.oneThing_none]
  try with_reducible refine wpAny_holding ?_
  refine wpAny_bind (wpAny_cRoomFor hu ?_)
  refine wpAny_bind (wpAny_typeOf ha (wpAny_bind (I.type.here ?_)))
  have hne : (Value.type T != Value.ref C) = true := rfl
  simp only [hne, if_true]
  refine wpAny_bind ((looks_subIn X hsub).here ?_)
  simp only [Bool.false_eq_true, if_false, Bool.not_false, if_true]
  refine wpAny_bind (m := tryCompare a _ _) (wpAny_tryCompare_declines ha h1 (hc1 _ ⟨rfl, ?_⟩))
  refine wpAny_bind (m := tryCompare _ _ a) (wpAny_mono one (fun q s' z => ?_) fun _ _ e => e)
  obtain ⟨v, rfl, hq⟩ := z
  exact wpAny_pure hq
theorem eq_one {a : Value} {Q : Value → Shared → Prop} (X : K.In s.heap) (I : InstAt s.heap x ox C od) (hs : findIn K (.ref C) "__eq__" = some (some (.ref f))) (hf : isFn K (.ref f) = true)
    (h : wpAny (model prog w) A (call (.ref f) [.ref x, a]) (CmpBack Q) E s) : wpAny (model prog w) A (tryCompare (.ref x) (cmpInfo .Eq).2.2 a) (fun r s' => ∃ v, r = some v ∧ Q v s') E s := by
  show wpAny (model prog w) A (tryCompare (.ref x) "__eq__" a) _ E s
  unfold tryCompare
  refine wpAny_bind (ifBound_K X I hs hf (wpAny_mono h (fun v s' hv => ?_) fun _ _ e => e))
  cases v <;> first | exact hv.elim | exact wpAny_pure ⟨_, rfl, hv⟩
theorem check_slot_K' {M : Model} {id owner n : String} {rest : List Value} {Q : Unit → Shared → Prop} (X : K.In s.heap) (I : InstAt s.heap x ox C od) (hk : builtinKind id = some .slot) (hs : splitId id = some (owner, n)) (ha : argsOk id ⟨.ref x :: rest, []⟩)
    (hob : subIn K (.ref C) (.type owner) = some true) (hq : Q () s) : wpAny M A (checkBuiltinCall id ⟨.ref x :: rest, []⟩) Q E s := by
  simp only [checkBuiltinCall, hk, hs]
  unfold isInstance
  refine wpAny_bind (wpAny_bind (I.type.here ((looks_subIn X hob).here ?_)))
  rw [if_neg (by simp)]
  cases hsig : Manifest.signature? id with
  | none => exact wpAny_pure hq
  | some sig =>
    simp only [argsOk, hsig] at ha
    have h2 : Bind.checkArgs id sig ⟨.ref x :: rest, []⟩ = pure () := ha
    show wpAny M A (Bind.checkArgs id sig ⟨.ref x :: rest, []⟩) Q E _
    rw [h2]; exact wpAny_pure hq
theorem ne_one {r : Bool} {P : Shared → Prop} (hu : A.units + 1 < cLine) (X : K.In s.heap) (I : InstAt s.heap x ox C od)
    (hs : findIn K (.ref C) "__ne__" = some (some (.builtin "object.__ne__"))) (hob : subIn K (.ref C) (.type "object") = some true) (hse : findIn K (.ref C) "__eq__" = some (some (.ref f))) (hf : isFn K (.ref f) = true)
    (h : wpAny (model prog w) A.in1 (call (.ref f) [.ref x, b]) (fun v s' => v = .bool r ∧ P s') E s) : wpAny (model prog w) A (tryCompare (.ref x) (cmpInfo .NotEq).2.2 b) (fun q s' => ∃ v, q = some v ∧ v = .bool (!r) ∧ P s') E s := by
  show wpAny (model prog w) A (tryCompare (.ref x) "__ne__" b) _ E s
  unfold tryCompare
  refine wpAny_bind ?_
  simp only [callSpecialIfBound?, bindSpecialIfBound?]
  refine wpAny_holding (wpAny_bind (wpAny_bind (wpAny_bind (I.type.here ((looks_findIn X hs).here ?_)))))
  simp only [F.cmp_object.ne.bind]
  refine wpAny_bind (wpAny_askSetting (wpAny_ite ?_))
  have fin : wpAny (model prog w) A (call (.builtin "object.__ne__") ([.ref x] ++ [b]) >>= fun v => pure (some v)) (fun a s' => wpAny (model prog w) A (match a with | some .notImplemented | none => pure none | some v => pure (some v)) (fun q s' => ∃ v, q = some v ∧ v = .bool (!r) ∧ P s') E s') E s := by
    refine wpAny_bind (wpAny_call (codeAny_call_builtin F.cmp_object.ne.plain F.cmpEntry_ne (check_slot_K' X I F.cmpKind_ne F.cmpSplit_ne (F.cmpArgs_ne _ _) hob ?_)))
    unfold Builtin.«object.__ne__»
    have hbody : wpAny (model prog w) A.in1 (callSpecialIfBound? (.ref x) "__eq__" [b]) (fun q s' => q = some (.bool r) ∧ P s') E s :=
      ifBound_K X I hse hf (wpAny_mono h (fun v s' ⟨e, p⟩ => ⟨by rw [e], p⟩) fun _ _ z => z)
    repeat (first | with_reducible refine wpAny_cRoomFor (A := A.in1) hu ?_ | with_reducible refine wpAny_bind (wpAny_mono hbody (fun q s' hq => ?_) fun _ _ z => z) | wp_step)
    obtain ⟨rfl, p⟩ := hq
    dsimp only
    refine wpAny_bind (wpAny_truthy_bool (wpAny_pure ?_))
    first
      | exact wpAny_pure ⟨_, rfl, rfl, p⟩
      | exact wpAny_pure (wpAny_pure ⟨_, rfl, rfl, p⟩)
      | exact ⟨_, rfl, rfl, p⟩
  split
  · exact wpAny_bind (wpAny_pure (wpAny_pure fin))
  · exact wpAny_tryCatch (wpAny_bind (wpAny_pure (wpAny_pure fin)))
end
/-- == inside a builtin of two that are not the same, by their rich comparison -/
theorem eqBool_any {prog : Program} {w : World} {A : Around} {E : Value → Shared → Prop} {s : Shared} {a : Value} {p : Addr} {Q : Bool → Shared → Prop} (hne : a ≠ .ref p) (h : wpAny (model prog w) A (richCompare .Eq a (.ref p)) (fun v s' => ∃ r, v = .bool r ∧ Q r s') E s) : wpAny (model prog w) A (eqBool a (.ref p)) Q E s := by
  unfold eqBool
  refine wpAny_holding ?_
  refine wpAny_ite_split (fun hab => absurd (eq_of_beq hab) hne) (fun _ => ?_)
  have h' : wpAny (model prog w) A (richCompare .Eq a (.ref p) >>= truthOfDropped) Q E s := wpAny_bind (wpAny_mono h (fun v s' hv => by
    obtain ⟨r, rfl, q⟩ := hv
    exact wpAny_truthy_bool q) fun _ _ x => x)
  first
    | exact h'
    | (cases a <;> exact h')
end GB

-- EngG
/-! Engine G: == and != of the reading's values. -/
namespace EG
open PySem PySem.Spec L2 PyProof.Rows
section
variable {T : CT} {Φ : Fns} {J : TX} {lv : Nat} {W : WX} {X : Cx} {S : Addr → Prop} {κ : List Addr} {H : Hp} {env : Env} {cs : Cs} {σ : L2.St} {fr : Bool} {Q : VK} {N : List Str} {sc : Scope} {pins : List (Addr × Obj)} {s : Shared}

theorem sqt_kind {a : Addr} {vs : List V} {o : HO} (I : Inv X pins σ H s) (h : SqT X.K H a vs) (e : H a = some o) (n : ¬ Sealed o) : False := by
  rcases h with (h | ⟨u, h⟩) | ⟨ob, its, k, hk, _⟩
  · rw [e] at h; cases h; exact n trivial
  · rw [e] at h; cases h; exact n trivial
  · have hb := (I.bs a ob (I.ok.mod.kin a ob hk)).2
    rw [e] at hb; cases hb

/-- one value stands for one reading -/
theorem eqL_det {f : IV → IV → Option Bool} (hf : ∀ x y v b, RV T S κ H x v → RV T S κ H y v → f x y = some b → b = true) :
    ∀ (xs ys : List IV) (vs : List V) (b : Bool), RVs T S κ H xs vs → RVs T S κ H ys vs → eqL f xs ys = some b → b = true
  | [], [], _, _, _, _, e => (Option.some.inj e).symm
  | [], y :: ys, vs, b, h1, h2, e => by unfold RVs at h1 h2; obtain ⟨v, r, e2, _⟩ := h2; rw [h1] at e2; cases e2
  | x :: xs, [], vs, b, h1, h2, e => by unfold RVs at h1 h2; obtain ⟨v, r, e2, _⟩ := h1; rw [h2] at e2; cases e2
  | x :: xs, y :: ys, vs, b, h1, h2, e => by
    unfold RVs at h1 h2
    obtain ⟨v, r, e1, q1, t1⟩ := h1
    obtain ⟨v', r', e2, q2, t2⟩ := h2
    rw [e1] at e2
    injection e2 with e3 e4
    subst e3 e4
    unfold eqL at e
    cases h : f x y with
    | none => rw [h] at e; cases e
    | some c =>
      rw [h] at e
      have := hf x y v c q1 q2 h
      subst this
      exact eqL_det hf xs ys r b t1 t2 e
theorem eq0_det {x y : IV} {v : V} (px : plainI x = true) (py : plainI y = true) (hT : T.K = X.K) (I : Inv X pins σ H s) (h1 : RV T S κ H x v) (h2 : RV T S κ H y v) (hn : ∀ xs ys, ¬ (x = .tup xs ∧ y = .tup ys)) (hn2 : ∀ xs ys, ¬ (x = .lst xs ∧ y = .lst ys)) : eq0 x y = true := by
  cases x with
  | obj _ _ => exact Bool.noConfusion px
  | cell _ => exact Bool.noConfusion px
  | scr _ => exact Bool.noConfusion px
  | tup xs =>
    cases y with
    | obj _ _ => exact Bool.noConfusion py
    | cell _ => exact Bool.noConfusion py
    | scr _ => exact Bool.noConfusion py
    | tup ys => exact absurd ⟨rfl, rfl⟩ (hn xs ys)
    | lst ys =>
      unfold RV at h1 h2
      obtain ⟨a, vs, e, q, _⟩ := h1
      obtain ⟨a', vs', e', q', _⟩ := h2
      rw [e] at e'; cases e'
      rw [hT] at q
      exact (sqt_kind I q q'.1 fun z => z).elim
    | _ => unfold RV at h1 h2; obtain ⟨a, vs, e, q, _⟩ := h1; rw [e] at h2; cases h2
  | lst xs =>
    cases y with
    | obj _ _ => exact Bool.noConfusion py
    | cell _ => exact Bool.noConfusion py
    | scr _ => exact Bool.noConfusion py
    | lst ys => exact absurd ⟨rfl, rfl⟩ (hn2 xs ys)
    | tup ys =>
      unfold RV at h1 h2
      obtain ⟨a, vs, e, q, _⟩ := h2
      obtain ⟨a', vs', e', q', _⟩ := h1
      rw [e] at e'; cases e'
      rw [hT] at q
      exact (sqt_kind I q q'.1 fun z => z).elim
    | _ => unfold RV at h1 h2; obtain ⟨a, vs, e, q, _⟩ := h1; rw [e] at h2; cases h2
  | non => cases y <;> first | rfl | exact Bool.noConfusion py | (unfold RV at h1 h2; rw [h1] at h2; first | (obtain ⟨_, _, z, _⟩ := h2; cases z; done) | (cases h2; done))
  | bl b => cases y <;> first | exact Bool.noConfusion py | (unfold RV at h1 h2; rw [h1] at h2; first | (injection h2 with e; subst e; exact beq_self_eq_true _) | (obtain ⟨_, _, z, _⟩ := h2; cases z; done) | (cases h2; done))
  | int i => cases y <;> first | exact Bool.noConfusion py | (unfold RV at h1 h2; rw [h1] at h2; first | (injection h2 with e; subst e; exact beq_self_eq_true _) | (obtain ⟨_, _, z, _⟩ := h2; cases z; done) | (cases h2; done))
  | str i => cases y <;> first | exact Bool.noConfusion py | (unfold RV at h1 h2; rw [h1] at h2; first | (injection h2 with e; subst e; exact beq_self_eq_true _) | (obtain ⟨_, _, z, _⟩ := h2; cases z; done) | (cases h2; done))
theorem zip_inj {α β : Type} : ∀ {l : List α} {xs ys : List β}, xs.length = l.length → ys.length = l.length → l.zip xs = l.zip ys → xs = ys
  | [], [], [], _, _, _ => rfl
  | a :: l, x :: xs, y :: ys, h1, h2, e => by
    rw [List.zip_cons_cons, List.zip_cons_cons] at e
    injection e with e1 e2
    injection e1 with _ e3
    rw [e3, zip_inj (by simpa using h1) (by simpa using h2) e2]
  | [], _ :: _, _, h, _, _ => by simp at h
  | [], [], _ :: _, _, h, _ => by simp at h
  | _ :: _, [], _, h, _, _ => by simp at h
  | _ :: _, _ :: _, [], _, h, _ => by simp at h
/-- an instance is no plain value -/
theorem obj_plain {c : Nat} {fs : List IV} {y : IV} {v : V} (hT : T.K = X.K) (I : Inv X pins σ H s) (h1 : RV T S κ H (.obj c fs) v) (h2 : RV T S κ H y v) (hp : plainI y = true) : False := by
  unfold RV at h1
  obtain ⟨a, dx, vs, e1, q1, _, l1, r1⟩ := h1
  cases y with
  | obj _ _ => exact Bool.noConfusion hp
  | cell _ => exact Bool.noConfusion hp
  | scr _ => exact Bool.noConfusion hp
  | tup ys =>
    unfold RV at h2
    obtain ⟨a', vs', e2, q2, _⟩ := h2
    rw [e1] at e2; cases e2
    rw [hT] at q2
    exact (sqt_kind I q2 q1 fun z => z).elim
  | lst ys =>
    unfold RV at h2
    obtain ⟨a', vs', e2, q2, _⟩ := h2
    rw [e1] at e2; cases e2
    have q3 := q2.1
    rw [q1] at q3
    cases q3
  | _ => unfold RV at h2; rw [e1] at h2; cases h2
theorem eqQ_plain {q : Nat} {fs : List IV} {x : IV} {r : Bool} (hx : ∀ c fs, x ≠ .obj c fs) (e : eqQ q fs x = some r) : plainI x = true ∧ r = false := by
  unfold eqQ at e
  split at e
  · exact absurd rfl (hx _ _)
  · split at e
    · rename_i hp
      injection e with e
      exact ⟨hp, e.symm⟩
    · cases e
  · cases e
theorem eqF_det {q : Nat} (hT : T.K = X.K) (I : Inv X pins σ H s) : ∀ (n : Nat) (x y : IV) (v : V) (b : Bool), RV T S κ H x v → RV T S κ H y v → eqF q n x y = some b → b = true
  | 0, _, _, _, _, _, _, e => by unfold eqF at e; cases e
  | n + 1, x, y, v, b, h1, h2, e => by
    by_cases ht : ∃ xs ys, x = .tup xs ∧ y = .tup ys
    · obtain ⟨xs, ys, rfl, rfl⟩ := ht
      unfold RV at h1 h2
      obtain ⟨a, vs, e1, q1, r1⟩ := h1
      obtain ⟨a', vs', e2, q2, r2⟩ := h2
      rw [e1] at e2; cases e2
      rw [hT] at q1 q2
      have := I.tuple_inj q1 q2
      subst this
      exact eqL_det (eqF_det hT I n) xs ys vs b r1 r2 e
    by_cases hl : ∃ xs ys, x = .lst xs ∧ y = .lst ys
    · obtain ⟨xs, ys, rfl, rfl⟩ := hl
      unfold RV at h1 h2
      obtain ⟨a, vs, e1, q1, r1⟩ := h1
      obtain ⟨a', vs', e2, q2, r2⟩ := h2
      rw [e1] at e2; cases e2
      have h := q1.1.symm.trans q2.1
      cases h
      exact eqL_det (eqF_det hT I n) xs ys vs b r1 r2 e
    by_cases ho : ∃ c fs, x = .obj c fs
    · obtain ⟨c, fs, rfl⟩ := ho
      unfold eqF at e
      dsimp only at e
      split at e
      · rename_i hc
        unfold eqQ at e
        split at e
        · split at e
          · rename_i hc'
            unfold RV at h1 h2
            obtain ⟨a, dx, vs, e1, q1, _, l1, r1⟩ := h1
            obtain ⟨a', dx', vs', e2, q2, _, l2, r2⟩ := h2
            rw [e1] at e2; cases e2
            rw [q1, hc, hc'] at q2
            injection q2 with q2
            injection q2 with _ _ q3
            have hv := zip_inj (by rw [← r1.len, ← hc]; exact l1) (by rw [← r2.len, ← hc']; exact l2) q3
            subst hv
            unfold RVs RVs RVs at r1 r2
            obtain ⟨_, _, rfl, k1, _, _, rfl, k2, _⟩ := r1
            obtain ⟨_, _, z, k1', _, _, rfl, k2', _⟩ := r2
            injection z with z1 z2
            injection z2 with z2 _
            subst z1 z2
            unfold RV at k1 k2 k1' k2'
            rw [k1] at k1'; rw [k2] at k2'
            cases k1'; cases k2'
            simpa using e.symm
          · cases e
        · split at e
          · rename_i hp
            unfold RV at h1
            obtain ⟨a, dx, vs, e1, q1, _, l1, r1⟩ := h1
            cases y with
            | obj _ _ => exact Bool.noConfusion hp
            | cell _ => exact Bool.noConfusion hp
            | scr _ => exact Bool.noConfusion hp
            | tup ys =>
              unfold RV at h2
              obtain ⟨a', vs', e2, q2, _⟩ := h2
              rw [e1] at e2; cases e2
              rw [hT] at q2
              exact (sqt_kind I q2 q1 fun z => z).elim
            | lst ys =>
              unfold RV at h2
              obtain ⟨a', vs', e2, q2, _⟩ := h2
              rw [e1] at e2; cases e2
              have q3 := q2.1
              rw [q1] at q3
              cases q3
            | _ => unfold RV at h2; rw [e1] at h2; cases h2
          · cases e
        · cases e
      · cases e
    by_cases hy : ∃ c fs, y = .obj c fs
    · obtain ⟨c, fs, rfl⟩ := hy
      have e' : (if c = q then eqQ q fs x else none) = some b := by
        cases x with
        | obj c fs => exact absurd ⟨c, fs, rfl⟩ ho
        | _ => exact e
      split at e'
      · exact (obj_plain hT I h2 h1 (eqQ_plain (fun c fs z => ho ⟨c, fs, z⟩) e').1).elim
      · cases e'
    · have e' : (if (plainI x && plainI y) = true then some (eq0 x y) else none) = some b := by
        cases x with
        | obj c fs => exact absurd ⟨c, fs, rfl⟩ ho
        | tup xs => cases y with
          | tup ys => exact absurd ⟨xs, ys, rfl, rfl⟩ ht
          | obj c fs => exact absurd ⟨c, fs, rfl⟩ hy
          | _ => exact e
        | lst xs => cases y with
          | lst ys => exact absurd ⟨xs, ys, rfl, rfl⟩ hl
          | obj c fs => exact absurd ⟨c, fs, rfl⟩ hy
          | _ => exact e
        | _ => cases y <;> first | exact e | exact absurd ⟨_, _, rfl⟩ hy
      split at e'
      · rename_i hp
        rw [Bool.and_eq_true] at hp
        injection e' with e'
        rw [← e']
        exact eq0_det hp.1 hp.2 hT I h1 h2 (fun xs ys z => ht ⟨xs, ys, z⟩) (fun xs ys z => hl ⟨xs, ys, z⟩)
      · cases e'
/-! ### running == -/
/-- the state goes on: nothing but new objects -/
def Go (T : CT) (S : Addr → Prop) (κ : List Addr) (H : Hp) (cs : Cs) (X : Cx) (pins : List (Addr × Obj)) (σ : L2.St) (s' : Shared) : Prop := ∃ κ' H', Stp κ H κ' H' ∧ RS T S κ' H' cs ∧ Inv X pins σ H' s'
theorem Go.trans {κ' : List Addr} {H' : Hp} {s' : Shared} (st : Stp κ H κ' H') (g : Go T S κ' H' cs X pins σ s') : Go T S κ H cs X pins σ s' :=
  let ⟨k, h, a, b, c⟩ := g; ⟨k, h, st.trans a, b, c⟩
/-- == of x and y, run below the body -/
def EqAtI (T : CT) (X : Cx) (q n : Nat) (lv : Nat) : Prop := ∀ (x y : IV) (r : Bool), eqF q n x y = some r → ∀ (A : Around), Room (lv + n) A → A.frames = X.A.frames → ∀ (pins : List (Addr × Obj)) (s : Shared) (σ : L2.St) (H : Hp) (S : Addr → Prop) (κ : List Addr) (cs : Cs) (v u : V) (a b : Value),
  Inv X pins σ H s → RS T S κ H cs → RV T S κ H x v → RV T S κ H y u → RelV v a → RelV u b → wpAny (model X.prog X.w) A (eqBool a b) (fun k s' => k = r ∧ Go T S κ H cs X pins σ s') X.xe s
theorem eqL_all {f : IV → IV → Option Bool} : ∀ (xs ys : List IV) (r : Bool), eqL f xs ys = some r → ∃ e : Nat → Bool, ((List.range (min xs.length ys.length)).all e && xs.length == ys.length) = r ∧
    ∀ i, i < xs.length → i < ys.length → (∀ j, j < i → e j = true) → ∀ x y, xs[i]? = some x → ys[i]? = some y → f x y = some (e i)
  | [], [], r, h => ⟨fun _ => true, by simpa [eqL] using h, fun i h1 => absurd h1 (Nat.not_lt_zero _)⟩
  | [], y :: ys, r, h => ⟨fun _ => true, by simpa [eqL] using h, fun i h1 => absurd h1 (Nat.not_lt_zero _)⟩
  | x :: xs, [], r, h => ⟨fun _ => true, by simpa [eqL] using h, fun i h1 h2 => absurd h2 (Nat.not_lt_zero _)⟩
  | x :: xs, y :: ys, r, h => by
    unfold eqL at h
    cases hf : f x y with
    | none => rw [hf] at h; cases h
    | some c =>
      rw [hf] at h
      cases c with
      | false =>
        have hr : r = false := (Option.some.inj h).symm
        subst hr
        refine ⟨fun _ => false, ?_, fun i h1 h2 hp x' y' e1 e2 => ?_⟩
        · rw [Bool.and_eq_false_iff]
          exact .inl (by rw [List.all_eq_false]; exact ⟨0, by simp, by simp⟩)
        · cases i with
          | zero => simp at e1 e2; subst e1 e2; exact hf
          | succ i => exact absurd (hp 0 (Nat.succ_pos _)) Bool.false_ne_true
      | true =>
        obtain ⟨e, h1, h2⟩ := eqL_all xs ys r h
        refine ⟨fun i => match i with | 0 => true | i + 1 => e i, ?_, fun i l1 l2 hp x' y' e1 e2 => ?_⟩
        · rw [← h1, List.length_cons, List.length_cons, Nat.add_min_add_right, List.range_succ_eq_map, List.all_cons, List.all_map]
          simp only [Function.comp_def, Bool.true_and]
          congr 1
          simp
        · cases i with
          | zero => simp at e1 e2; subst e1 e2; exact hf
          | succ i =>
            exact h2 i (by simpa using l1) (by simpa using l2) (fun j hj => hp (j + 1) (by omega)) x' y' (by simpa using e1) (by simpa using e2)
theorem typeB {x : IV} {v : V} {a : Value} (hT : T.K = X.K) (I : Inv X pins σ H s) (p : plainI x = true) (h : RV T S κ H x v) (r : RelV v a) : ∃ n : String, ["NoneType", "int", "bool", "str", "tuple", "list"].contains n = true ∧ s.TypeIs a n := by
  cases x with
  | obj _ _ => exact Bool.noConfusion p
  | cell _ => exact Bool.noConfusion p
  | scr _ => exact Bool.noConfusion p
  | non => unfold RV at h; subst h; cases r; exact ⟨"NoneType", by decide, rfl⟩
  | bl b => unfold RV at h; subst h; cases r; exact ⟨"bool", by decide, rfl⟩
  | int b => unfold RV at h; subst h; obtain ⟨t, rfl⟩ := r; exact ⟨"int", by decide, typeIs_int s b t⟩
  | str b => unfold RV at h; subst h; obtain ⟨t, rfl⟩ := r; exact ⟨"str", by decide, rfl⟩
  | tup xs =>
    unfold RV at h
    obtain ⟨p, vs, rfl, q, _⟩ := h
    cases r
    rw [hT] at q
    obtain ⟨its, _, ht, _⟩ := I.tuple q
    exact ⟨"tuple", by decide, ht.typeIs⟩
  | lst xs =>
    unfold RV at h
    obtain ⟨p, vs, rfl, q, _⟩ := h
    cases r
    obtain ⟨z, its, n, _, e⟩ := I.hok p _ q.1
    exact ⟨"list", by decide, ⟨_, e, rfl⟩⟩
theorem looks_type {M : Model} {h : Shared} {a : Value} {n : String} (t : h.TypeIs a n) : PySem.W.Looks M h.heap (typeOf a) (.type n) := by
  intro A Q E s k q
  refine wpAny_typeOf (T := n) ?_ q
  cases a <;> first
    | exact t
    | (obtain ⟨o, e, c⟩ := t; exact ⟨o, k _ _ e, c⟩)
theorem eqQ_shape {q : Nat} {fs : List IV} {y : IV} {r : Bool} (e : eqQ q fs y = some r) : ∃ t b, fs = [.int t, .int b] := by
  unfold eqQ at e
  split at e
  · exact ⟨_, _, rfl⟩
  · exact ⟨_, _, rfl⟩
  · cases e
theorem rcObj {fs : List IV} {y : IV} {r : Bool} {A : Around} {v u : V} {a b : Value} (F : Fs T Φ J lv X) (tk : Takes X W) (hkq : Φ.eqk = true) (hr : Room lv A) (hA : A.frames = X.A.frames) (I : Inv X pins σ H s) (rs : RS T S κ H cs)
    (hx : RV T S κ H (.obj Φ.q fs) v) (hy : RV T S κ H y u) (ra : RelV v a) (rb : RelV u b) (e : eqQ Φ.q fs y = some r) : wpAny (model X.prog X.w) A (richCompare .Eq a b) (fun k s' => k = .bool r ∧ Go T S κ H cs X pins σ s') X.xe s := by
  obtain ⟨t, bb, rfl⟩ := eqQ_shape e
  obtain ⟨hf, hfi, hfn, hps, hfr⟩ := F.qo ("__eq__", Φ.eq) (by simp)
  have rxs := RVs.cons hx (RVs.cons hy RVs.nil)
  have hsem := F.qs hkq t bb y cs r e
  unfold RV at hx
  obtain ⟨p, dx, vs, rfl, hp1, _, _, _⟩ := hx
  cases ra
  obtain ⟨mA, Jx, _⟩ := ins_get I.hok hp1
  obtain ⟨od, Jx, _⟩ := Jx.look
  obtain ⟨m, hF⟩ := I.fr
  have hb : ∃ tb, PySem.W.Looks (model X.prog X.w) s.heap (typeOf b) tb ∧ PySem.W.notFirst X.K (T.cls Φ.q) tb = true := by
    by_cases py : plainI y = true
    · obtain ⟨n, hn, ht⟩ := typeB F.K.symm I py hy rb
      exact ⟨_, looks_type ht, by unfold PySem.W.notFirst; rw [F.qn n hn]; simp⟩
    · unfold eqQ at e
      split at e
      · rename_i hs hfs1
        split at e
        · rename_i hc
          unfold RV at hy
          obtain ⟨p', dx', vs', rfl, hp2, _, _, _⟩ := hy
          cases rb
          rw [hc] at hp2
          obtain ⟨mB, Jy, _⟩ := ins_get I.hok hp2
          obtain ⟨od', Jy, _⟩ := Jy.look
          exact ⟨_, Jy.type, by simp [PySem.W.notFirst]⟩
        · cases e
      · rw [if_neg py] at e; cases e
      · cases e
  obtain ⟨tb, hb1, hb2⟩ := hb
  refine PySem.W.cmp_K (K := X.K) (op := .Eq) hr.units0 hF I.ok.mod.kin Jx hb1 hb2 hfi hfn ?_
  refine wpAny_mono (callFA (W := W) (S := S) (κ := κ) (cs := cs) (Q := fun v' H' => v' = .bl r ∧ ∃ κ', Stp κ H κ' H' ∧ RS T S κ' H' cs) F hf hr hA tk I rs rxs (.cons rfl (.cons rb .nil)) (by rw [hps]; rfl) (by
    rw [hfr, hsem]
    intro κ' H' v' st rs' rv' _
    unfold RV at rv'
    exact ⟨rv', κ', st, rs'⟩)) (fun k s' q => ?_) fun _ _ z => z
  obtain ⟨v', H', I', rv', ev, κ', st, rs'⟩ := q
  subst ev
  cases rv'
  exact ⟨rfl, κ', H', st, rs', I'⟩
theorem eqTurn {q n : Nat} (ih : EqAtI T X q n lv) {A : Around} (hr : Room (lv + (n + 1)) A) (hA : A.frames = X.A.frames) {xs ys : List IV} {vs us : List V} {its its2 : List Value} (h1 : RVs T S κ H xs vs) (h2 : RVs T S κ H ys us) (r1 : Vals vs its) (r2 : Vals us its2) {e : Nat → Bool}
    (he : ∀ i, i < xs.length → i < ys.length → (∀ j, j < i → e j = true) → ∀ x y, xs[i]? = some x → ys[i]? = some y → eqF q n x y = some (e i)) (i : Nat) (l1 : i < its.toArray.size) (l2 : i < its2.toArray.size) (s' : Shared) (hp : ∀ j, j < i → e j = true) (g : Go T S κ H cs X pins σ s') :
    wpAny (model X.prog X.w) A.in1 (eqBool its.toArray[i] its2.toArray[i]) (fun k s2 => k = e i ∧ Go T S κ H cs X pins σ s2) X.xe s' := by
  obtain ⟨κ1, H1, st, rs1, I1⟩ := g
  have k1 : i < its.length := by simpa using l1
  have k2 : i < its2.length := by simpa using l2
  have k3 : i < vs.length := by rw [r1.length]; exact k1
  have k4 : i < us.length := by rw [r2.length]; exact k2
  obtain ⟨v, hv, rv⟩ := r1.get (List.getElem?_eq_getElem k3)
  obtain ⟨u, hu, ru⟩ := r2.get (List.getElem?_eq_getElem k4)
  obtain ⟨x, hx, rx⟩ := h1.get' (List.getElem?_eq_getElem k3)
  obtain ⟨y, hy, ry⟩ := h2.get' (List.getElem?_eq_getElem k4)
  have e1 : its.toArray[i] = v := by
    have : its[i]? = some its.toArray[i] := by rw [List.getElem?_eq_getElem k1]; simp
    rw [hv] at this; exact (Option.some.inj this).symm
  have e2 : its2.toArray[i] = u := by
    have : its2[i]? = some its2.toArray[i] := by rw [List.getElem?_eq_getElem k2]; simp
    rw [hu] at this; exact (Option.some.inj this).symm
  rw [e1, e2]
  have hee := he i (List.getElem?_eq_some_iff.mp hx).1 (List.getElem?_eq_some_iff.mp hy).1 hp x y hx hy
  refine wpAny_mono (ih x y (e i) hee A.in1 (Room.in1 (k := lv + n) hr) hA pins s' σ H1 S κ1 cs _ _ v u I1 rs1 (st.mv.rv _ _ rx) (st.mv.rv _ _ ry) rv ru) (fun k s2 ⟨hk, g2⟩ => ⟨hk, g2.trans st⟩) fun _ _ z => z
theorem rcTup {q n : Nat} (ih : EqAtI T X q n lv) {A : Around} (hT : T.K = X.K) (hr : Room (lv + (n + 1)) A) (hA : A.frames = X.A.frames) {xs ys : List IV} {v u : V} {a b : Value} {r : Bool} (I : Inv X pins σ H s) (rs : RS T S κ H cs) (hx : RV T S κ H (.tup xs) v) (hy : RV T S κ H (.tup ys) u) (ra : RelV v a) (rb : RelV u b)
    (e : eqL (eqF q n) xs ys = some r) : wpAny (model X.prog X.w) A (richCompare .Eq a b) (fun k s' => k = .bool r ∧ Go T S κ H cs X pins σ s') X.xe s ∧ wpAny (model X.prog X.w) A (richCompare .NotEq a b) (fun k s' => k = .bool (!r) ∧ Go T S κ H cs X pins σ s') X.xe s := by
  obtain ⟨ev, hev, he⟩ := eqL_all xs ys r e
  unfold RV at hx hy
  obtain ⟨p, vs, rfl, q1, r1⟩ := hx
  obtain ⟨p', us, rfl, q2, r2⟩ := hy
  cases ra; cases rb
  rw [hT] at q1 q2
  obtain ⟨its, rv, ht, _⟩ := I.tuple q1
  obtain ⟨its2, rv2, ht2, _⟩ := I.tuple q2
  have s1 : its.toArray.size = xs.length := by rw [List.size_toArray, ← rv.length, r1.len]
  have s2 : its2.toArray.size = ys.length := by rw [List.size_toArray, ← rv2.length, r2.len]
  have g0 : Go T S κ H cs X pins σ s := ⟨κ, H, Stp.rfl', rs, I⟩
  refine ⟨GB.rceq_tup (fun s' => Go T S κ H cs X pins σ s') ev hr.units0 ht ht2 (fun i l1 l2 s' hp g => eqTurn ih hr hA r1 r2 rv rv2 he i l1 l2 s' hp g) (fun s' g => ⟨?_, g⟩) g0, GB.rcne_tup (fun s' => Go T S κ H cs X pins σ s') ev hr.units0 ht ht2 (fun i l1 l2 s' hp g => eqTurn ih hr hA r1 r2 rv rv2 he i l1 l2 s' hp g) (fun s' g => ⟨?_, g⟩) g0⟩
  · rw [s1, s2, hev]
  · rw [s1, s2, hev]
theorem rcLst {q n : Nat} (ih : EqAtI T X q n lv) {A : Around} (hT : T.K = X.K) (hr : Room (lv + (n + 1)) A) (hA : A.frames = X.A.frames) {xs ys : List IV} {v u : V} {a b : Value} {r : Bool} (I : Inv X pins σ H s) (rs : RS T S κ H cs) (hx : RV T S κ H (.lst xs) v) (hy : RV T S κ H (.lst ys) u) (ra : RelV v a) (rb : RelV u b)
    (e : eqL (eqF q n) xs ys = some r) : wpAny (model X.prog X.w) A (richCompare .Eq a b) (fun k s' => k = .bool r ∧ Go T S κ H cs X pins σ s') X.xe s ∧ wpAny (model X.prog X.w) A (richCompare .NotEq a b) (fun k s' => k = .bool (!r) ∧ Go T S κ H cs X pins σ s') X.xe s := by
  obtain ⟨ev, hev, he⟩ := eqL_all xs ys r e
  unfold RV at hx hy
  obtain ⟨p, vs, rfl, q1, r1⟩ := hx
  obtain ⟨p', us, rfl, q2, r2⟩ := hy
  cases ra; cases rb
  obtain ⟨z1, its, n1, rv, ht⟩ := I.hok p _ q1.1
  obtain ⟨z2, its2, n2, rv2, ht2⟩ := I.hok p' _ q2.1
  have s1 : its.toArray.size = xs.length := by rw [List.size_toArray, ← rv.length, r1.len]
  have s2 : its2.toArray.size = ys.length := by rw [List.size_toArray, ← rv2.length, r2.len]
  by_cases hlen : xs.length = ys.length
  · have hsz : its.toArray.size = its2.toArray.size := by rw [s1, s2, hlen]
    have hall : (List.range vs.length).all ev = r := by
      rw [← r1.len]
      rw [hlen, Nat.min_self] at hev
      rw [hlen]
      simpa using hev
    have g0 : Go T S κ H cs X pins σ s := ⟨κ, H, Stp.rfl', rs, I⟩
    have hlu : us.length = vs.length := by rw [← r1.len, ← r2.len, hlen]
    have rd : ∀ i s', (∀ j, j < i → ev j = true) → Go T S κ H cs X pins σ s' → ∃ (items items2 : Array Value) (n n2 : Nat), s'.heap.get? p = some (GB.LObj items n) ∧ s'.heap.get? p' = some (GB.LObj items2 n2) ∧ items.size = vs.length ∧ items2.size = vs.length ∧
        ∀ (h1 : i < items.size) (h2 : i < items2.size), wpAny (model X.prog X.w) A.in1 (eqBool items[i] items2[i]) (fun r s' => r = ev i ∧ Go T S κ H cs X pins σ s') X.xe s' := fun i s' hp g => by
      obtain ⟨κ', H', st, rs', I'⟩ := id g
      obtain ⟨_, jts, m1, jv, jt⟩ := I'.hok p _ (st.evo p _ q1.1 (.inr q1.2.2))
      obtain ⟨_, jts2, m2, jv2, jt2⟩ := I'.hok p' _ (st.evo p' _ q2.1 (.inr q2.2.2))
      exact ⟨jts.toArray, jts2.toArray, m1, m2, jt, jt2, by rw [List.size_toArray, ← jv.length], by rw [List.size_toArray, ← jv2.length, hlu], fun l1 l2 => eqTurn ih hr hA r1 r2 jv jv2 he i l1 l2 s' hp g⟩
    refine ⟨GB.rceq_list (N := vs.length) (fun s' => Go T S κ H cs X pins σ s') ev hr.units0 (fun i s' hp g => rd i s' hp g) (fun s' g => ⟨by rw [hall], g⟩) g0, GB.rcne_list (N := vs.length) (fun s' => Go T S κ H cs X pins σ s') ev hr.units0 (fun i s' hp g => rd i s' hp g) (fun s' g => ⟨by rw [hall], g⟩) g0⟩
  · have hb : r = false := by
      rw [← hev, Bool.and_eq_false_iff]
      exact .inr (by simpa using hlen)
    subst hb
    have hz : (its.toArray.size != its2.toArray.size) = true := by rw [s1, s2]; simpa using hlen
    exact ⟨SeqAt.RcAt.lists_lengths ⟨_, ht, rfl, n1, rfl⟩ ⟨_, ht2, rfl, n2, rfl⟩ hz hr.units0 X.prog X.w _ _ ⟨rfl, κ, H, Stp.rfl', rs, I⟩, SeqAt.RcNeAt.lists_lengths ⟨_, ht, rfl, n1, rfl⟩ ⟨_, ht2, rfl, n2, rfl⟩ hz hr.units0 X.prog X.w _ _ ⟨rfl, κ, H, Stp.rfl', rs, I⟩⟩
end
end EG

-- EngH
/-! Engine H: == and != finished; in. -/
namespace EG
open PySem PySem.Spec L2 PyProof.Rows PySem.SeqAt
section
open PySem.W
variable {prog : Program} {w : World} {A : Around} {E : Value → Shared → Prop} {s : Shared} {K : Frag} {x C f : Addr} {ox : Obj} {od : Option Obj} {b tb : Value}
theorem check_slot_K {M : Model} {id owner n : String} {rest : List Value} {Q : Unit → Shared → Prop} (X : K.In s.heap) (I : InstAt s.heap x ox C od) (hk : builtinKind id = some .slot) (hs : splitId id = some (owner, n)) (ha : argsOk id ⟨.ref x :: rest, []⟩)
    (hob : subIn K (.ref C) (.type owner) = some true) (hq : Q () s) : wpAny M A (checkBuiltinCall id ⟨.ref x :: rest, []⟩) Q E s := by
  simp only [checkBuiltinCall, hk, hs]
  unfold isInstance
  refine wpAny_bind (wpAny_bind (I.type.here ((looks_subIn X hob).here ?_)))
  rw [if_neg (by simp)]
  cases hsig : Manifest.signature? id with
  | none => exact wpAny_pure hq
  | some sig =>
    simp only [argsOk, hsig] at ha
    have h2 : Bind.checkArgs id sig ⟨.ref x :: rest, []⟩ = pure () := ha
    show wpAny M A (Bind.checkArgs id sig ⟨.ref x :: rest, []⟩) Q E _
    rw [h2]; exact wpAny_pure hq
/-- != by an own == -/
theorem ne_K {r : Bool} {P : Shared → Prop} (hu : A.units + 1 < cLine) (X : K.In s.heap) (I : InstAt s.heap x ox C od) (hb : Looks (model prog w) s.heap (typeOf b) tb) (hn : notFirst K C tb = true)
    (hs : findIn K (.ref C) "__ne__" = some (some (.builtin "object.__ne__"))) (hob : subIn K (.ref C) (.type "object") = some true) (hse : findIn K (.ref C) "__eq__" = some (some (.ref f))) (hf : isFn K (.ref f) = true)
    (h : wpAny (model prog w) A.in1 (call (.ref f) [.ref x, b]) (fun v s' => v = .bool r ∧ P s') E s) : wpAny (model prog w) A (richCompare .NotEq (.ref x) b) (fun v s' => v = .bool (!r) ∧ P s') E s := by
  have one : wpAny (model prog w) A (tryCompare (.ref x) (cmpInfo .NotEq).2.1 b) (fun q s' => ∃ v, q = some v ∧ v = .bool (!r) ∧ P s') E s := by
    show wpAny (model prog w) A (tryCompare (.ref x) "__ne__" b) _ E s
    unfold tryCompare
    refine wpAny_bind ?_
    simp only [callSpecialIfBound?, bindSpecialIfBound?]
    refine wpAny_holding (wpAny_bind (wpAny_bind (wpAny_bind (I.type.here ((looks_findIn X hs).here ?_)))))
    simp only [F.cmp_object.ne.bind]
    refine wpAny_bind (wpAny_askSetting (wpAny_ite ?_))
    have fin : wpAny (model prog w) A (call (.builtin "object.__ne__") ([.ref x] ++ [b]) >>= fun v => pure (some v)) (fun a s' => wpAny (model prog w) A (match a with | some .notImplemented | none => pure none | some v => pure (some v)) (fun q s' => ∃ v, q = some v ∧ v = .bool (!r) ∧ P s') E s') E s := by
      refine wpAny_bind (wpAny_call (codeAny_call_builtin F.cmp_object.ne.plain F.cmpEntry_ne (check_slot_K X I F.cmpKind_ne F.cmpSplit_ne (F.cmpArgs_ne _ _) hob ?_)))
      unfold Builtin.«object.__ne__»
      have hbody : wpAny (model prog w) A.in1 (callSpecialIfBound? (.ref x) "__eq__" [b]) (fun q s' => q = some (.bool r) ∧ P s') E s :=
        ifBound_K X I hse hf (wpAny_mono h (fun v s' ⟨e, p⟩ => ⟨by rw [e], p⟩) fun _ _ z => z)
      repeat (first | with_reducible refine wpAny_cRoomFor (A := A.in1) hu ?_ | with_reducible refine wpAny_bind (wpAny_mono hbody (fun q s' hq => ?_) fun _ _ z => z) | wp_step)
      obtain ⟨rfl, p⟩ := hq
      dsimp only
      refine wpAny_bind (wpAny_truthy_bool (wpAny_pure ?_))
      first
        | exact wpAny_pure ⟨_, rfl, rfl, p⟩
        | exact wpAny_pure (wpAny_pure ⟨_, rfl, rfl, p⟩)
        | exact ⟨_, rfl, rfl, p⟩
    split
    · exact wpAny_bind (wpAny_pure (wpAny_pure fin))
    · exact wpAny_tryCatch (wpAny_bind (wpAny_pure (wpAny_pure fin)))
  unfold richCompare
  simp only [oneThing_ref]
  refine wpAny_holding (wpAny_bind (wpAny_cRoomFor (by omega) ?_))
  refine wpAny_bind (I.type.here (wpAny_bind (hb.here ?_)))
  split
  · rename_i q
    have e : subIn K tb (.ref C) = some false := by
      rcases Bool.or_eq_true_iff.mp hn with e | e
      · rw [beq_iff_eq.mp e] at q; simp at q
      · exact beq_iff_eq.mp e
    refine wpAny_bind ((looks_subIn X e).here ?_)
    simp only [Bool.false_eq_true, if_false]
    refine wpAny_bind (wpAny_mono one (fun r s' z => ?_) fun _ _ e => e)
    obtain ⟨v, rfl, hq⟩ := z
    exact wpAny_pure hq
  · refine wpAny_bind (wpAny_pure ?_)
    simp only [Bool.false_eq_true, if_false]
    refine wpAny_bind (wpAny_mono one (fun r s' z => ?_) fun _ _ e => e)
    obtain ⟨v, rfl, hq⟩ := z
    exact wpAny_pure hq
end
section
variable {T : CT} {Φ : Fns} {J : TX} {lv : Nat} {W : WX} {X : Cx} {S : Addr → Prop} {κ : List Addr} {H : Hp} {env : Env} {cs : Cs} {σ : L2.St} {fr : Bool} {Q : VK} {N : List Str} {sc : Scope} {pins : List (Addr × Obj)} {s : Shared} {A : Around}
/-- what stands behind a plain value -/
inductive PK (s : Shared) : IV → Value → Prop where
  | non : PK s .non .none
  | bl (b : Bool) : PK s (.bl b) (.bool b)
  | int (i : Int) (t : Tok) : PK s (.int i) (.int i t)
  | str (x : Str) (t : Tok) : PK s (.str x) (.str x t)
  | tup {xs : List IV} {l : Addr} {items : Array Value} (h : s.heap.IsTuple l items) : PK s (.tup xs) (.ref l)
  | lst {xs : List IV} {l : Addr} {items : Array Value} (h : s.heap.IsList l items) : PK s (.lst xs) (.ref l)
theorem pk_of {x : IV} {v : V} {a : Value} (hT : T.K = X.K) (I : Inv X pins σ H s) (p : plainI x = true) (h : RV T S κ H x v) (r : RelV v a) : EG.PK s x a := by
  cases x with
  | obj _ _ => exact Bool.noConfusion p
  | cell _ => exact Bool.noConfusion p
  | scr _ => exact Bool.noConfusion p
  | non => unfold RV at h; subst h; cases r; exact .non
  | bl b => unfold RV at h; subst h; cases r; exact .bl b
  | int b => unfold RV at h; subst h; obtain ⟨t, rfl⟩ := r; exact .int b t
  | str b => unfold RV at h; subst h; obtain ⟨t, rfl⟩ := r; exact .str b t
  | tup xs =>
    unfold RV at h
    obtain ⟨p, vs, rfl, q, _⟩ := h
    cases r
    rw [hT] at q
    obtain ⟨its, _, ht, _⟩ := I.tuple q
    exact .tup ht
  | lst xs =>
    unfold RV at h
    obtain ⟨p, vs, rfl, q, _⟩ := h
    cases r
    obtain ⟨z, its, n, _, e⟩ := I.hok p _ q.1
    exact .lst (items := its.toArray) ⟨_, e, rfl, n, rfl⟩
theorem pk_eq {x y : IV} {a b : Value} (hu : A.units < cLine) (h1 : EG.PK s x a) (h2 : EG.PK s y b) (hn : ∀ xs ys, ¬ (x = .tup xs ∧ y = .tup ys)) (hn2 : ∀ xs ys, ¬ (x = .lst xs ∧ y = .lst ys)) : EqAt A s a b (eq0 x y) ∧ RcAt A s a b (eq0 x y) ∧ RcNeAt A s a b (!(eq0 x y)) := by
  cases h1 with
  | non  =>
    cases h2 with
    | non  => exact ⟨EqAt.same _, RcAt.none_none, RcNeAt.none_none⟩
    | bl b2 => exact ⟨EqAt.none_bool b2, RcAt.none_bool b2, RcNeAt.none_bool b2⟩
    | int i2 t2 => exact ⟨EqAt.none_int i2 t2, RcAt.none_int i2 t2, RcNeAt.none_int i2 t2⟩
    | str x2 t2 => exact ⟨EqAt.none_str x2 t2, RcAt.none_str x2 t2, RcNeAt.none_str x2 t2⟩
    | tup h2 => exact ⟨EqAt.none_tuple h2 hu, RcAt.none_tuple h2 hu, RcNeAt.none_tuple h2 hu⟩
    | lst h2 => exact ⟨EqAt.none_list h2 hu, RcAt.none_list h2 hu, RcNeAt.none_list h2 hu⟩
  | bl b =>
    cases h2 with
    | non  => exact ⟨EqAt.bool_none b, RcAt.bool_none b, RcNeAt.bool_none b⟩
    | bl b2 => exact ⟨EqAt.bool_bool b b2, RcAt.bool_bool b b2, RcNeAt.bool_bool b b2⟩
    | int i2 t2 => exact ⟨EqAt.bool_int b i2 t2, RcAt.bool_int b i2 t2, RcNeAt.bool_int b i2 t2⟩
    | str x2 t2 => exact ⟨EqAt.bool_str b x2 t2, RcAt.bool_str b x2 t2, RcNeAt.bool_str b x2 t2⟩
    | tup h2 => exact ⟨EqAt.bool_tuple b h2 hu, RcAt.bool_tuple b h2 hu, RcNeAt.bool_tuple b h2 hu⟩
    | lst h2 => exact ⟨EqAt.bool_list b h2 hu, RcAt.bool_list b h2 hu, RcNeAt.bool_list b h2 hu⟩
  | int i t =>
    cases h2 with
    | non  => exact ⟨EqAt.int_none i t, RcAt.int_none i t, RcNeAt.int_none i t⟩
    | bl b2 => exact ⟨EqAt.int_bool i t b2, RcAt.int_bool i t b2, RcNeAt.int_bool i t b2⟩
    | int i2 t2 => exact ⟨EqAt.int_int i t i2 t2, RcAt.int_int i t i2 t2, RcNeAt.int_int i t i2 t2⟩
    | str x2 t2 => exact ⟨EqAt.int_str i t x2 t2, RcAt.int_str i t x2 t2, RcNeAt.int_str i t x2 t2⟩
    | tup h2 => exact ⟨EqAt.int_tuple i t h2 hu, RcAt.int_tuple i t h2 hu, RcNeAt.int_tuple i t h2 hu⟩
    | lst h2 => exact ⟨EqAt.int_list i t h2 hu, RcAt.int_list i t h2 hu, RcNeAt.int_list i t h2 hu⟩
  | str x t =>
    cases h2 with
    | non  => exact ⟨EqAt.str_none x t, RcAt.str_none x t, RcNeAt.str_none x t⟩
    | bl b2 => exact ⟨EqAt.str_bool x t b2, RcAt.str_bool x t b2, RcNeAt.str_bool x t b2⟩
    | int i2 t2 => exact ⟨EqAt.str_int x t i2 t2, RcAt.str_int x t i2 t2, RcNeAt.str_int x t i2 t2⟩
    | str x2 t2 => exact ⟨EqAt.str_str x t x2 t2, RcAt.str_str x t x2 t2, RcNeAt.str_str x t x2 t2⟩
    | tup h2 => exact ⟨EqAt.str_tuple x t h2 hu, RcAt.str_tuple x t h2 hu, RcNeAt.str_tuple x t h2 hu⟩
    | lst h2 => exact ⟨EqAt.str_list x t h2 hu, RcAt.str_list x t h2 hu, RcNeAt.str_list x t h2 hu⟩
  | tup h =>
    cases h2 with
    | non  => exact ⟨EqAt.tuple_none h hu, RcAt.tuple_none h hu, RcNeAt.tuple_none h hu⟩
    | bl b2 => exact ⟨EqAt.tuple_bool b2 h hu, RcAt.tuple_bool b2 h hu, RcNeAt.tuple_bool b2 h hu⟩
    | int i2 t2 => exact ⟨EqAt.tuple_int i2 t2 h hu, RcAt.tuple_int i2 t2 h hu, RcNeAt.tuple_int i2 t2 h hu⟩
    | str x2 t2 => exact ⟨EqAt.tuple_str x2 t2 h hu, RcAt.tuple_str x2 t2 h hu, RcNeAt.tuple_str x2 t2 h hu⟩
    | tup h2 => exact absurd ⟨rfl, rfl⟩ (hn _ _)
    | lst h2 => exact ⟨EqAt.tuple_list h h2 hu, RcAt.tuple_list h h2 hu, RcNeAt.tuple_list h h2 hu⟩
  | lst h =>
    cases h2 with
    | non  => exact ⟨EqAt.list_none h hu, RcAt.list_none h hu, RcNeAt.list_none h hu⟩
    | bl b2 => exact ⟨EqAt.list_bool b2 h hu, RcAt.list_bool b2 h hu, RcNeAt.list_bool b2 h hu⟩
    | int i2 t2 => exact ⟨EqAt.list_int i2 t2 h hu, RcAt.list_int i2 t2 h hu, RcNeAt.list_int i2 t2 h hu⟩
    | str x2 t2 => exact ⟨EqAt.list_str x2 t2 h hu, RcAt.list_str x2 t2 h hu, RcNeAt.list_str x2 t2 h hu⟩
    | tup h2 => exact ⟨EqAt.list_tuple h h2 hu, RcAt.list_tuple h h2 hu, RcNeAt.list_tuple h h2 hu⟩
    | lst h2 => exact absurd ⟨rfl, rfl⟩ (hn2 _ _)
/-- a plain value first, a quotient behind it -/
theorem rcPln {fs : List IV} {x : IV} {r : Bool} {A : Around} {v u : V} {a b : Value} (Fz : Fs T Φ J lv X) (tk : Takes X W) (hkq : Φ.eqk = true) (hr : Room (lv + 1) A) (hA : A.frames = X.A.frames) (I : Inv X pins σ H s) (rs : RS T S κ H cs)
    (hx : RV T S κ H x v) (hy : RV T S κ H (.obj Φ.q fs) u) (ra : RelV v a) (rb : RelV u b) (px : plainI x = true) (e : eqQ Φ.q fs x = some r) :
    wpAny (model X.prog X.w) A (richCompare .Eq a b) (fun k s' => k = .bool r ∧ Go T S κ H cs X pins σ s') X.xe s ∧ wpAny (model X.prog X.w) A (richCompare .NotEq a b) (fun k s' => k = .bool (!r) ∧ Go T S κ H cs X pins σ s') X.xe s := by
  obtain ⟨t, bb, rfl⟩ := eqQ_shape e
  obtain ⟨hf, hfi, hfn, hps, hfr⟩ := Fz.qo ("__eq__", Φ.eq) (by simp)
  have rxs := RVs.cons hy (RVs.cons hx RVs.nil)
  have hsem := Fz.qs hkq t bb x cs r e
  have hT := Fz.K.symm
  have pk := pk_of hT I px hx ra
  obtain ⟨p, dx, vs, rfl, hp1, _, _, _⟩ := (by unfold RV at hy; exact hy : ∃ p dx vs, u = .ref p ∧ _)
  cases rb
  obtain ⟨mA, Jx, _⟩ := ins_get I.hok hp1
  have hpo : s.heap.get? p = some (PySem.W.instObj (T.cls Φ.q) dx) := Jx.1
  obtain ⟨od, Jx, _⟩ := Jx.look
  have hu := hr.units0
  have call : ∀ A', Room lv A' → A'.frames = X.A.frames → wpAny (model X.prog X.w) A' (call (.ref (J.fad Φ.eq)) [.ref p, a]) (fun v' s' => v' = .bool r ∧ Go T S κ H cs X pins σ s') X.xe s := fun A' hr' hA' => by
    refine wpAny_mono (callFA (W := W) (S := S) (κ := κ) (cs := cs) (Q := fun v' H' => v' = .bl r ∧ ∃ κ', Stp κ H κ' H' ∧ RS T S κ' H' cs) Fz hf hr' hA' tk I rs rxs (.cons rfl (.cons ra .nil)) (by rw [hps]; rfl) (by
      rw [hfr, hsem]
      intro κ' H' v' st rs' rv' _
      unfold RV at rv'
      exact ⟨rv', κ', st, rs'⟩)) (fun k s' q => ?_) fun _ _ z => z
    obtain ⟨v', H', I', rv', ev, κ', st, rs'⟩ := q
    subst ev
    cases rv'
    exact ⟨rfl, κ', H', st, rs', I'⟩
  have sub := fun n hn => Fz.qr n hn
  have hst : ∀ n, ["NoneType", "int", "bool", "str", "tuple", "list"].contains n = true → ∀ (A : Around) (Q : Bool → Shared → Prop) (E : Value → Shared → Prop), Q false s → wpAny (model X.prog X.w) A (isSubtype (.ref (T.cls Φ.q)) (.type n)) Q E s := fun n hn A Q E q => (PySem.W.looks_subIn I.kIn (Fz.qr n hn)).here q
  have one1 : wpAny (model X.prog X.w) A (tryCompare (.ref p) (cmpInfo .Eq).2.2 a) (fun q s' => ∃ v, q = some v ∧ v = .bool r ∧ Go T S κ H cs X pins σ s') X.xe s :=
    GB.eq_one I.kIn Jx hfi hfn (wpAny_mono (call A (hr.mono (by omega)) hA) (fun v s' ⟨e, g⟩ => by subst e; exact ⟨rfl, g⟩) fun _ _ z => z)
  have one2 : wpAny (model X.prog X.w) A (tryCompare (.ref p) (cmpInfo .NotEq).2.2 a) (fun q s' => ∃ v, q = some v ∧ v = .bool (!r) ∧ Go T S κ H cs X pins σ s') X.xe s :=
    GB.ne_one (r := r) (by have := hr.un; omega) I.kIn Jx Fz.qne Fz.qob hfi hfn (call A.in1 (Room.in1 (k := lv) hr) hA)
  cases pk with
  | non => exact ⟨GB.rc_refl hu I.kIn Jx (T := "NoneType") rfl (sub _ (by decide)) F.slot_NoneType_eq (fun _ hq => call_meets F.slot_NoneType_eq rfl F.entry_NoneType_eq (F.args_NoneType_eq_2 _ _) (NoneType___eq___none_ref_0 p).meets hq) one1, GB.rc_refl hu I.kIn Jx (T := "NoneType") rfl (sub _ (by decide)) F.slot_NoneType_ne (fun _ hq => call_meets F.slot_NoneType_ne rfl F.entry_NoneType_ne (F.args_NoneType_ne_2 _ _) (NoneType___ne___none_ref_0 p).meets hq) one2⟩
  | bl b => exact ⟨GB.rc_refl hu I.kIn Jx (T := "bool") rfl (sub _ (by decide)) F.slot_bool_eq (fun _ hq => call_meets F.slot_bool_eq rfl F.entry_int_eq (F.args_int_eq_2 _ _) (GB.bool_eq_dec b p _ dx) ⟨hpo, hq⟩) one1, GB.rc_refl hu I.kIn Jx (T := "bool") rfl (sub _ (by decide)) F.slot_bool_ne (fun _ hq => call_meets F.slot_bool_ne rfl F.entry_int_ne (F.args_int_ne_2 _ _) (GB.bool_ne_dec b p _ dx) ⟨hpo, hq⟩) one2⟩
  | int i t => exact ⟨GB.rc_refl hu I.kIn Jx (typeIs_int s i t) (sub _ (by decide)) F.slot_int_eq (fun _ hq => call_meets F.slot_int_eq (typeIs_int s i t) F.entry_int_eq (F.args_int_eq_2 _ _) (GB.int_eq_dec i t p _ dx) ⟨hpo, hq⟩) one1, GB.rc_refl hu I.kIn Jx (typeIs_int s i t) (sub _ (by decide)) F.slot_int_ne (fun _ hq => call_meets F.slot_int_ne (typeIs_int s i t) F.entry_int_ne (F.args_int_ne_2 _ _) (GB.int_ne_dec i t p _ dx) ⟨hpo, hq⟩) one2⟩
  | str z t => exact ⟨GB.rc_refl hu I.kIn Jx (T := "str") rfl (sub _ (by decide)) F.slot_str_eq (fun _ hq => call_meets F.slot_str_eq rfl F.entry_str_eq (F.args_str_eq_2 _ _) (GB.str_eq_dec z t p _ dx) ⟨hpo, hq⟩) one1, GB.rc_refl hu I.kIn Jx (T := "str") rfl (sub _ (by decide)) F.slot_str_ne (fun _ hq => call_meets F.slot_str_ne rfl F.entry_str_ne (F.args_str_ne_2 _ _) (GB.str_ne_dec z t p _ dx) ⟨hpo, hq⟩) one2⟩
  | tup h =>
    obtain ⟨⟨cls, dd, data, sl⟩, ho, hc, n, hd⟩ := id h
    simp only at hc hd
    subst hc hd
    exact ⟨GB.rc_refl hu I.kIn Jx (T := "tuple") ⟨_, ho, rfl⟩ (sub _ (by decide)) F.slot_tuple_eq (fun Q' hq => GQ.call_here F.slot_tuple_eq ⟨_, ho, rfl⟩ F.entry_tuple_eq (F.args_tuple_eq_2 _ _) (GB.tuple_eq_dec (R := wants Q' X.xe) _ p _ dx _ n dd sl ho hpo (hst _ (by decide)) hq)) one1, GB.rc_refl hu I.kIn Jx (T := "tuple") ⟨_, ho, rfl⟩ (sub _ (by decide)) F.slot_tuple_ne (fun Q' hq => GQ.call_here F.slot_tuple_ne ⟨_, ho, rfl⟩ F.entry_tuple_ne (F.args_tuple_ne_2 _ _) (GB.tuple_ne_dec (R := wants Q' X.xe) _ p _ dx _ n dd sl ho hpo (hst _ (by decide)) hq)) one2⟩
  | lst h =>
    unfold RV at hx
    obtain ⟨l, vs', rfl, q, _⟩ := hx
    cases ra
    obtain ⟨z, its, n, _, ho⟩ := I.hok _ _ q.1
    exact ⟨GB.rc_refl hu I.kIn Jx (T := "list") ⟨_, ho, rfl⟩ (sub _ (by decide)) F.slot_list_eq (fun Q' hq => GQ.call_here F.slot_list_eq ⟨_, ho, rfl⟩ F.entry_list_eq (F.args_list_eq_2 _ _) (GB.list_eq_dec (R := wants Q' X.xe) _ p _ dx _ n ho hpo (hst _ (by decide)) hq)) one1, GB.rc_refl hu I.kIn Jx (T := "list") ⟨_, ho, rfl⟩ (sub _ (by decide)) F.slot_list_ne (fun Q' hq => GQ.call_here F.slot_list_ne ⟨_, ho, rfl⟩ F.entry_list_ne (F.args_list_ne_2 _ _) (GB.list_ne_dec (R := wants Q' X.xe) _ p _ dx _ n ho hpo (hst _ (by decide)) hq)) one2⟩
/-- every == -/
theorem eqAtI_all (F : Fs T Φ J lv X) (tk : Takes X W) (hkq : Φ.eqk = true) : ∀ n, EqAtI T X Φ.q n lv
  | 0 => fun x y r e => by unfold eqF at e; cases e
  | n + 1 => by
    intro x y r e A hr hA pins s σ H S κ cs v u a b I rs rx ry ra rb
    have ih := eqAtI_all F tk hkq n
    have hT := F.K.symm
    have det := eqF_det (q := Φ.q) (S := S) (κ := κ) (H := H) hT I (n + 1) x y
    -- two references
    have viaR : ∀ p, a = .ref p → wpAny (model X.prog X.w) A (richCompare .Eq a b) (fun k s' => k = .bool r ∧ Go T S κ H cs X pins σ s') X.xe s → wpAny (model X.prog X.w) A (eqBool a b) (fun k s' => k = r ∧ Go T S κ H cs X pins σ s') X.xe s := by
      rintro p rfl h
      by_cases hb : b = .ref p
      · subst hb
        have e1 : v = .ref p := RelV.inj ra (show RelV (.ref p) (.ref p) from rfl)
        have e2 : u = .ref p := RelV.inj rb (show RelV (.ref p) (.ref p) from rfl)
        rw [e1] at rx
        rw [e2] at ry
        have := det (.ref p) r rx ry e
        subst this
        exact EqAt.same (A := A) (s := s) (.ref p) X.prog X.w X.xe _ ⟨rfl, κ, H, Stp.rfl', rs, I⟩
      · exact GB.eqBool_refB hb (wpAny_mono h (fun k s' ⟨hk, g⟩ => ⟨r, hk, rfl, g⟩) fun _ _ z => z)
    by_cases ht : ∃ xs ys, x = .tup xs ∧ y = .tup ys
    · obtain ⟨xs, ys, rfl, rfl⟩ := ht
      have h := (rcTup (r := r) ih hT hr hA I rs rx ry ra rb e).1
      unfold RV at rx
      obtain ⟨p, vs, rfl, _⟩ := rx
      cases ra
      exact viaR p rfl h
    by_cases hl : ∃ xs ys, x = .lst xs ∧ y = .lst ys
    · obtain ⟨xs, ys, rfl, rfl⟩ := hl
      have h := (rcLst (r := r) ih hT hr hA I rs rx ry ra rb e).1
      unfold RV at rx
      obtain ⟨p, vs, rfl, _⟩ := rx
      cases ra
      exact viaR p rfl h
    by_cases ho : ∃ c fs, x = .obj c fs
    · obtain ⟨c, fs, rfl⟩ := ho
      unfold eqF at e
      dsimp only at e
      split at e
      · rename_i hc
        subst hc
        have h := rcObj (r := r) (A := A) F tk hkq (hr.mono (by omega)) hA I rs rx ry ra rb e
        unfold RV at rx
        obtain ⟨p, dx, vs, rfl, _⟩ := rx
        cases ra
        exact viaR p rfl h
      · cases e
    by_cases hy : ∃ c fs, y = .obj c fs
    · obtain ⟨c, fs, rfl⟩ := hy
      have e' : (if c = Φ.q then eqQ Φ.q fs x else none) = some r := by
        cases x with
        | obj c fs => exact absurd ⟨c, fs, rfl⟩ ho
        | _ => exact e
      split at e'
      · rename_i hc
        subst hc
        have px := (eqQ_plain (fun c fs z => ho ⟨c, fs, z⟩) e').1
        obtain ⟨pb, hpb⟩ : ∃ p, b = .ref p := by
          have ry := ry
          unfold RV at ry
          obtain ⟨p, _, _, rfl, _⟩ := ry
          cases rb
          exact ⟨p, rfl⟩
        subst hpb
        have h := (rcPln (r := r) (A := A) F tk hkq (hr.mono (by omega)) hA I rs rx ry ra rb px e').1
        have hab : a ≠ .ref pb := fun z => by
          subst z
          have e1 := RelV.inj ra rb
          subst e1
          exact obj_plain hT I ry rx px
        exact GB.eqBool_any hab (wpAny_mono h (fun k s' ⟨hk, g⟩ => ⟨r, hk, rfl, g⟩) fun _ _ z => z)
      · cases e'
    · have e' : (if (plainI x && plainI y) = true then some (eq0 x y) else none) = some r := by
        cases x with
        | obj c fs => exact absurd ⟨c, fs, rfl⟩ ho
        | tup xs => cases y with
          | tup ys => exact absurd ⟨xs, ys, rfl, rfl⟩ ht
          | obj c fs => exact absurd ⟨c, fs, rfl⟩ hy
          | _ => exact e
        | lst xs => cases y with
          | lst ys => exact absurd ⟨xs, ys, rfl, rfl⟩ hl
          | obj c fs => exact absurd ⟨c, fs, rfl⟩ hy
          | _ => exact e
        | _ => cases y <;> first | exact e | exact absurd ⟨_, _, rfl⟩ hy
      split at e'
      · rename_i hp
        rw [Bool.and_eq_true] at hp
        injection e' with e'
        subst e'
        exact (pk_eq hr.units0 (pk_of hT I hp.1 rx ra) (pk_of hT I hp.2 ry rb) (fun xs ys z => ht ⟨xs, ys, z⟩) (fun xs ys z => hl ⟨xs, ys, z⟩)).1 X.prog X.w _ _ ⟨rfl, κ, H, Stp.rfl', rs, I⟩
      · cases e'
end
end EG

-- EngI
/-! Engine I: the operators. -/
namespace EG
open PySem PySem.Spec L2 PyProof.Rows PySem.SeqAt
section
variable {T : CT} {Φ : Fns} {J : TX} {lv : Nat} {W : WX} {X : Cx} {S : Addr → Prop} {κ : List Addr} {H : Hp} {env : Env} {cs : Cs} {σ : L2.St} {fr : Bool} {Q : VK} {N : List Str} {sc : Scope} {pins : List (Addr × Obj)} {s : Shared} {A : Around}

theorem rcObjNe {fs : List IV} {y : IV} {r : Bool} {A : Around} {v u : V} {a b : Value} (F : Fs T Φ J lv X) (tk : Takes X W) (hkq : Φ.eqk = true) (hr : Room (lv + 1) A) (hA : A.frames = X.A.frames) (I : Inv X pins σ H s) (rs : RS T S κ H cs)
    (hx : RV T S κ H (.obj Φ.q fs) v) (hy : RV T S κ H y u) (ra : RelV v a) (rb : RelV u b) (e : eqQ Φ.q fs y = some r) : wpAny (model X.prog X.w) A (richCompare .NotEq a b) (fun k s' => k = .bool (!r) ∧ Go T S κ H cs X pins σ s') X.xe s := by
  obtain ⟨t, bb, rfl⟩ := eqQ_shape e
  obtain ⟨hf, hfi, hfn, hps, hfr⟩ := F.qo ("__eq__", Φ.eq) (by simp)
  have rxs := RVs.cons hx (RVs.cons hy RVs.nil)
  have hsem := F.qs hkq t bb y cs r e
  unfold RV at hx
  obtain ⟨p, dx, vs, rfl, hp1, _, _, _⟩ := hx
  cases ra
  obtain ⟨mA, Jx, _⟩ := ins_get I.hok hp1
  obtain ⟨od, Jx, _⟩ := Jx.look
  have hb : ∃ tb, PySem.W.Looks (model X.prog X.w) s.heap (typeOf b) tb ∧ PySem.W.notFirst X.K (T.cls Φ.q) tb = true := by
    by_cases py : plainI y = true
    · obtain ⟨n, hn, ht⟩ := typeB F.K.symm I py hy rb
      exact ⟨_, looks_type ht, by unfold PySem.W.notFirst; rw [F.qn n hn]; simp⟩
    · unfold eqQ at e
      split at e
      · rename_i hs hfs1
        split at e
        · rename_i hc
          unfold RV at hy
          obtain ⟨p', dx', vs', rfl, hp2, _, _, _⟩ := hy
          cases rb
          rw [hc] at hp2
          obtain ⟨mB, Jy, _⟩ := ins_get I.hok hp2
          obtain ⟨od', Jy, _⟩ := Jy.look
          exact ⟨_, Jy.type, by simp [PySem.W.notFirst]⟩
        · cases e
      · rw [if_neg py] at e; cases e
      · cases e
  obtain ⟨tb, hb1, hb2⟩ := hb
  refine wpAny_mono (ne_K (r := r) (P := fun s' => Go T S κ H cs X pins σ s') (by have := hr.un; omega) I.kIn Jx hb1 hb2 F.qne F.qob hfi hfn ?_) (fun v s' q => q) fun _ _ z => z
  refine wpAny_mono (callFA (W := W) (S := S) (κ := κ) (cs := cs) (Q := fun v' H' => v' = .bl r ∧ ∃ κ', Stp κ H κ' H' ∧ RS T S κ' H' cs) F hf (Room.in1 (k := lv) hr) hA tk I rs rxs (.cons rfl (.cons rb .nil)) (by rw [hps]; rfl) (by
    rw [hfr, hsem]
    intro κ' H' v' st rs' rv' _
    unfold RV at rv'
    exact ⟨rv', κ', st, rs'⟩)) (fun k s' q => ?_) fun _ _ z => z
  obtain ⟨v', H', I', rv', ev, κ', st, rs'⟩ := q
  subst ev
  cases rv'
  exact ⟨rfl, κ', H', st, rs', I'⟩
theorem go_ep {r : Bool} {k : Value} {s' : Shared} (w : Wp T S (fun c d H' => W c d σ H') κ H false (.ok (.bl r) cs) Q) (hk : k = .bool r) (g : Go T S κ H cs X pins σ s') : EP X pins σ Q k s' := by
  obtain ⟨κ', H', st, rs, I⟩ := g
  subst hk
  exact ⟨.bl r, H', I, rfl, (w.step st).ok rs rv_bl⟩
theorem eq_both (O : CxOk T Φ J lv N sc X) (tk : Takes X W) (hkq : Φ.eqk = true) {x y : IV} {r : Bool} {v u : V} {a b : Value} (I : Inv X pins σ H s) (rs : RS T S κ H cs) (rx : RV T S κ H x v) (ry : RV T S κ H y u) (ra : RelV v a) (rb : RelV u b) (e : eqI Φ.q x y = some r) :
    wpAny (model X.prog X.w) X.A (richCompare .Eq a b) (fun k s' => k = .bool r ∧ Go T S κ H cs X pins σ s') X.xe s ∧ wpAny (model X.prog X.w) X.A (richCompare .NotEq a b) (fun k s' => k = .bool (!r) ∧ Go T S κ H cs X pins σ s') X.xe s := by
  have ih : EqAtI T X Φ.q 11 lv := eqAtI_all O.fs tk hkq 11
  have hT := O.fs.K.symm
  have hr : Room (lv + (11 + 1)) X.A := O.room.mono (by omega)
  unfold eqI at e
  by_cases ht : ∃ xs ys, x = .tup xs ∧ y = .tup ys
  · obtain ⟨xs, ys, rfl, rfl⟩ := ht
    exact rcTup (r := r) ih hT hr rfl I rs rx ry ra rb e
  by_cases hl : ∃ xs ys, x = .lst xs ∧ y = .lst ys
  · obtain ⟨xs, ys, rfl, rfl⟩ := hl
    exact rcLst (r := r) ih hT hr rfl I rs rx ry ra rb e
  by_cases ho : ∃ c fs, x = .obj c fs
  · obtain ⟨c, fs, rfl⟩ := ho
    unfold eqF at e
    dsimp only at e
    split at e
    · rename_i hc
      subst hc
      exact ⟨rcObj (r := r) O.fs tk hkq (hr.mono (by omega)) rfl I rs rx ry ra rb e, rcObjNe (r := r) O.fs tk hkq (hr.mono (by omega)) rfl I rs rx ry ra rb e⟩
    · cases e
  by_cases hy : ∃ c fs, y = .obj c fs
  · obtain ⟨c, fs, rfl⟩ := hy
    have e' : (if c = Φ.q then eqQ Φ.q fs x else none) = some r := by
      cases x with
      | obj c fs => exact absurd ⟨c, fs, rfl⟩ ho
      | _ => exact e
    split at e'
    · rename_i hc
      subst hc
      exact rcPln (r := r) O.fs tk hkq (hr.mono (by omega)) rfl I rs rx ry ra rb (eqQ_plain (fun c fs z => ho ⟨c, fs, z⟩) e').1 e'
    · cases e'
  · have e' : (if (plainI x && plainI y) = true then some (eq0 x y) else none) = some r := by
      cases x with
      | obj c fs => exact absurd ⟨c, fs, rfl⟩ ho
      | tup xs => cases y with
        | tup ys => exact absurd ⟨xs, ys, rfl, rfl⟩ ht
        | obj c fs => exact absurd ⟨c, fs, rfl⟩ hy
        | _ => exact e
      | lst xs => cases y with
        | lst ys => exact absurd ⟨xs, ys, rfl, rfl⟩ hl
        | obj c fs => exact absurd ⟨c, fs, rfl⟩ hy
        | _ => exact e
      | _ => cases y <;> first | exact e | exact absurd ⟨_, _, rfl⟩ hy
    split at e'
    · rename_i hp
      rw [Bool.and_eq_true] at hp
      injection e' with e'
      subst e'
      obtain ⟨_, h1, h2⟩ := pk_eq hr.units0 (pk_of hT I hp.1 rx ra) (pk_of hT I hp.2 ry rb) (fun xs ys z => ht ⟨xs, ys, z⟩) (fun xs ys z => hl ⟨xs, ys, z⟩)
      exact ⟨h1 X.prog X.w _ _ ⟨rfl, κ, H, Stp.rfl', rs, I⟩, h2 X.prog X.w _ _ ⟨rfl, κ, H, Stp.rfl', rs, I⟩⟩
    · cases e'
theorem ops_eq1 (O : CxOk T Φ J lv N sc X) (tk : Takes X W) (hkq : Φ.eqk = true) : OpS T W X (compareOp .Eq) fun x y cs => (R.ofO (eqI Φ.q x y) cs).bind fun b cs => .ok (.bl b) cs := by
  intro pins s σ H S κ cs x y v u a b Q I rs rx ry ra rb w
  obtain ⟨r, e, w⟩ := w.ofOb
  show wpAny _ _ (richCompare .Eq a b) _ _ _
  exact wpAny_mono (eq_both O tk hkq I rs rx ry ra rb e).1 (fun k s' ⟨hk, g⟩ => go_ep w hk g) fun _ _ z => z
theorem ops_ne1 (O : CxOk T Φ J lv N sc X) (tk : Takes X W) (hkq : Φ.eqk = true) : OpS T W X (compareOp .NotEq) fun x y cs => (R.ofO (eqI Φ.q x y) cs).bind fun b cs => .ok (.bl (!b)) cs := by
  intro pins s σ H S κ cs x y v u a b Q I rs rx ry ra rb w
  obtain ⟨r, e, w⟩ := w.ofOb
  show wpAny _ _ (richCompare .NotEq a b) _ _ _
  exact wpAny_mono (eq_both O tk hkq I rs rx ry ra rb e).2 (fun k s' ⟨hk, g⟩ => go_ep w hk g) fun _ _ z => z
theorem eqInt (i j : Int) : (i == j) = decide (i = j) := by
  by_cases h : i = j <;> simp [h]
theorem ops_eq (O : CxOk T Φ J lv N sc X) (tk : Takes X W) : OpS T W X (compareOp .Eq) fun x y cs => (R.ofO (eqG Φ x y) cs).bind fun b cs => .ok (.bl b) cs := by
  cases hkq : Φ.eqk with
  | true =>
    have := ops_eq1 O tk hkq
    unfold eqG
    simp only [hkq, if_pos]
    exact this
  | false =>
    unfold eqG
    simp only [hkq, if_neg Bool.false_ne_true]
    refine OpS.of op_eq fun σ H S κ cs x y v u Q rs rx ry w => ?_
    cases x with
    | int i => cases y with
      | int j =>
        unfold RV at rx ry
        subst rx ry
        have := Wp.ok (x := .bl (i == j)) w rs rv_bl
        exact ⟨rfl, by rw [dec_int]; exact this⟩
      | _ => exact w.elim
    | _ => cases y <;> exact w.elim
theorem ops_ne (O : CxOk T Φ J lv N sc X) (tk : Takes X W) : OpS T W X (compareOp .NotEq) fun x y cs => (R.ofO (eqG Φ x y) cs).bind fun b cs => .ok (.bl (!b)) cs := by
  cases hkq : Φ.eqk with
  | true =>
    have := ops_ne1 O tk hkq
    unfold eqG
    simp only [hkq, if_pos]
    exact this
  | false =>
    unfold eqG
    simp only [hkq, if_neg Bool.false_ne_true]
    refine OpS.of op_ne fun σ H S κ cs x y v u Q rs rx ry w => ?_
    cases x with
    | int i => cases y with
      | int j =>
        unfold RV at rx ry
        subst rx ry
        have := Wp.ok (x := .bl (!(i == j))) w rs rv_bl
        exact ⟨rfl, by rw [dec_int]; exact this⟩
      | _ => exact w.elim
    | _ => cases y <;> exact w.elim

/-! ### in -/
theorem scal_v {x : IV} {v : V} (p : scalI x = true) (r : RV T S κ H x v) : flatV v = true := by
  cases x <;> first | exact Bool.noConfusion p | (unfold RV at r; subst r; rfl)
theorem scal_eq {x y : IV} {v u : V} (p : scalI x = true) (p' : scalI y = true) (r : RV T S κ H x v) (r' : RV T S κ H y u) : eqV v u = eq0 x y := by
  cases x <;> first | exact Bool.noConfusion p | (cases y <;> first | exact Bool.noConfusion p' | (unfold RV at r r'; subst r r'; rfl))
theorem scal_any {x : IV} {v : V} (p : scalI x = true) (r : RV T S κ H x v) : ∀ {ys : List IV} {us : List V}, ys.all scalI = true → RVs T S κ H ys us → us.all flatV = true ∧ inV v us = ys.any fun y => eq0 y x
  | [], us, _, h => by unfold RVs at h; subst h; exact ⟨rfl, rfl⟩
  | y :: ys, us, q, h => by
    rw [List.all_cons, Bool.and_eq_true] at q
    unfold RVs at h
    obtain ⟨u, t, rfl, h1, h2⟩ := h
    obtain ⟨e1, e2⟩ := scal_any p r q.2 h2
    refine ⟨by rw [List.all_cons, scal_v q.1 h1, e1]; rfl, ?_⟩
    show ((u :: t).any fun y => eqV y v) = _
    rw [List.any_cons, List.any_cons, scal_eq q.1 p h1 r]
    rw [← e2]; rfl
def hIn (Φ : Fns) (neg : Bool) : IV → IV → Cs → R IV := fun x y cs => match y with
  | .tup ys => (R.ofO (orI (inI x ys) (inQ Φ x ys)) cs).bind fun b cs => .ok (.bl (if neg then !b else b)) cs
  | .lst ys => (R.ofO (orI (inI x ys) (inQ Φ x ys)) cs).bind fun b cs => .ok (.bl (if neg then !b else b)) cs
  | _ => .stuck
theorem inE_all {f : IV → IV → Option Bool} {x : IV} : ∀ (ys : List IV) (r : Bool), inE f x ys = some r → ∃ e : Nat → Bool, (List.range ys.length).any e = r ∧
    ∀ i, i < ys.length → (∀ j, j < i → e j = false) → ∀ y, ys[i]? = some y → f y x = some (e i)
  | [], r, h => ⟨fun _ => false, by simpa [inE] using h, fun i h1 => absurd h1 (Nat.not_lt_zero _)⟩
  | y :: ys, r, h => by
    unfold inE at h
    cases hf : f y x with
    | none => rw [hf] at h; cases h
    | some c =>
      rw [hf] at h
      cases c with
      | true =>
        have hr : r = true := (Option.some.inj h).symm
        subst hr
        refine ⟨fun _ => true, ?_, fun i h1 hp y' e1 => ?_⟩
        · rw [List.any_eq_true]; exact ⟨0, by simp, rfl⟩
        · cases i with
          | zero => simp at e1; subst e1; exact hf
          | succ i => exact absurd (hp 0 (Nat.succ_pos _)) (by simp)
      | false =>
        obtain ⟨e, h1, h2⟩ := inE_all ys r h
        refine ⟨fun i => match i with | 0 => false | i + 1 => e i, ?_, fun i l1 hp y' e1 => ?_⟩
        · rw [← h1, List.length_cons, List.range_succ_eq_map, List.any_cons, List.any_map]
          simp only [Function.comp_def, Bool.false_or]
        · cases i with
          | zero => simp at e1; subst e1; exact hf
          | succ i => exact h2 i (by simpa using l1) (fun j hj => hp (j + 1) (by omega)) y' (by simpa using e1)
theorem in_turn {n : Nat} (ih : EqAtI T X Φ.q n lv) {A : Around} (hr : Room (lv + (n + 1)) A) (hA : A.frames = X.A.frames) {ys : List IV} {x : IV} {us : List V} {v : V} {its : List Value} {a : Value} (h1 : RVs T S κ H ys us) (hx : RV T S κ H x v) (r1 : Vals us its) (ra : RelV v a) {e : Nat → Bool}
    (he : ∀ i, i < ys.length → (∀ j, j < i → e j = false) → ∀ y, ys[i]? = some y → eqF Φ.q n y x = some (e i)) (i : Nat) (l1 : i < its.toArray.size) (s' : Shared) (hp : ∀ j, j < i → e j = false) (g : Go T S κ H cs X pins σ s') :
    wpAny (model X.prog X.w) A.in1 (eqBool its.toArray[i] a) (fun k s2 => k = e i ∧ Go T S κ H cs X pins σ s2) X.xe s' := by
  obtain ⟨κ1, H1, st, rs1, I1⟩ := g
  have k1 : i < its.length := by simpa using l1
  have k3 : i < us.length := by rw [r1.length]; exact k1
  obtain ⟨u, hv, rv⟩ := r1.get (List.getElem?_eq_getElem k3)
  obtain ⟨y, hy, ry⟩ := h1.get' (List.getElem?_eq_getElem k3)
  have e1 : its.toArray[i] = u := by
    have : its[i]? = some its.toArray[i] := by rw [List.getElem?_eq_getElem k1]; simp
    rw [hv] at this; exact (Option.some.inj this).symm
  rw [e1]
  have hee := he i (List.getElem?_eq_some_iff.mp hy).1 hp y hy
  refine wpAny_mono (ih y x (e i) hee A.in1 (Room.in1 (k := lv + n) hr) hA pins s' σ H1 S κ1 cs _ _ u a I1 rs1 (st.mv.rv _ _ ry) (st.mv.rv _ _ hx) rv ra) (fun k s2 ⟨hk, g2⟩ => ⟨hk, g2.trans st⟩) fun _ _ z => z
theorem in_r {neg : Bool} {x y : IV} {v u : V} {cs : Cs} (hT : T.K = X.K) (rs : RS T S κ H cs) (rx : RV T S κ H x v) (k : Bool) {ys : List IV} {p : Addr} {us : List V} (e : u = .ref p) (q : SqL X.K H p us ∨ SqT X.K H p us) (r : RVs T S κ H ys us) (ek : inI x ys = some k) (w : Wp T S (fun c d H' => W c d σ H') κ H false (.ok (.bl (if neg then !k else k)) cs) Q) : rIn X.K neg v u H Q := by
  unfold inI at ek
  split at ek
  · rename_i hp
    rw [Bool.and_eq_true] at hp
    obtain ⟨h1, h2⟩ := scal_any hp.1 rx hp.2 r
    injection ek with ek
    subst ek
    refine ⟨p, us, e, q, scal_v hp.1 rx, h1, ?_⟩
    rw [h2]
    exact w.ok rs rv_bl
  · cases ek
theorem ops_inB (O : CxOk T Φ J lv N sc X) (tk : Takes X W) (neg : Bool) : OpS T W X (compareOp (if neg then .NotIn else .In)) (hIn Φ neg) := by
  intro pins s σ H S κ cs x y v u a b Q I rs rx ry ra rb w
  have fin : ∀ (p : Addr) (ys : List IV) (us : List V), u = .ref p → (SqL X.K H p us ∨ SqT X.K H p us) → (y = .tup ys ∨ y = .lst ys) → RVs T S κ H ys us → Wp T S (fun c d H' => W c d σ H') κ H false ((R.ofO (orI (inI x ys) (inQ Φ x ys)) cs).bind fun b cs => .ok (.bl (if neg then !b else b)) cs) Q → wpAny (model X.prog X.w) X.A (compareOp (if neg then .NotIn else .In) a b) (EP X pins σ Q) X.xe s := by
    intro p ys us e q hy r w
    obtain ⟨k, ek, w⟩ := w.ofOb
    cases hi : inI x ys with
    | some k' =>
      rw [hi] at ek
      cases ek
      have h := in_r (neg := neg) (y := y) O.fs.K.symm rs rx k e q r hi w
      cases neg with
      | false => exact op_in_seq pins s σ H v u a b Q I ra rb h
      | true => exact op_notIn_seq pins s σ H v u a b Q I ra rb h
    | none =>
      rw [hi] at ek
      have ek : inQ Φ x ys = some k := ek
      unfold inQ at ek
      split at ek
      · rename_i hkq
        obtain ⟨ev, hev, he⟩ := inE_all ys k ek
        have ih : EqAtI T X Φ.q 12 lv := eqAtI_all O.fs tk hkq 12
        have hr : Room (lv + (12 + 1)) X.A := O.room.mono (by omega)
        have g0 : Go T S κ H cs X pins σ s := ⟨κ, H, Stp.rfl', rs, I⟩
        have done : ∀ k' s', k' = .bool (if neg then !k else k) → Go T S κ H cs X pins σ s' → EP X pins σ Q k' s' := fun k' s' hk g => go_ep w hk g
        rcases hy with rfl | rfl
        · obtain ⟨p', us', e', q', r'⟩ := rv_ref_tup ry
          rw [e] at e'; cases e'
          subst e
          cases rb
          rw [O.fs.K.symm] at q'
          obtain ⟨its, rv, ht, _⟩ := I.tuple q'
          have hs : its.toArray.size = ys.length := by rw [List.size_toArray, ← rv.length, r'.len]
          refine GB.in_tupB neg (fun s' => Go T S κ H cs X pins σ s') ev ht (fun i l1 s' hp g => in_turn ih hr rfl r' rx rv ra he i l1 s' hp g) (fun s' g => done _ s' ?_ g) g0
          rw [hs, hev]
        · obtain ⟨p', us', e', q', r'⟩ := rv_ref_lst ry
          rw [e] at e'; cases e'
          subst e
          cases rb
          obtain ⟨z1, its, n1, rv, ht⟩ := I.hok p _ q'.1
          have hlen : us'.length = ys.length := r'.len.symm
          refine GB.in_lstB (N := us'.length) neg (fun s' => Go T S κ H cs X pins σ s') ev (fun i s' hp g => ?_) (fun s' g => done _ s' ?_ g) g0
          · obtain ⟨κ', H', st, rs', I'⟩ := id g
            obtain ⟨_, jts, m1, jv, jt⟩ := I'.hok p _ (st.evo p _ q'.1 (.inr q'.2.2))
            exact ⟨jts.toArray, m1, jt, by rw [List.size_toArray, ← jv.length], fun l1 => in_turn ih hr rfl r' rx jv ra he i l1 s' hp g⟩
          · rw [hlen, hev]
      · cases ek
  cases y with
  | tup ys =>
    obtain ⟨p, us, e, q, r⟩ := rv_ref_tup ry
    exact fin p ys us e (.inr (O.fs.K.symm ▸ q)) (.inl rfl) r w
  | lst ys =>
    obtain ⟨p, us, e, q, r⟩ := rv_ref_lst ry
    exact fin p ys us e (.inl q.sql) (.inr rfl) r w
  | _ => exact w.elim
theorem ops_in (O : CxOk T Φ J lv N sc X) (tk : Takes X W) : OpS T W X (compareOp .In) (hIn Φ false) := ops_inB O tk false
theorem ops_notin (O : CxOk T Φ J lv N sc X) (tk : Takes X W) : OpS T W X (compareOp .NotIn) (hIn Φ true) := ops_inB O tk true
def hInS : IV → IV → Cs → R IV := fun x y cs => match x, y with
  | .str x, .str y => .ok (.bl (!(Builtin.Str.occurrences y x 0 y.length 1).isEmpty)) cs
  | _, _ => .stuck
theorem ops_inS : OpS T W X (compareOp .In) hInS := OpS.of op_in_str fun σ H S κ cs x y v u Q rs rx ry w => by
  cases x <;> cases y <;> first
    | exact w.elim
    | (unfold RV at rx ry; exact ⟨_, _, rx, ry, w.ok rs rv_bl⟩)
def hCmpI (p : Int → Int → Bool) : IV → IV → Cs → R IV := fun x y cs => match x, y with
  | .int i, .int j => .ok (.bl (p i j)) cs
  | _, _ => .stuck
theorem ops_cmpI {op : CmpOp} {p : Int → Int → Bool} (o : OpR X (compareOp op) (rI0 fun i j => .bl (p i j))) : OpS T W X (compareOp op) (hCmpI p) :=
  ops_int (C := fun _ _ => True) (OpR.ri o) (g' := fun i j => .bl (p i j)) (fun _ _ _ _ _ => rv_bl) fun x y cs => by
    cases x <;> first | exact .inl rfl | (cases y <;> first | exact .inl rfl | exact .inr ⟨_, _, rfl, rfl, trivial, rfl⟩)
/-- every comparison -/
theorem ops_cmp (O : CxOk T Φ J lv N sc X) (tk : Takes X W) (op : CmpOp) (h : op ≠ .Is ∧ op ≠ .IsNot) : OpS T W X (compareOp op) (cmpI Φ op) := by
  cases op with
  | Eq => exact ops_eq O tk
  | NotEq => exact ops_ne O tk
  | Is => exact absurd rfl h.1
  | IsNot => exact absurd rfl h.2
  | Gt => exact (ops_cmpI (p := fun i j => decide (j < i)) op_gt).or (ops_cmpI (p := fun i j => decide (j < i)) op_gt) fun x y cs => by cases x <;> first | exact .inl rfl | (cases y <;> exact .inl rfl)
  | GtE => exact (ops_cmpI (p := fun i j => decide (j ≤ i)) op_ge).or (ops_cmpI (p := fun i j => decide (j ≤ i)) op_ge) fun x y cs => by cases x <;> first | exact .inl rfl | (cases y <;> exact .inl rfl)
  | Lt => exact (ops_cmpI (p := fun i j => decide (i < j)) op_lt).or (ops_qc (op := .Lt) (f := Φ.lt) (fun _ _ => rfl) O tk (by simp [cmpInfo])) fun x y cs => by cases x <;> first | exact .inl rfl | (cases y <;> first | exact .inl rfl | exact .inr rfl)
  | LtE => exact (ops_cmpI (p := fun i j => decide (i ≤ j)) op_le).or (ops_qc (op := .LtE) (f := Φ.le) (fun _ _ => rfl) O tk (by simp [cmpInfo])) fun x y cs => by cases x <;> first | exact .inl rfl | (cases y <;> first | exact .inl rfl | exact .inr rfl)
  | In => exact (ops_in O tk).or ops_inS fun x y cs => by cases y <;> first | exact .inl rfl | (cases x <;> first | exact .inl rfl | exact .inr rfl)
  | NotIn => exact (ops_notin O tk).or (ops_notin O tk) fun x y cs => by cases y <;> first | exact .inl rfl | (cases x <;> exact .inl rfl)
end
end EG

-- EngJ
/-! Engine J: arithmetic, calls, fields, built-ins. -/
namespace EG
open PySem PySem.Spec L2 PyProof.Rows
section
variable {T : CT} {Φ : Fns} {J : TX} {lv : Nat} {W : WX} {X : Cx} {S : Addr → Prop} {κ : List Addr} {H : Hp} {env : Env} {cs : Cs} {σ : L2.St} {fr : Bool} {Q : VK} {N : List Str} {sc : Scope} {pins : List (Addr × Obj)} {s : Shared} {A : Around}
def hI (C : Int → Int → Bool) (g : Int → Int → Int) : IV → IV → Cs → R IV := fun x y cs => match x, y with
  | .int i, .int j => if C i j = true then .ok (.int (g i j)) cs else .stuck
  | _, _ => .stuck
theorem ops_hI {fop : Value → Value → Sem Value} {C : Int → Int → Prop} {C' : Int → Int → Bool} {g : Int → Int → Int} (o : OpR X fop (rI C fun i j => .int (g i j))) (hc : ∀ i j, C' i j = true → C i j) : OpS T W X fop (hI C' g) :=
  ops_int o (g' := fun i j => .int (g i j)) (fun _ _ _ _ _ => rv_int) fun x y cs => by
    cases x <;> first | exact .inl rfl | (cases y <;> first | exact .inl rfl | skip)
    rename_i i j
    cases h : C' i j with
    | false => exact .inl (by show (if C' i j = true then _ else _) = _; rw [h]; rfl)
    | true => exact .inr ⟨i, j, rfl, rfl, hc i j h, by show (if C' i j = true then _ else _) = _; rw [h]; rfl⟩
def hAddT : IV → IV → Cs → R IV := fun x y cs => match x, y with
  | .tup xs, .tup ys => if xs.length + ys.length ≤ 1000000 then .ok (.tup (xs ++ ys)) cs else .stuck
  | _, _ => .stuck
def hAddL : IV → IV → Cs → R IV := fun x y cs => match x, y with
  | .lst xs, .lst ys => if xs.length + ys.length ≤ 1000000 then .ok (.lst (xs ++ ys)) cs else .stuck
  | _, _ => .stuck
def hAddS : IV → IV → Cs → R IV := fun x y cs => match x, y with
  | .str a, .str b => if a.length + b.length ≤ 1000000 then .ok (.str (a ++ b)) cs else .stuck
  | _, _ => .stuck
theorem line6 : (1000000 : Nat) ≤ sizeLine := by rw [sizeLine_eq]; decide
theorem ops_addT (hT : T.K = X.K) : OpS T W X (binaryOp .Add) hAddT := OpS.of op_catA fun σ H S κ cs x y v u Q rs rx ry w => by
  cases x <;> first | exact w.elim | skip
  cases y <;> first | exact w.elim | skip
  rename_i xs ys
  unfold hAddT at w
  dsimp only at w
  split at w
  · rename_i hl
    obtain ⟨a, vs, rfl, q1, r1⟩ := rv_ref_tup rx
    obtain ⟨b, us, rfl, q2, r2⟩ := rv_ref_tup ry
    refine ⟨a, b, vs, us, rfl, rfl, hT ▸ q1, hT ▸ q2, by rw [← r1.len, ← r2.len]; exact Nat.le_trans hl line6, fun e => ?_, fun _ e => ?_, fun _ _ p hp => w.newTup rs (r1.append r2) hp⟩
    · refine w.ok rs ?_
      have : xs = [] := List.eq_nil_of_length_eq_zero (by rw [r1.len, e]; rfl)
      rw [this, List.nil_append]; exact ry
    · refine w.ok rs ?_
      have : ys = [] := List.eq_nil_of_length_eq_zero (by rw [r2.len, e]; rfl)
      rw [this, List.append_nil]; exact rx
  · exact w.elim
theorem ops_addL : OpS T W X (binaryOp .Add) hAddL := OpS.of op_cat fun σ H S κ cs x y v u Q rs rx ry w => by
  cases x <;> first | exact w.elim | skip
  cases y <;> first | exact w.elim | skip
  rename_i xs ys
  unfold hAddL at w
  dsimp only at w
  split at w
  · rename_i hl
    obtain ⟨a, vs, rfl, q1, r1⟩ := rv_ref_lst rx
    obtain ⟨b, us, rfl, q2, r2⟩ := rv_ref_lst ry
    exact ⟨a, b, vs, us, rfl, rfl, q1.1, q2.1, by rw [← r1.len, ← r2.len]; exact Nat.le_trans hl line6, fun p hp => w.newLst rs (r1.append r2) hp⟩
  · exact w.elim
theorem ops_addS : OpS T W X (binaryOp .Add) hAddS := OpS.of op_add_str fun σ H S κ cs x y v u Q rs rx ry w => by
  cases x <;> first | exact w.elim | skip
  cases y <;> first | exact w.elim | skip
  unfold hAddS at w
  dsimp only at w
  split at w
  · rename_i hl
    unfold RV at rx ry
    exact ⟨_, _, rx, ry, Nat.le_trans hl line6, w.ok rs rv_str⟩
  · exact w.elim
def hMulT : IV → IV → Cs → R IV := fun x y cs => match x, y with
  | .tup xs, .int k => if xs.isEmpty = false ∧ 2 ≤ k ∧ k ≤ 1000 ∧ xs.length ≤ 1000 then .ok (.tup (List.replicate k.toNat xs).flatten) cs else .stuck
  | _, _ => .stuck
theorem RVs.rep {S : Addr → Prop} {κ : List Addr} {H : Hp} {xs : List IV} {vs : List V} (h : RVs T S κ H xs vs) : ∀ n : Nat, RVs T S κ H (List.replicate n xs).flatten (List.replicate n vs).flatten
  | 0 => RVs.nil
  | n + 1 => by
    rw [List.replicate_succ, List.replicate_succ, List.flatten_cons, List.flatten_cons]
    exact h.append (RVs.rep h n)
theorem ops_mulT (hT : T.K = X.K) : OpS T W X (binaryOp .Mult) hMulT := OpS.of op_repT fun σ H S κ cs x y v u Q rs rx ry w => by
  cases x <;> first | exact w.elim | skip
  cases y <;> first | exact w.elim | skip
  rename_i xs k
  unfold hMulT at w
  dsimp only at w
  split at w
  · rename_i hl
    obtain ⟨a, vs, rfl, q1, r1⟩ := rv_ref_tup rx
    unfold RV at ry
    subst ry
    refine ⟨a, k, vs, rfl, rfl, hT ▸ q1, fun e => ?_, hl.2.1, hl.2.2.1, by rw [← r1.len]; exact hl.2.2.2, fun p hp => w.newTup rs (r1.rep k.toNat) hp⟩
    have : xs = [] := List.eq_nil_of_length_eq_zero (by rw [r1.len, e]; rfl)
    rw [this] at hl
    cases hl.1
  · exact w.elim
def hMulL : IV → IV → Cs → R IV := fun x y cs => match x, y with
  | .lst xs, .int k => if 0 ≤ k ∧ k ≤ 1000 ∧ xs.length ≤ 1000 then .ok (.lst (List.replicate k.toNat xs).flatten) cs else .stuck
  | _, _ => .stuck
theorem ops_mulL : OpS T W X (binaryOp .Mult) hMulL := OpS.of op_rep fun σ H S κ cs x y v u Q rs rx ry w => by
  cases x <;> first | exact w.elim | skip
  cases y <;> first | exact w.elim | skip
  rename_i xs k
  unfold hMulL at w
  dsimp only at w
  split at w
  · rename_i hl
    obtain ⟨a, vs, rfl, q1, r1⟩ := rv_ref_lst rx
    unfold RV at ry
    subst ry
    refine ⟨a, k, vs, rfl, rfl, q1.1, by omega, by omega, ?_, fun p hp => w.newLst rs (r1.rep k.toNat) hp⟩
    have h1 := r1.len
    have h2 : vs.length * k.toNat ≤ 1000 * 1000 := Nat.mul_le_mul (by omega) (by omega)
    exact Nat.le_trans h2 line6
  · exact w.elim
def hMulS : IV → IV → Cs → R IV := fun x y cs => match x, y with
  | .str a, .int k => if 0 ≤ k ∧ k ≤ 1000 ∧ a.length ≤ 1000 then .ok (.str (Txt.mul a k)) cs else .stuck
  | _, _ => .stuck
theorem op_mulStr : OpR X (binaryOp .Mult) (fun x y H Q => ∃ i k, x = .str i ∧ y = .int k ∧ (0 ≤ k ∧ k ≤ 1000 ∧ i.length ≤ 1000) ∧ Q (.str (Txt.mul i k)) H) := by
  intro pins s σ H x y v u Q I rx ry h
  obtain ⟨i, k, rfl, rfl, ⟨h0, h1, h2⟩, q⟩ := h
  obtain ⟨t, rfl⟩ := rx
  obtain ⟨t', rfl⟩ := ry
  refine SB.mul ⟨?_, ?_, ?_⟩ (fun t' tk => ⟨.str (Txt.mul i k), H, I.tok _, ⟨_, rfl⟩, q⟩)
  · rw [Bool.or_eq_false_iff]
    exact ⟨decide_eq_false (by omega), decide_eq_false (by omega)⟩
  · intro hk _
    have hk : 1 ≤ k := by omega
    have : (i.length : Int) * k ≤ 2 ^ 63 - 1 := by
      have := Int.mul_le_mul (show (i.length : Int) ≤ 1000 by omega) h1 h0 (by decide)
      omega
    have := (Int.le_ediv_iff_mul_le (show 0 < k by omega)).mpr this
    omega
  · intro hk _
    have : i.length * k.toNat ≤ 1000 * 1000 := Nat.mul_le_mul h2 (by omega)
    have l6 : 1000000 ≤ sizeLine := line6
    exact decide_eq_false (by omega)
theorem ops_mulS : OpS T W X (binaryOp .Mult) hMulS := OpS.of op_mulStr fun σ H S κ cs x y v u Q rs rx ry w => by
  cases x <;> first | exact w.elim | skip
  cases y <;> first | exact w.elim | skip
  unfold hMulS at w
  dsimp only at w
  split at w
  · rename_i hl
    unfold RV at rx ry
    exact ⟨_, _, rx, ry, hl, w.ok rs rv_str⟩
  · exact w.elim
def opOf : BO → Operator
  | .add => .Add | .sub => .Sub | .mul => .Mult | .fdiv => .FloorDiv | .mod => .Mod | .pow => .Pow
theorem OpS.eqv {fop : Value → Value → Sem Value} {h h1 : IV → IV → Cs → R IV} (a : OpS T W X fop h1) (e : ∀ x y cs, h x y cs = h1 x y cs) : OpS T W X fop h := a.or a fun x y cs => .inl (e x y cs)
theorem ops_bin (O : CxOk T Φ J lv N sc X) (tk : Takes X W) (op : BO) : OpS T W X (binaryOp (opOf op)) (binI Φ op) := by
  cases op with
  | add =>
    have h1 : OpS T W X (binaryOp .Add) fun x y cs => match x, y with
        | .int i, .int j => .ok (.int (i + j)) cs
        | x, y => hAddT x y cs :=
      (ops_hI (C' := fun _ _ => true) (OpR.ri op_add) fun _ _ _ => trivial).or (ops_addT O.fs.K.symm) fun x y cs => by cases x <;> first | exact .inr rfl | (cases y <;> first | exact .inl rfl | exact .inr rfl)
    have h2 : OpS T W X (binaryOp .Add) fun x y cs => match x, y with
        | .lst i, .lst j => hAddL (.lst i) (.lst j) cs
        | x, y => hAddS x y cs := ops_addL.or ops_addS fun x y cs => by cases x <;> first | exact .inr rfl | (cases y <;> first | exact .inl rfl | exact .inr rfl)
    have h3 := h2.or (h := fun x y cs => match x, y with
        | .obj a b, .obj c d => hQ2 Φ Φ.add (.obj a b) (.obj c d) cs
        | .lst i, .lst j => hAddL (.lst i) (.lst j) cs
        | x, y => hAddS x y cs) (ops_q2 (op := .Add) (f := Φ.add) O tk (by rw [show PySem.dunder (Operator.info .Add).2 = ("__add__" : Str) by decide +kernel]; simp)) fun x y cs => by cases x <;> first | exact .inl rfl | (cases y <;> first | exact .inl rfl | exact .inr rfl)
    exact h1.or h3 fun x y cs => by cases x <;> first | exact .inl rfl | (cases y <;> first | exact .inl rfl | exact .inr rfl)
  | sub => exact (ops_hI (C' := fun _ _ => true) (OpR.ri op_sub) fun _ _ _ => trivial).or (ops_q2 (op := .Sub) (f := Φ.sub) O tk (by rw [show PySem.dunder (Operator.info .Sub).2 = ("__sub__" : Str) by decide +kernel]; simp)) fun x y cs => by cases x <;> first | exact .inl rfl | (cases y <;> first | exact .inl rfl | exact .inr rfl)
  | mul =>
    have h0 : OpS T W X (binaryOp .Mult) fun x y cs => match x, y with
        | .int i, .int j => if smallW i && smallW j then .ok (.int (i * j)) cs else .stuck
        | x, y => hMulT x y cs :=
      (ops_hI (C' := fun i j => smallW i && smallW j) op_mulX fun i j h => by rw [Bool.and_eq_true] at h; exact smallW_ok h.1 h.2).or (ops_mulT O.fs.K.symm) fun x y cs => by cases x <;> first | exact .inr rfl | (cases y <;> first | exact .inl rfl | exact .inr rfl)
    have h0' : OpS T W X (binaryOp .Mult) fun x y cs => match x, y with
        | .int i, .int j => if smallW i && smallW j then .ok (.int (i * j)) cs else .stuck
        | .tup i, .int j => hMulT (.tup i) (.int j) cs
        | x, y => hMulL x y cs :=
      h0.or ops_mulL fun x y cs => by cases x <;> first | exact .inr rfl | (cases y <;> first | exact .inl rfl | exact .inr rfl)
    have h1' : OpS T W X (binaryOp .Mult) fun x y cs => match x, y with
        | .int i, .int j => if smallW i && smallW j then .ok (.int (i * j)) cs else .stuck
        | .tup i, .int j => hMulT (.tup i) (.int j) cs
        | .str i, .int j => hMulS (.str i) (.int j) cs
        | x, y => hMulL x y cs :=
      h0'.or ops_mulS fun x y cs => by cases x <;> first | exact .inl rfl | (cases y <;> first | exact .inl rfl | exact .inr rfl)
    exact h1'.or (ops_q2 (op := .Mult) (f := Φ.mul) O tk (by rw [show PySem.dunder (Operator.info .Mult).2 = ("__mul__" : Str) by decide +kernel]; simp)) fun x y cs => by cases x <;> first | exact .inl rfl | (cases y <;> first | exact .inl rfl | exact .inr rfl)
  | fdiv =>
    refine OpS.eqv (ops_hI (C' := fun i j => decide (j ≠ 0 ∧ smallI j = true)) op_fdivG fun i j h => ?_) fun x y cs => ?_
    · have h := of_decide_eq_true h
      have h2 : j.natAbs.log2 < 8000 := of_decide_eq_true h.2
      exact ⟨h.1, by omega⟩
    · cases x <;> first | rfl | (cases y <;> first | rfl | skip)
      · show (if _ then _ else _) = (if _ then _ else _); simp only [decide_eq_true_eq]
      · exact ite_self _
  | mod =>
    refine OpS.eqv (ops_hI (C' := fun i j => decide (j ≠ 0)) op_modN fun i j h => of_decide_eq_true h) fun x y cs => ?_
    cases x <;> first | rfl | (cases y <;> first | rfl | skip)
    · show (if _ then _ else _) = (if _ then _ else _); simp only [decide_eq_true_eq]
    · exact ite_self _
  | pow =>
    refine OpS.eqv (ops_hI (C' := fun i j => decide (0 ≤ j ∧ j ≤ 1000 ∧ i.natAbs < 1000)) op_pow fun i j h => ?_) fun x y cs => ?_
    · have h := of_decide_eq_true h
      exact ⟨h.1, by omega, Nat.lt_trans h.2.2 (by decide)⟩
    · cases x <;> first | rfl | (cases y <;> first | rfl | skip)
      · show (if _ then _ else _) = (if _ then _ else _); simp only [decide_eq_true_eq]
      · exact ite_self _
end
end EG

-- EngK
/-! Engine K: calls, fields, built-ins, tests. -/
namespace EG
open PySem PySem.Spec L2 PyProof.Rows
section
variable {T : CT} {Φ : Fns} {J : TX} {lv : Nat} {W : WX} {X : Cx} {S : Addr → Prop} {κ : List Addr} {H : Hp} {env : Env} {cs : Cs} {σ : L2.St} {fr : Bool} {Q : VK} {N : List Str} {sc : Scope} {pins : List (Addr × Obj)} {s : Shared} {A : Around} {e o : Expr} {es : List Expr} {f : Env → Cs → R IV} {g : Env → Cs → R (List IV)} {p pos apos : Pos} {x : Str}

def negI (Φ : Fns) : IV → Cs → R IV := fun x cs => match x with
  | .int i => .ok (.int (-i)) cs
  | .obj c fs => if c = Φ.q then Φ.fn Φ.neg [.obj c fs] cs else .stuck
  | _ => .stuck
theorem se_neg (O : CxOk T Φ J lv N sc X) (tk : Takes X W) (ha : PE X e (tE T W false f)) : PE X (.UnaryOp .USub e pos) (tE T W false fun env cs => (f env cs).bind fun x cs => negI Φ x cs) := by
  refine PE.of fun pins s σ H Q S κ env cs I rs re w => ?_
  refine UnaryOp_ (thn (use ha I rs re w) fun v s1 ⟨vv, H1, I1, r1, x, cs1, κ1, st1, rs1, rv1, w1⟩ => ?_)
  cases x <;> first | exact w1.elim | skip
  · unfold RV at rv1
    subst rv1
    exact un_neg pins s1 σ H1 _ v Q I1 r1 ⟨_, rfl, w1.ok rs1 rv_int⟩
  · rename_i c fs
    unfold negI at w1
    dsimp only at w1
    split at w1
    · rename_i hc
      subst hc
      obtain ⟨hf, hfi, hfn, hps, hfr⟩ := O.fs.qg
      have rxs := RVs.cons rv1 RVs.nil
      unfold RV at rv1
      obtain ⟨q, dx, vs, rfl, hp1, _, _, _⟩ := rv1
      cases r1
      obtain ⟨mA, Jx, _⟩ := ins_get I1.hok hp1
      obtain ⟨od, Jx, _⟩ := Jx.look
      unfold unaryOp
      refine wpAny_holding ?_
      dsimp only
      rw [if_neg (by decide)]
      refine wpAny_bind (PySem.W.special_fn I1.kIn Jx hfi (beq_iff_eq.mp hfn) ?_)
      exact wpAny_mono (callF (W := W) O.fs hf (O.room.mono (by omega)) tk I1 rs1 rxs (.cons rfl .nil) (by rw [hps]; rfl) (by rw [hfr]; exact w1)) (fun u s' q => wpAny_pure q) fun _ _ z => z
    · exact w1.elim
/-- f(..) of the module -/
theorem se_call {n : Nat} (O : CxOk T Φ J lv N sc X) (tk : Takes X W) (hn : n < J.nf) (hm : J.isM n = false) (hg : Gl X (J.fnm n)) (ha : PA X (e :: es) (tA T W g)) (hst : (e :: es).all notStar = true) (hl : ∀ env cs xs cs', g env cs = .ok xs cs' → xs.length = (J.fps n).length)
    (hdb : ((J.fnm n) == ("__debug__" : Str)) = false) : PE X (.Call (.Name (J.fnm n) p) (e :: es) [] pos) (tE T W (J.ffr n) fun env cs => (g env cs).bind fun xs cs => Φ.fn n xs cs) := by
  refine PE.of fun pins s σ H Q S κ env cs I rs re w => ?_
  refine wpAny_Call_Name_kw (ld_glob I hg (O.fs.gl n hn hm) ?_ hdb)
  rw [List.all_cons, Bool.and_eq_true] at hst
  refine PySem.W.callWith_K (h₀ := X.base) I.ok.mod.kin (O.fs.kp n hn) (thn (useA (pos := pos) ha I rs re w) fun us s1 ⟨vs, H1, I1, r, xs, cs1, κ1, eg, st1, rs1, rvs, w1⟩ => ⟨I1.kIn, ?_⟩) (star_cons hst.1) (star_any hst.2)
  exact callF (W := W) O.fs hn (O.room.mono (by omega)) tk I1 rs1 rvs r (hl _ _ _ _ eg) w1
theorem se_call0 {n : Nat} (O : CxOk T Φ J lv N sc X) (tk : Takes X W) (hn : n < J.nf) (hm : J.isM n = false) (hg : Gl X (J.fnm n)) (hl : (J.fps n).length = 0)
    (hdb : ((J.fnm n) == ("__debug__" : Str)) = false) : PE X (.Call (.Name (J.fnm n) p) [] [] pos) (tE T W (J.ffr n) fun env cs => Φ.fn n [] cs) := by
  refine PE.of fun pins s σ H Q S κ env cs I rs re w => ?_
  refine wpAny_Call_Name_kw (ld_glob I hg (O.fs.gl n hn hm) ?_ hdb)
  exact PySem.W.callWith_K0 I.kIn (O.fs.kp n hn) (callF (W := W) (as := []) (us := []) O.fs hn (O.room.mono (by omega)) tk I rs RVs.nil .nil (by rw [hl]; rfl) w)
/-- C(..) -/
theorem se_mk {c : Nat} (O : CxOk T Φ J lv N sc X) (tk : Takes X W) (hn : c < J.nc) (hg : Gl X (J.cnm c)) (ha : PA X (e :: es) (tA T W g)) (hst : (e :: es).all notStar = true) (hl : ∀ env cs xs cs', g env cs = .ok xs cs' → xs.length + 1 = (J.ips c).length)
    (hdb : ((J.cnm c) == ("__debug__" : Str)) = false) : PE X (.Call (.Name (J.cnm c) p) (e :: es) [] pos) (tE T W false fun env cs => (g env cs).bind fun xs cs => mkI Φ c xs cs) := by
  refine PE.of fun pins s σ H Q S κ env cs I rs re w => ?_
  obtain ⟨_, _, M, hmg⟩ := O.fs.ini c hn
  refine wpAny_Call_Name_kw (ld_glob I hg hmg ?_ hdb)
  rw [List.all_cons, Bool.and_eq_true] at hst
  refine PySem.W.callWith_K (h₀ := X.base) I.ok.mod.kin M.kp (thn (useA (pos := pos) ha I rs re w) fun us s1 ⟨vs, H1, I1, r, xs, cs1, κ1, eg, st1, rs1, rvs, w1⟩ => ⟨I1.kIn, ?_⟩) (star_cons hst.1) (star_any hst.2)
  exact runMk (W := W) O.fs hn (O.room.mono (by omega)) tk I1 rs1 rvs r (hl _ _ _ _ eg) w1
theorem zip_lookup {α β : Type} [BEq α] [LawfulBEq α] : ∀ {l : List α} {vs : List β} {k : Nat} {a : α} {v : β}, l.Nodup → l[k]? = some a → vs[k]? = some v → (l.zip vs).lookup a = some v
  | [], _, _, _, _, _, h, _ => by simp at h
  | _ :: _, [], _, _, _, _, _, h => by simp at h
  | b :: l, u :: vs, 0, a, v, nd, h1, h2 => by
    simp at h1 h2
    subst h1 h2
    rw [List.zip_cons_cons, List.lookup_cons]
    simp
  | b :: l, u :: vs, k + 1, a, v, nd, h1, h2 => by
    rw [List.nodup_cons] at nd
    have h1' : l[k]? = some a := by simpa using h1
    have hb : (a == b) = false := by
      cases q : a == b with
      | false => rfl
      | true => rw [eq_of_beq q] at h1'; exact absurd (List.mem_of_getElem? h1') nd.1
    rw [List.zip_cons_cons, List.lookup_cons, hb]
    exact zip_lookup nd.2 h1' (by simpa using h2)
theorem zip_none {α β : Type} [BEq α] [LawfulBEq α] : ∀ {l : List α} {vs : List β} {a : α}, l.contains a = false → (l.zip vs).lookup a = none
  | [], _, _, _ => rfl
  | _ :: _, [], _, _ => rfl
  | b :: l, u :: vs, a, h => by
    rw [List.contains_cons, Bool.or_eq_false_iff] at h
    rw [List.zip_cons_cons, List.lookup_cons, h.1]
    exact zip_none h.2
/-- what an instance is in the heap -/
theorem isOf_heap {c : Nat} {y : IV} {v : V} (rs : RS T S κ H cs) (rv : RV T S κ H y v) (h : isOf c y cs = true) : ∃ a dx vs, v = .ref a ∧ H a = some (.ins (T.cls c) dx ((T.fld c).zip vs)) := by
  cases y <;> first | exact Bool.noConfusion h | skip
  · unfold RV at rv
    obtain ⟨a, dx, vs, e, q, _⟩ := rv
    have hc := eq_of_beq h
    subst hc
    exact ⟨a, dx, vs, e, q⟩
  · rename_i n
    unfold RV at rv
    obtain ⟨a, e, q⟩ := rv
    unfold isOf at h
    dsimp only at h
    split at h
    · rename_i c' fs hcs
      have hc := eq_of_beq h
      subst hc
      obtain ⟨⟨dx, vs, q', _⟩, _⟩ := rs.cel n _ a hcs q
      exact ⟨a, dx, vs, e, q'⟩
    · cases h
/-- o.m(..) -/
theorem se_meth {n : Nat} {pl : Sem Bool} (O : CxOk T Φ J lv N sc X) (tk : Takes X W) (hn : n < J.nf) (hm : J.isM n = true) (hP : notP J.prs n = true) (ho : PE X o (tE T W false f)) (ha : PA X (e :: es) (tA T W g)) (hst : (e :: es).all notStar = true) (hl : ∀ env cs xs cs', g env cs = .ok xs cs' → xs.length + 1 = (J.fps n).length)
    (ht : eval (.Call (.Attribute o (J.fnm n) apos) (e :: es) [] pos) X.env = (do
      let ov ← eval o X.env
      standAt apos.atName
      let (f, first) ← holding [ov] (getMethod ov (J.fnm n) pl)
      callWith pos f first (backTo pos (starEach (e :: es) X.env)) (backToKw pos (keywordEach [] X.env)))) :
    PE X (.Call (.Attribute o (J.fnm n) apos) (e :: es) [] pos) (tE T W (J.ffr n) fun env cs => (f env cs).bind fun x cs => if isOf (J.fcl n) x cs = true then (g env cs).bind fun xs cs => Φ.fn n (x :: xs) cs else .stuck) := by
  refine PE.of fun pins s σ H Q S κ env cs I rs re w => ?_
  obtain ⟨hc, M, hno⟩ := O.fs.me n hn hm hP
  rw [List.all_cons, Bool.and_eq_true] at hst
  refine PySem.W.methodCall_KW (pl := pl) (thn (use ho I rs re w) fun u s1 ⟨vv, H1, I1, r1, y, cs1, κ1, st1, rs1, rv1, w1⟩ => ?_) ht
  split at w1
  · rename_i his
    obtain ⟨a, dx, vs, rfl, ea⟩ := isOf_heap rs1 rv1 his
    cases r1
    refine getmeth_ok I1 ea (O.fs.cl _ hc).1 M (zip_none hno) ?_
    refine PySem.W.callWith_K (first := [.ref a]) (h₀ := X.base) I.ok.mod.kin M.kp (thn (useA (pos := pos) ha I1 rs1 (re.mv st1.mv) w1) fun us s2 ⟨ws, H2, I2, r2, xs, cs2, κ2, eg, st2, rs2, rvs, w2⟩ => ⟨I2.kIn, ?_⟩) (star_cons hst.1) (star_any hst.2)
    exact callF (W := W) (us := .ref a :: us) O.fs hn (O.room.mono (by omega)) tk I2 rs2 (RVs.cons (st2.mv.rv _ _ rv1) rvs) (.cons rfl r2) (by rw [List.length_cons]; exact hl _ _ _ _ eg) w2
  · exact w1.elim
theorem se_meth0 {n : Nat} {pl : Sem Bool} (O : CxOk T Φ J lv N sc X) (tk : Takes X W) (hn : n < J.nf) (hm : J.isM n = true) (hP : notP J.prs n = true) (ho : PE X o (tE T W false f)) (hl : (J.fps n).length = 1)
    (ht : eval (.Call (.Attribute o (J.fnm n) apos) [] [] pos) X.env = (do
      let ov ← eval o X.env
      standAt apos.atName
      let (f, first) ← holding [ov] (getMethod ov (J.fnm n) pl)
      callWith pos f first (backTo pos (starEach [] X.env)) (backToKw pos (keywordEach [] X.env)))) :
    PE X (.Call (.Attribute o (J.fnm n) apos) [] [] pos) (tE T W (J.ffr n) fun env cs => (f env cs).bind fun x cs => if isOf (J.fcl n) x cs = true then Φ.fn n [x] cs else .stuck) := by
  refine PE.of fun pins s σ H Q S κ env cs I rs re w => ?_
  obtain ⟨hc, M, hno⟩ := O.fs.me n hn hm hP
  refine PySem.W.methodCall_KW (pl := pl) (thn (use ho I rs re w) fun u s1 ⟨vv, H1, I1, r1, y, cs1, κ1, st1, rs1, rv1, w1⟩ => ?_) ht
  split at w1
  · rename_i his
    obtain ⟨a, dx, vs, rfl, ea⟩ := isOf_heap rs1 rv1 his
    cases r1
    refine getmeth_ok I1 ea (O.fs.cl _ hc).1 M (zip_none hno) ?_
    exact PySem.W.callWith_K0 (first := [.ref a]) I1.kIn M.kp (callF (W := W) (us := [.ref a]) O.fs hn (O.room.mono (by omega)) tk I1 rs1 (RVs.cons rv1 RVs.nil) (.cons rfl .nil) (by rw [hl]; rfl) w1)
  · exact w1.elim
/-- o.f -/
theorem se_attr {c k : Nat} (O : CxOk T Φ J lv N sc X) (hc : c < J.nc) (hx : (T.fld c)[k]? = some x) (ho : PE X o (tE T W false f)) (hb : attributeBase o x X.env (eval o X.env) = eval o X.env) :
    PE X (.Attribute o x pos) (tE T W false fun env cs => (f env cs).bind fun y cs => attrI y c k cs) := by
  refine PE.by' (pe_fld ho hb) fun σ H Q S κ env cs rs re w => ?_
  refine tE.use rs re w fun v H1 y cs1 κ1 st1 rs1 rv1 w1 => ?_
  obtain ⟨hcl, hna, hnd, _⟩ := O.fs.cl c hc
  have na : NoAttr X.K (T.cls c) x := hna x (List.mem_of_getElem? hx)
  cases y <;> first | exact w1.elim | skip
  · rename_i c' fs
    unfold attrI at w1
    dsimp only at w1
    split at w1
    · rename_i hcc
      subst hcc
      obtain ⟨z, ez, w2⟩ := w1.ofO
      unfold RV at rv1
      obtain ⟨a, dx, vs, rfl, q, _, hl, r⟩ := rv1
      obtain ⟨u, eu, ru⟩ := r.get ez
      exact ⟨a, _, dx, _, u, rfl, q, hcl, na, zip_lookup hnd hx eu, w2.ok rs1 ru⟩
    · exact w1.elim
  · rename_i n
    unfold attrI at w1
    dsimp only at w1
    split at w1
    · rename_i c' fs hcs
      split at w1
      · rename_i hcc
        subst hcc
        obtain ⟨z, ez, w2⟩ := w1.ofO
        unfold RV at rv1
        obtain ⟨a, rfl, q⟩ := rv1
        obtain ⟨⟨dx, vs, q', hl, r⟩, _⟩ := rs1.cel n _ a hcs q
        obtain ⟨u, eu, ru⟩ := r.get ez
        exact ⟨a, _, dx, _, u, rfl, q', hcl, na, zip_lookup hnd hx eu, w2.ok rs1 ru⟩
      · exact w1.elim
    · exact w1.elim
end
end EG

-- EngL
/-! Engine L: built-ins, subscripts, tests. -/
namespace EG
open PySem PySem.Spec L2 PyProof.Rows
section
variable {T : CT} {Φ : Fns} {J : TX} {lv : Nat} {W : WX} {X : Cx} {S : Addr → Prop} {κ : List Addr} {H : Hp} {env : Env} {cs : Cs} {σ : L2.St} {fr : Bool} {Q : VK} {N : List Str} {sc : Scope} {pins : List (Addr × Obj)} {s : Shared} {A : Around} {e o : Expr} {es : List Expr} {f : Env → Cs → R IV} {g : Env → Cs → R (List IV)} {p pos apos : Pos} {x : Str} {E : Value → Option Addr → Hp → Prop}
/-- a built-in, by values -/
def BltS (T : CT) (W : WX) (X : Cx) (b : Blt) (fv : Value) (fr : Bool) : Prop := ∃ r : List V → Hp → VK → Prop, CallR X fv r ∧
  ∀ (σ : L2.St) (H : Hp) (S : Addr → Prop) (κ : List Addr) (cs : Cs) (xs : List IV) (vs : List V) (Q : VK), RS T S κ H cs → RVs T S κ H xs vs → Wp T S (fun c d H' => W c d σ H') κ H fr (bltI b xs cs) Q → r vs H Q
theorem rvs1 {x : IV} {vs : List V} (h : RVs T S κ H [x] vs) : ∃ v, vs = [v] ∧ RV T S κ H x v := by
  unfold RVs RVs at h; obtain ⟨v, r, rfl, q, rfl⟩ := h; exact ⟨v, rfl, q⟩
theorem rvs2 {x y : IV} {vs : List V} (h : RVs T S κ H [x, y] vs) : ∃ v u, vs = [v, u] ∧ RV T S κ H x v ∧ RV T S κ H y u := by
  unfold RVs RVs RVs at h; obtain ⟨v, r, rfl, q, w, r', rfl, q', rfl⟩ := h; exact ⟨v, w, rfl, q, q'⟩
theorem ints_of : ∀ {xs : List IV} {ns : List Int}, intsOf xs = some ns → xs = ns.map IV.int
  | [], ns, h => by cases h; rfl
  | x :: xs, ns, h => by
    cases x <;> first | (unfold intsOf at h; cases h; done) | skip
    unfold intsOf at h
    cases q : intsOf xs with
    | none => rw [q] at h; cases h
    | some ms => rw [q] at h; cases h; rw [ints_of q]; rfl
theorem strs_of : ∀ {xs : List IV} {ns : List Str}, strsOf xs = some ns → xs = ns.map IV.str
  | [], ns, h => by cases h; rfl
  | x :: xs, ns, h => by
    cases x <;> first | (unfold strsOf at h; cases h; done) | skip
    unfold strsOf at h
    cases q : strsOf xs with
    | none => rw [q] at h; cases h
    | some ms => rw [q] at h; cases h; rw [strs_of q]; rfl
theorem RVs.strs' : ∀ {ns : List Str} {vs : List V}, RVs T S κ H (ns.map IV.str) vs → vs = ns.map V.str
  | [], vs, r => by unfold RVs at r; exact r
  | n :: ns, vs, r => by
    rw [List.map_cons] at r
    unfold RVs at r
    obtain ⟨v, t, rfl, r1, r2⟩ := r
    unfold RV at r1
    subst r1
    rw [RVs.strs' r2, List.map_cons]
theorem bls_of : ∀ {xs : List IV} {ns : List Bool}, blsOf xs = some ns → xs = ns.map IV.bl
  | [], ns, h => by cases h; rfl
  | x :: xs, ns, h => by
    cases x <;> first | (unfold blsOf at h; cases h; done) | skip
    unfold blsOf at h
    cases q : blsOf xs with
    | none => rw [q] at h; cases h
    | some ms => rw [q] at h; cases h; rw [bls_of q]; rfl
def bltVal : Blt → Value
  | .len => .builtin "len" | .abs => .builtin "abs" | .sum => .builtin "sum" | .all => .builtin "all" | .any => .builtin "any" | .min => .builtin "min" | .max => .builtin "max"
  | .int => .type "int" | .str => .type "str" | .tuple => .type "tuple" | .list => .type "list"
def bltFr : Blt → Bool
  | .list => true
  | _ => false
theorem Wp.bl1 {f : IV → Cs → R IV} {xs : List IV} {vs : List V} (w : Wp T S E κ H fr (bl1 f xs cs) Q) (r : RVs T S κ H xs vs) : ∃ x v, xs = [x] ∧ vs = [v] ∧ RV T S κ H x v ∧ Wp T S E κ H fr (f x cs) Q := by
  match xs with
  | [] => exact w.elim
  | [x] => obtain ⟨v, e, q⟩ := rvs1 r; exact ⟨x, v, rfl, e, q, w⟩
  | _ :: _ :: _ => exact w.elim
theorem Wp.bl2 {f : IV → IV → Cs → R IV} {xs : List IV} {vs : List V} (w : Wp T S E κ H fr (bl2 f xs cs) Q) (r : RVs T S κ H xs vs) : ∃ x y v u, xs = [x, y] ∧ vs = [v, u] ∧ RV T S κ H x v ∧ RV T S κ H y u ∧ Wp T S E κ H fr (f x y cs) Q := by
  match xs with
  | [] => exact w.elim
  | [_] => exact w.elim
  | [x, y] => obtain ⟨v, u, e, q, q'⟩ := rvs2 r; exact ⟨x, y, v, u, rfl, e, q, q', w⟩
  | _ :: _ :: _ :: _ => exact w.elim
theorem blt_len (hT : T.K = X.K) : BltS T W X .len (.builtin "len") false := by
  refine ⟨_, CallR.or call_len_seq call_len_str, fun σ H S κ cs xs vs Q rs rvs w => ?_⟩
  obtain ⟨x, v, rfl, rfl, r, w⟩ := Wp.bl1 (f := lenI) w rvs
  rename Wp _ _ _ _ _ _ (bltI _ _ _) _ => w0
  clear w0
  cases x <;> first | exact w.elim | skip
  · rename_i y
    unfold RV at r
    subst r
    unfold lenI at w
    dsimp only at w
    split at w
    · rename_i hl
      exact .inr ⟨y, rfl, Nat.le_trans hl line6, w.ok rs rv_int⟩
    · exact w.elim
  · obtain ⟨a, us, rfl, q, r'⟩ := rv_ref_tup r
    exact .inl ⟨a, us, rfl, .inr (hT ▸ q), by rw [← r'.len]; exact w.ok rs rv_int⟩
  · obtain ⟨a, us, rfl, q, r'⟩ := rv_ref_lst r
    exact .inl ⟨a, us, rfl, .inl q.sql, by rw [← r'.len]; exact w.ok rs rv_int⟩
  · rename_i ys
    unfold RV at r
    obtain ⟨a, rfl, q⟩ := r
    exact .inl ⟨a, ys.map V.int, rfl, .inl (hT ▸ q.sql), by rw [List.length_map]; exact w.ok rs rv_int⟩
theorem blt_abs : BltS T W X .abs (.builtin "abs") false := by
  refine ⟨_, call_abs, fun σ H S κ cs xs vs Q rs rvs w => ?_⟩
  obtain ⟨x, v, rfl, rfl, r, w⟩ := Wp.bl1 (f := absI) w rvs
  cases x <;> first | exact w.elim | (unfold RV at r; subst r; exact ⟨_, rfl, w.ok rs rv_int⟩)
theorem blt_int : BltS T W X .int (.type "int") false := by
  refine ⟨_, call_int1.or call_int_str, fun σ H S κ cs xs vs Q rs rvs w => ?_⟩
  obtain ⟨x, v, rfl, rfl, r, w⟩ := Wp.bl1 (f := intI) w rvs
  rename Wp _ _ _ _ _ _ (bltI _ _ _) _ => w0
  clear w0
  cases x <;> first | exact w.elim | (unfold RV at r; subst r; exact .inl (.inl ⟨_, rfl, w.ok rs rv_int⟩)) | (unfold RV at r; subst r; exact .inl (.inr ⟨_, rfl, w.ok rs rv_int⟩)) | skip
  rename_i z
  unfold RV at r
  subst r
  unfold intI at w
  dsimp only at w
  split at w
  · rename_i hl
    obtain ⟨n, en, w⟩ := Wp.ofOb (o := PySem.intText? z) (g := fun n cs => .ok (.int n) cs) w
    exact .inr ⟨z, n, rfl, en, hl, w.ok rs rv_int⟩
  · exact w.elim
theorem blt_str : BltS T W X .str (.type "str") false := by
  refine ⟨_, call_str_int, fun σ H S κ cs xs vs Q rs rvs w => ?_⟩
  obtain ⟨x, v, rfl, rfl, r, w⟩ := Wp.bl1 (f := strI) w rvs
  rename Wp _ _ _ _ _ _ (bltI _ _ _) _ => w0
  clear w0
  cases x <;> first | exact w.elim | skip
  rename_i i
  unfold RV at r
  subst r
  unfold strI at w
  dsimp only at w
  split at w
  · rename_i hl
    exact ⟨i, rfl, hl, w.ok rs rv_str⟩
  · exact w.elim
theorem blt_tuple (hT : T.K = X.K) : BltS T W X .tuple (.type "tuple") false := by
  refine ⟨_, call_tuple_of, fun σ H S κ cs xs vs Q rs rvs w => ?_⟩
  obtain ⟨x, v, rfl, rfl, r, w⟩ := Wp.bl1 (f := tupI) w rvs
  cases x <;> first | exact w.elim | skip
  · have r0 := r
    obtain ⟨a, us, rfl, q, r'⟩ := rv_ref_tup r
    exact ⟨a, us, rfl, .inr ⟨hT ▸ q, w.ok rs r0⟩⟩
  · obtain ⟨a, us, rfl, q, r'⟩ := rv_ref_lst r
    exact ⟨a, us, rfl, .inl ⟨q.sql, fun l hl => w.newTup rs r' hl⟩⟩
theorem blt_list (hT : T.K = X.K) : BltS T W X .list (.type "list") true := by
  refine ⟨_, call_list_of, fun σ H S κ cs xs vs Q rs rvs w => ?_⟩
  obtain ⟨x, v, rfl, rfl, r, w⟩ := Wp.bl1 (f := lstI) w rvs
  cases x <;> first | exact w.elim | skip
  · obtain ⟨a, us, rfl, q, r'⟩ := rv_ref_tup r
    exact ⟨a, us, rfl, .inr (hT ▸ q), fun l hl => w.newLst rs r' hl⟩
  · obtain ⟨a, us, rfl, q, r'⟩ := rv_ref_lst r
    exact ⟨a, us, rfl, .inl q.sql, fun l hl => w.newLst rs r' hl⟩
theorem blt_sum (hc : X.calm = true) : BltS T W X .sum (.builtin "sum") false := by
  refine ⟨_, cr_sum hc, fun σ H S κ cs xs vs Q rs rvs w => ?_⟩
  obtain ⟨x, v, rfl, rfl, r, w⟩ := Wp.bl1 (f := sumI) w rvs
  cases x <;> first | exact w.elim | skip
  obtain ⟨a, us, rfl, q, r'⟩ := rv_ref_lst r
  obtain ⟨ns, e, w⟩ := Wp.ofOb (g := fun (ns : List Int) cs => .ok (.int ns.sum) cs) w
  rw [ints_of e] at r'
  rw [r'.ints'] at q
  exact ⟨a, ns, rfl, q.sql, w.ok rs rv_int⟩
theorem blt_all (hc : X.calm = true) : BltS T W X .all (.builtin "all") false := by
  refine ⟨_, cr_all hc, fun σ H S κ cs xs vs Q rs rvs w => ?_⟩
  obtain ⟨x, v, rfl, rfl, r, w⟩ := Wp.bl1 (f := allI) w rvs
  cases x <;> first | exact w.elim | skip
  obtain ⟨a, us, rfl, q, r'⟩ := rv_ref_lst r
  obtain ⟨ns, e, w⟩ := Wp.ofOb (g := fun (ns : List Bool) cs => .ok (.bl (ns.all id)) cs) w
  rw [bls_of e] at r'
  rw [r'.bls'] at q
  exact ⟨a, ns, rfl, q.sql, w.ok rs rv_bl⟩
theorem blt_any (hc : X.calm = true) : BltS T W X .any (.builtin "any") false := by
  refine ⟨_, cr_any hc, fun σ H S κ cs xs vs Q rs rvs w => ?_⟩
  obtain ⟨x, v, rfl, rfl, r, w⟩ := Wp.bl1 (f := anyI) w rvs
  cases x <;> first | exact w.elim | skip
  obtain ⟨a, us, rfl, q, r'⟩ := rv_ref_lst r
  obtain ⟨ns, e, w⟩ := Wp.ofOb (g := fun (ns : List Bool) cs => .ok (.bl (ns.any id)) cs) w
  rw [bls_of e] at r'
  rw [r'.bls'] at q
  exact ⟨a, ns, rfl, q.sql, w.ok rs rv_bl⟩
theorem blt_min (hc : X.calm = true) : BltS T W X .min (.builtin "min") false := by
  refine ⟨_, call_min2 hc, fun σ H S κ cs xs vs Q rs rvs w => ?_⟩
  obtain ⟨x, y, v, u, rfl, rfl, r, r', w⟩ := Wp.bl2 (f := minI) w rvs
  cases x <;> first | exact w.elim | (cases y <;> first | exact w.elim | (unfold RV at r r'; subst r r'; exact ⟨_, _, rfl, w.ok rs rv_int⟩))
theorem blt_max (hc : X.calm = true) : BltS T W X .max (.builtin "max") false := by
  refine ⟨_, call_max2 hc, fun σ H S κ cs xs vs Q rs rvs w => ?_⟩
  obtain ⟨x, y, v, u, rfl, rfl, r, r', w⟩ := Wp.bl2 (f := maxI) w rvs
  cases x <;> first | exact w.elim | (cases y <;> first | exact w.elim | (unfold RV at r r'; subst r r'; exact ⟨_, _, rfl, w.ok rs rv_int⟩))
theorem blt_ok (O : CxOk T Φ J lv N sc X) (b : Blt) : BltS T W X b (bltVal b) (bltFr b) := by
  cases b with
  | len => exact blt_len O.fs.K.symm
  | abs => exact blt_abs
  | int => exact blt_int
  | str => exact blt_str
  | tuple => exact blt_tuple O.fs.K.symm
  | list => exact blt_list O.fs.K.symm
  | sum => exact blt_sum O.calm
  | all => exact blt_all O.calm
  | any => exact blt_any O.calm
  | min => exact blt_min O.calm
  | max => exact blt_max O.calm
theorem boot_blt (b : Blt) : bootBuiltins (bltName b) = some (bltVal b) := by cases b <;> (unfold bltName bltVal; decide +kernel)
theorem se_blt (O : CxOk T Φ J lv N sc X) (b : Blt) (hg : Gl X (bltName b)) (ha : PA X (e :: es) (tA T W g)) (hst : (e :: es).all notStar = true) :
    PE X (.Call (.Name (bltName b) p) (e :: es) [] pos) (tE T W (bltFr b) fun env cs => (g env cs).bind fun xs cs => bltI b xs cs) := by
  obtain ⟨r, hr, hq⟩ := blt_ok (W := W) O b
  rw [List.all_cons, Bool.and_eq_true] at hst
  have hp : PE X (.Call (.Name (bltName b) p) (e :: es) [] pos) (tCB r (tA T W g)) := by
    have h1 : bltName b ≠ "__name__" := by cases b <;> decide +kernel
    have h2 : (bltName b == ("__debug__" : Str)) = false := by cases b <;> decide +kernel
    have hb := boot_blt b
    cases hv : bltVal b with
    | builtin id => rw [hv] at hr hb; exact pe_callB hr hg (O.fs.bl b) hb ha h1 h2 (star_cons hst.1) (star_any hst.2)
    | type t => rw [hv] at hr hb; exact pe_callTy hr hg (O.fs.bl b) hb ha h1 h2 (star_cons hst.1) (star_any hst.2)
    | _ => cases b <;> cases hv
  exact PE.by' hp fun σ H Q S κ env cs rs re w => tA.use rs re w fun vs H1 xs cs1 κ1 _ st1 rs1 rvs w1 => hq σ H1 S κ1 cs1 xs vs Q rs1 rvs w1
/-- len(..) of an instance -/
theorem se_lenm {c n : Nat} (O : CxOk T Φ J lv N sc X) (tk : Takes X W) (hg : Gl X "len") (hn : n < J.nf) (hm : J.isM n = true) (hP : notP J.prs n = true) (hc : J.fcl n = c) (hnm : J.fnm n = "__len__") (hl : (J.fps n).length = 1) (hfr : J.ffr n = false) (ha : PA X (e :: es) (tA T W g)) (hst : (e :: es).all notStar = true) :
    PE X (.Call (.Name "len" p) (e :: es) [] pos) (tE T W false fun env cs => (g env cs).bind fun xs cs => lenmI Φ c n xs cs) := by
  refine PE.of fun pins s σ H Q S κ env cs I rs re w => ?_
  rw [List.all_cons, Bool.and_eq_true] at hst
  refine wpAny_Call_Name_kw (ld_blt I hg (O.fs.bl .len) (boot_blt .len) ?_ (by decide +kernel) (by decide +kernel))
  refine PyProof.Rows.callWith_builtin1 (thn (useA (pos := pos) ha I rs re w) fun us s1 ⟨vs, H1, I1, r, xs, cs1, κ1, eg, st1, rs1, rvs, w1⟩ => ?_) (star_cons hst.1) (star_any hst.2)
  unfold lenmI at w1
  split at w1
  · rename_i x1
    split at w1
    · rename_i hcc
      obtain ⟨hc2, M, _⟩ := O.fs.me n hn hm hP
      rw [hnm] at M
      obtain ⟨mg, mf, _⟩ := M
      obtain ⟨v, rfl, rv⟩ := rvs1 rvs
      obtain ⟨u, rfl, ru⟩ := vals1 r
      obtain ⟨q, dx, ws, rfl, hp1⟩ := isOf_heap rs1 rv hcc
      cases ru
      obtain ⟨mA, Jx, _⟩ := ins_get I1.hok hp1
      obtain ⟨od, Jx, _⟩ := Jx.look
      obtain ⟨m, hF⟩ := I1.fr
      rw [← hc] at Jx
      refine PySem.W.len_K (K := X.K) hF I1.ok.mod.kin Jx mg mf ?_
      refine wpAny_mono (callFA (W := W) (vs := [.ref q]) O.fs hn ((O.room.mono (j := lv + 1) (by omega)).in1) rfl tk I1 rs1 (RVs.cons rv RVs.nil) (.cons rfl .nil) (by rw [hl]; rfl) (by rw [hfr]; exact w1.bind)) (fun u s' qq => ?_) fun _ _ z => z
      obtain ⟨v', H', I', r', x', cs', κ', st', rs', rv', w'⟩ := id qq
      unfold lenK at w'
      split at w'
      · rename_i i
        split at w'
        · rename_i hi
          unfold RV at rv'
          subst rv'
          obtain ⟨t, rfl⟩ := r'
          exact ⟨⟨hi.1, by omega⟩, .int i, H', I'.tok _, ⟨_, rfl⟩, w'.ok rs' rv_int⟩
        · exact w'.elim
      · exact w'.elim
    · exact w1.elim
  · exact w1.elim
/-- str(..) of an instance -/
theorem se_strm {c n : Nat} (O : CxOk T Φ J lv N sc X) (tk : Takes X W) (hg : Gl X "str") (hn : n < J.nf) (hm : J.isM n = true) (hP : notP J.prs n = true) (hc : J.fcl n = c) (hnm : J.fnm n = "__str__") (hl : (J.fps n).length = 1) (hfr : J.ffr n = false) (ha : PA X (e :: es) (tA T W g)) (hst : (e :: es).all notStar = true) :
    PE X (.Call (.Name "str" p) (e :: es) [] pos) (tE T W false fun env cs => (g env cs).bind fun xs cs => strmI Φ c n xs cs) := by
  refine PE.of fun pins s σ H Q S κ env cs I rs re w => ?_
  rw [List.all_cons, Bool.and_eq_true] at hst
  refine wpAny_Call_Name_kw (ld_blt I hg (O.fs.bl .str) (boot_blt .str) ?_ (by decide +kernel) (by decide +kernel))
  refine PyProof.Rows.callWith_type1 (thn (useA (pos := pos) ha I rs re w) fun us s1 ⟨vs, H1, I1, r, xs, cs1, κ1, eg, st1, rs1, rvs, w1⟩ => ?_) (star_cons hst.1) (star_any hst.2)
  unfold strmI at w1
  split at w1
  · rename_i c' fs
    split at w1
    · rename_i hcc
      obtain ⟨hc2, M, _⟩ := O.fs.me n hn hm hP
      rw [hnm] at M
      obtain ⟨mg, mf, _⟩ := M
      obtain ⟨v, rfl, rv⟩ := rvs1 rvs
      obtain ⟨u, rfl, ru⟩ := vals1 r
      have rv2 := rv
      unfold RV at rv2
      obtain ⟨q, dx, ws, rfl, hp1, _, _, _⟩ := rv2
      cases ru
      obtain ⟨mA, Jx, _⟩ := ins_get I1.hok hp1
      obtain ⟨od, Jx, _⟩ := Jx.look
      obtain ⟨m, hF⟩ := I1.fr
      rw [hcc, ← hc] at Jx
      refine PySem.W.kso_call (K := X.K) ((((O.room.mono (j := lv + 2) (by omega)).in1).in1).units0) I1.kIn Jx mg mf ?_
      refine wpAny_mono (callFA (W := W) (vs := [.ref q]) O.fs hn (((O.room.mono (j := lv + 2) (by omega)).in1).in1) rfl tk I1 rs1 (RVs.cons rv RVs.nil) (.cons rfl .nil) (by rw [hl]; rfl) (by rw [hfr]; exact w1.bind)) (fun u s' qq => ?_) fun _ _ z => z
      obtain ⟨v', H', I', r', x', cs', κ', st', rs', rv', w'⟩ := id qq
      unfold strK at w'
      split at w'
      · rename_i y
        unfold RV at rv'
        subst rv'
        obtain ⟨t, rfl⟩ := r'
        exact ⟨.str y, H', I', ⟨_, rfl⟩, w'.ok rs' rv_str⟩
      · exact w'.elim
    · exact w1.elim
  · exact w1.elim
theorem fmtO_ok {x : IV} {i : Int} (h : fmtO x = some i) : x = .int i ∧ i.natAbs.log2 < 1920 := by
  unfold fmtO at h
  split at h
  · split at h
    · cases h; exact ⟨rfl, ‹_›⟩
    · cases h
  · cases h
/-- f"{a}..{b}" -/
theorem se_join {a : Expr} {f : Env → Cs → R IV} {x : Str} {j : Nat} {p1 apos pos : Pos} (ha : PE X a (tE T W false f)) (hs : notStar a = true) (hl : (apos.endLine == pos.line) = true) :
    PE X (.Call (.Attribute (.Constant (.str x) j p1) "join" apos) [a] [] pos) (tE T W false fun env cs => (f env cs).bind fun v cs => joinI x v cs) := by
  refine PE.by' (pe_join pe_str ha (star_cons hs) (by rfl) hl) fun σ H Q S κ env cs rs re w => ?_
  refine ⟨⟨x, rfl⟩, tE.use rs re w fun v H1 y cs1 κ1 st1 rs1 rv1 w1 => ?_⟩
  cases y <;> first | exact w1.elim | skip
  obtain ⟨p, us, rfl, q, r⟩ := rv_ref_lst rv1
  unfold joinI at w1
  dsimp only at w1
  rename_i xs
  cases hx : strsOf xs with
  | none => rw [hx] at w1; exact w1.elim
  | some ys =>
    rw [hx] at w1
    replace w1 : Wp T S (fun c d H' => W c d σ H') κ1 H1 false (if (ys.map (·.length)).sum + ys.length * x.length ≤ 1000000 then .ok (.str (Txt.join x ys)) cs1 else .stuck) Q := w1
    split at w1
    · rename_i hz
      rw [strs_of hx] at r
      rw [RVs.strs' r] at q
      exact ⟨x, p, ys, rfl, rfl, .inl q.sql, Nat.le_trans hz (by decide), w1.ok rs1 rv_str⟩
    · exact w1.elim
theorem se_fs2 {a b : Expr} {f g : Env → Cs → R IV} {x : Str} {j : Nat} {p1 p2 p3 pos : Pos} (hx : x.length ≤ 1000) (ha : PE X a (tE T W false f)) (hb : PE X b (tE T W false g)) :
    PE X (.JoinedStr [.FormattedValue a (-1) none p1, .Constant (.str x) j p2, .FormattedValue b (-1) none p3] pos) (tE T W false fun env cs => (f env cs).bind fun v cs => (R.ofO (fmtO v) cs).bind fun i cs => (g env cs).bind fun u cs => (R.ofO (fmtO u) cs).bind fun k cs => .ok (.str ((toString i : Str) ++ x ++ (toString k : Str))) cs) := by
  refine PE.of fun pins s σ H Q S κ env cs I rs re w => ?_
  refine wpAny_JoinedStr ?_
  have e0 : evalEach [.FormattedValue a (-1) none p1, .Constant (.str x) j p2, .FormattedValue b (-1) none p3] X.env = [eval (.FormattedValue a (-1) none p1) X.env, eval (.Constant (.str x) j p2) X.env, eval (.FormattedValue b (-1) none p3) X.env] := by first | rfl | simp [evalEach]
  rw [e0]
  have em : ∀ y : Str, Str.empty ++ y = y := fun y => by
    show Str.mk (#[] ++ y.cps) = y
    rw [Array.empty_append]
  have ln : ∀ y z : Str, (y ++ z).length = y.length + z.length := fun y z => by
    show (y.cps ++ z.cps).size = _
    rw [Array.size_append]
    rfl
  have il : ∀ i : Int, i.natAbs.log2 < 1920 → (toString i : Str).length ≤ 1921 := fun i h => by
    have := int_text_length_le (k := 1920) (by decide) h
    rw [PySem.ofString_length]
    exact this
  have sz := sizeLine_eq
  refine wpAny_FormattedValue_plain (thn (use ha I rs re w) fun v s1 ⟨vv, H1, I1, r1, y, cs1, κ1, st1, rs1, rv1, w1⟩ => ?_)
  cases hy : fmtO y with
  | none => rw [hy] at w1; exact w1.elim
  | some i =>
    rw [hy] at w1
    obtain ⟨rfl, hi⟩ := fmtO_ok hy
    have w1 : Wp T S (fun c d H' => W c d σ H') κ1 H1 false ((g env cs1).bind fun u cs => (R.ofO (fmtO u) cs).bind fun k cs => .ok (.str ((toString i : Str) ++ x ++ (toString k : Str))) cs) Q := w1
    unfold RV at rv1
    subst rv1
    obtain ⟨t, rfl⟩ := r1
    refine wpAny_formatField_int hi ⟨toString i, _, rfl, by rw [em]; have := il i hi; omega, ?_⟩
    refine Calls.Constant_str ⟨x, _, rfl, by rw [em, ln]; have := il i hi; omega, ?_⟩
    refine wpAny_FormattedValue_plain (thn (use hb ((I1.tok _).tok _) rs1 (re.mv st1.mv) w1) fun v s2 ⟨uu, H2, I3, r2, z, cs2, κ2, st2, rs2, rv2, w2⟩ => ?_)
    cases hz : fmtO z with
    | none => rw [hz] at w2; exact w2.elim
    | some k =>
      rw [hz] at w2
      obtain ⟨rfl, hk⟩ := fmtO_ok hz
      have w2 : Wp T S (fun c d H' => W c d σ H') κ2 H2 false (.ok (.str ((toString i : Str) ++ x ++ (toString k : Str))) cs2) Q := w2
      unfold RV at rv2
      subst rv2
      obtain ⟨t2, rfl⟩ := r2
      refine wpAny_formatField_int hk ⟨toString k, _, rfl, by rw [em, ln, ln]; have := il i hi; have := il k hk; omega, ?_⟩
      rw [em]
      exact ⟨by rw [ln, ln]; have := il i hi; have := il k hk; omega, .str ((toString i : Str) ++ x ++ (toString k : Str)), H2, (I3.tok _).tok _, ⟨_, rfl⟩, w2.ok rs2 rv_str⟩
end
end EG

-- EngM
/-! Engine M: isinstance, subscripts, None, chains, and, or, not, tests. -/
/-! xs[::-1] of a tuple -/
namespace HT
open PySem PySem.Spec PySem.Calls PyProof PyProof.Rows
section
variable {prog : Program} {w : World} {A : Around} {E : Value → Shared → Prop} {s : Shared}
theorem adjust_rev (n : Nat) : Builtin.Slice.sliceAdjust none none (-1) (n : Int) = ((n : Int) - 1, -1) := by
  unfold Builtin.Slice.sliceAdjust
  rfl
theorem places_rev (n : Nat) : Builtin.Slice.slicePlaces ((n : Int) - 1) (-1) (-1) = n := by
  unfold Builtin.Slice.slicePlaces
  simp
  omega
theorem sliceApplied_rev {sl : Addr} {vs : Value} {n : Nat} {Q : Int × Int × Nat → Shared → Prop} (hs : s.heap.IsSliceOf sl .none .none vs) (ps : IsPart vs (some (-1)))
    (h : Q ((n : Int) - 1, -1, n) s) : wpAny (model prog w) A (Builtin.Slice.sliceApplied (.ref sl) (pure (n : Int))) Q E s := by
  obtain ⟨os, hos, hcs, hds⟩ := id hs
  unfold Builtin.Slice.sliceApplied Builtin.Slice.sliceFields
  refine wpAny_bind (wpAny_bind (wpAny_field hos hds (x := .none) rfl (wpAny_bind (wpAny_field hos hds (x := .none) rfl (wpAny_bind (wpAny_field hos hds (x := vs) rfl (wpAny_pure ?_)))))))
  refine wpAny_bind (slicePart_ ps ?_)
  show wpAny _ _ (if ((-1 : Int) == 0) = true then _ else _) _ _ s
  rw [if_neg (by decide)]
  refine wpAny_bind (slicePart_ .none (wpAny_bind (slicePart_ .none (wpAny_bind (wpAny_pure ?_)))))
  show wpAny _ _ (match Builtin.Slice.sliceAdjust none none (-1) (n : Int) with | (lo, hi) => pure (lo, (-1 : Int), Builtin.Slice.slicePlaces lo hi (-1))) _ _ s
  rw [adjust_rev n]
  show wpAny _ _ (pure ((n : Int) - 1, (-1 : Int), Builtin.Slice.slicePlaces ((n : Int) - 1) (-1) (-1))) _ _ s
  rw [places_rev]
  exact wpAny_pure h
theorem fm_some {α β : Type} {f : α → Option β} {g : α → β} : ∀ {l : List α}, (∀ x ∈ l, f x = some (g x)) → l.filterMap f = l.map g
  | [], _ => rfl
  | x :: l, h => by
    rw [List.filterMap_cons, h x List.mem_cons_self, List.map_cons, fm_some fun z hz => h z (List.mem_cons_of_mem _ hz)]
theorem pick_rev (xs : Array Value) : ((List.range xs.size).filterMap fun (m : Nat) => xs[(((xs.size : Int) - 1) + (m : Int) * (-1)).toNat]?).toArray = xs.toList.reverse.toArray := by
  congr 1
  apply List.ext_getElem?
  intro i
  have h : ∀ m ∈ List.range xs.size, xs[(((xs.size : Int) - 1) + (m : Int) * (-1)).toNat]? = some ((xs[xs.size - 1 - m]?).getD .none) := by
    intro m hm
    have hm := List.mem_range.mp hm
    rw [show (((xs.size : Int) - 1) + (m : Int) * (-1)).toNat = xs.size - 1 - m by omega, Array.getElem?_eq_getElem (by omega)]
    rfl
  rw [fm_some h, List.getElem?_map]
  by_cases hi : i < xs.size
  · rw [List.getElem?_range hi, List.getElem?_reverse (by simpa using hi)]
    simp
    rw [Array.getElem?_eq_getElem (by omega)]
    rfl
  · rw [List.getElem?_eq_none (by simp; omega), List.getElem?_eq_none (by simp; omega)]
    rfl
theorem getItem_tuple_rev {t sl : Addr} {items : Array Value} {vs : Value} {Q : Value → Shared → Prop} (ht : IsTup s.heap t items) (hs : s.heap.IsSliceOf sl .none .none vs) (ps : IsPart vs (some (-1)))
    (h : Q (.ref s.heap.objs.size) { s with heap := s.heap.push { cls := .type "tuple", data := .seq items.toList.reverse.toArray } })
    (hsz : items.size ≤ sizeLine) : wpAny (model prog w) A (getItem (.ref t) (.ref sl)) Q E s := by
  have htake : sizeOk (.seq items.toList.reverse.toArray) := by
    show items.toList.reverse.toArray.size ≤ sizeLine
    rw [List.size_toArray, List.length_reverse, Array.length_toList]
    omega
  obtain ⟨os, hos, hcs, hds⟩ := id hs
  have hTs : s.TypeIs (.ref sl) "slice" := ⟨os, hos, hcs⟩
  unfold getItem
  try with_reducible refine wpAny_holding ?_
  first | refine wpAny_bind (wpAny_pure ?_) | skip
  refine wpAny_bind (wpAny_sequenceKey ht.typeIs (by decide) ?_)
  refine wpAny_bind (wpAny_callSpecial?_slot (name := Str.ofString "__getitem__") ht.typeIs PyProof.Rows.slot_tuple_getitem
    (wpAny_call_entry PyProof.Rows.slot_tuple_getitem ht.typeIs entry_tuple_getitem ?_ (args_tuple_getitem _ _)))
  show wpAny _ _ (Builtin.Tuple.tupleItemsOf (.ref t) >>= _) _ _ s
  refine wpAny_bind (tupleItemsOf_ ht ?_)
  refine wpAny_bind (wpAny_typeOf hTs ?_)
  rw [if_pos (by decide)]
  refine wpAny_bind (sliceApplied_rev hs ps ?_)
  show wpAny _ _ (if (((items.size : Int) - 1) == 0 && (-1 : Int) == 1 && items.size == items.size) = true then _ else _) _ _ s
  rw [if_neg (by simp), pick_rev]
  first
    | exact wpAny_bind (m := Builtin.Tuple.tupleExact _) (wpAny_newObj_type (wpAny_pure ⟨_, rfl, wpAny_pure h⟩) htake)
    | exact wpAny_bind (m := Builtin.Tuple.tupleExact _) (wpAny_newObj_type (wpAny_bind (wpAny_pure (wpAny_pure ⟨_, rfl, wpAny_pure h⟩))) htake)
    | exact wpAny_bind (wpAny_bind (m := Builtin.Tuple.tupleExact _) (wpAny_newObj_type (wpAny_pure (wpAny_pure ⟨_, rfl, wpAny_pure h⟩)) htake))
    | exact wpAny_bind (wpAny_bind (m := Builtin.Tuple.tupleExact _) (wpAny_newObj_type (wpAny_pure ⟨_, rfl, wpAny_pure h⟩) htake))
end
end HT
namespace L2
open PySem PySem.Spec PyProof.Rows
section
variable {X : Cx}
def tRevT (K : PySem.W.Frag) (te : TE) : TE := fun σ H Q => te σ H fun x H1 => ∃ a xs, x = .ref a ∧ SqT K H1 a xs ∧ ∀ p, H1 p = none → Q (.ref p) (upd H1 p (.tup xs.reverse))
theorem pe_revT {e : Expr} {te : TE} {k : Nat} {p1 p2 p3 pos : Pos} (he : PE X e te) : PE X (.Subscript e (.Slice none none (some (.UnaryOp .USub (.Constant (.int 1) k p1) p2)) p3) pos) (tRevT X.K te) := by
  refine ⟨fun pins s σ H Q I h => ?_⟩
  refine Subscript_ (thn (he.run pins s σ H _ I h) fun v s1 ⟨x, H1, I1, r1, q1⟩ => ?_)
  obtain ⟨a, xs, ex, hx, q⟩ := q1
  subst ex
  cases r1
  have hst : PO X (some (.UnaryOp .USub (.Constant (.int 1) k p1) p2)) (tPart (tUn (rU fun i => .int (-i)) (tC (.int 1)))) := po_some (pe_un un_neg pe_int)
  refine wpAny_Slice (thn (po_none.run pins s1 σ H1 (fun o H2 => o = none ∧ H2 = H1) I1 ⟨rfl, rfl⟩) fun vl s2 ⟨l, H2, I2, pl, el, e2⟩ => ?_)
  subst el e2
  refine thn (po_none.run pins s2 σ H2 (fun o H3 => o = none ∧ H3 = H2) I2 ⟨rfl, rfl⟩) fun vu s3 ⟨u, H3, I3, pu, eu, e3⟩ => ?_
  subst eu e3
  refine thn (hst.run pins s3 σ H3 (fun o H4 => o = some (-1) ∧ H4 = H3) I3 ⟨1, rfl, -1, rfl, rfl, rfl⟩) fun vs s4 ⟨o, H4, I4, ps, eo, e4⟩ => ?_
  subst eo e4
  have I5 : Inv X pins σ H4 { s4 with heap := s4.heap.push { cls := .type "slice", data := .fields #[vl, vu, vs] } } := I4.kept (t' := s4.toks) fun b ob q => Heap.get?_push_of_some _ q
  obtain ⟨its, r, ht, hz⟩ := I5.tuple hx
  have hlen := r.length
  cases pl
  cases pu
  show wpAny (model X.prog X.w) X.A (subscriptTail e (.Slice none none (some (.UnaryOp .USub (.Constant (.int 1) k p1) p2)) p3) (.ref a) (.ref s4.heap.objs.size)) (EP X pins σ Q) X.xe { s4 with heap := s4.heap.push { cls := .type "slice", data := .fields #[.none, .none, vs] } }
  refine tail_any (ops := [.ref a, .ref s4.heap.objs.size]) ht.typeIs (PyProof.Rows.slot_tuple_getitem.lookup) ?_ (by with_unfolding_all rfl)
  refine HT.getItem_tuple_rev ht (Heap.IsSliceOf.new _ .none .none vs) ps ?_ (by rw [List.size_toArray]; omega)
  refine ⟨.ref _, _, I5.laid (t' := s4.toks) (o := .tup xs.reverse) (fun b ob q => Heap.get?_push_of_some _ q) (Nat.le_refl _) ?_, rfl, q _ (I5.hok.fresh (Nat.le_refl _))⟩
  exact ⟨by rw [List.length_reverse]; exact hz, _, r.reverse, IsTup.new _ _⟩
end
end L2
namespace EG
open PySem PySem.Spec L2 PyProof.Rows
section
variable {T : CT} {Φ : Fns} {J : TX} {lv : Nat} {W : WX} {X : Cx} {S : Addr → Prop} {κ : List Addr} {H : Hp} {env : Env} {cs : Cs} {σ : L2.St} {fr : Bool} {Q : VK} {N : List Str} {sc : Scope} {pins : List (Addr × Obj)} {s : Shared} {A : Around} {a b c e o : Expr} {es : List Expr} {f : Env → Cs → R IV} {g : Env → Cs → R (List IV)} {p p2 pos apos : Pos} {x : Str} {E : Value → Option Addr → Hp → Prop} {f1 f2 f3 : Env → Cs → R IV}

/-! ### subscripts -/
theorem atI_rvs {xs : List IV} {vs : List V} {i : Int} {x : IV} (r : RVs T S κ H xs vs) (h : atI xs i = some x) : ∃ v, atI vs i = some v ∧ RV T S κ H x v := by
  unfold atI at h ⊢
  rw [← r.len]
  cases hi : ixN xs.length i with
  | none => rw [hi] at h; cases h
  | some j =>
    rw [hi] at h
    obtain ⟨v, e, q⟩ := r.get h
    exact ⟨v, e, q⟩
theorem se_sub (O : CxOk T Φ J lv N sc X) (ha : PE X a (tE T W false f1)) (hb : PE X b (tE T W false f2)) (hs : PlainIx b) : PE X (.Subscript a b pos) (tE T W false fun env cs => (f1 env cs).bind fun x cs => (f2 env cs).bind fun y cs => subI x y cs) := by
  refine PE.by' (pe_ix ix_seq ha hb hs) fun σ H Q S κ env cs rs re w => ?_
  refine tE.use rs re w fun v H1 y cs1 κ1 st1 rs1 rv1 w1 => ?_
  refine tE.use rs1 (re.mv st1.mv) w1 fun u H2 i cs2 κ2 st2 rs2 rv2 w2 => ?_
  replace rv1 := st2.mv.rv _ _ rv1
  have hT := O.fs.K.symm
  cases i with
  | int i =>
    unfold RV at rv2
    subst rv2
    cases y <;> first | exact w2.elim | skip
    · rename_i z
      unfold subI at w2
      dsimp only at w2
      split at w2
      · rename_i hl
        obtain ⟨c, ec, w3⟩ := Wp.ofOb (o := atI z.cps.toList i) (g := fun c cs => .ok (.str ⟨#[c]⟩) cs) w2
        unfold RV at rv1
        exact .inr (.inr ⟨z, i, c, rv1, rfl, Nat.le_trans hl line6, ec, w3.ok rs2 rv_str⟩)
      · exact w2.elim
    · rename_i xs
      obtain ⟨x, ex, w3⟩ := Wp.ofO (o := atI xs i) w2
      obtain ⟨p, vs, rfl, q, r⟩ := rv_ref_tup rv1
      obtain ⟨z, ez, rz⟩ := atI_rvs r ex
      exact .inr (.inl ⟨p, vs, i, z, rfl, rfl, hT ▸ q, ez, w3.ok rs2 rz⟩)
    · rename_i xs
      obtain ⟨x, ex, w3⟩ := Wp.ofO (o := atI xs i) w2
      obtain ⟨p, vs, rfl, q, r⟩ := rv_ref_lst rv1
      obtain ⟨z, ez, rz⟩ := atI_rvs r ex
      exact .inl ⟨p, vs, i, z, rfl, rfl, q.sql, ez, w3.ok rs2 rz⟩
    · rename_i n
      unfold subI at w2
      dsimp only at w2
      split at w2
      · rename_i xs hcs
        obtain ⟨x, ex, w3⟩ := w2.ofO
        unfold RV at rv1
        obtain ⟨p, rfl, q⟩ := rv1
        obtain ⟨⟨vs, q', r⟩, _⟩ := rs2.cel n _ p hcs q
        obtain ⟨z, ez, rz⟩ := atI_rvs r ex
        exact .inl ⟨p, vs, i, z, rfl, rfl, SqL.of q', ez, w3.ok rs2 rz⟩
      · exact w2.elim
    · rename_i ns
      obtain ⟨x, ex, w3⟩ := Wp.ofOb (o := atI ns i) (g := fun i cs => .ok (.int i) cs) w2
      unfold RV at rv1
      obtain ⟨p, rfl, q⟩ := rv1
      have ez : atI (ns.map V.int) i = some (.int x) := by
        unfold atI at ex ⊢
        rw [List.length_map]
        cases hi : ixN ns.length i with
        | none => rw [hi] at ex; cases ex
        | some j =>
          rw [hi] at ex
          have ex' : ns[j]? = some x := ex
          show (ns.map V.int)[j]? = _
          rw [List.getElem?_map, ex']; rfl
      exact .inl ⟨p, ns.map V.int, i, .int x, rfl, rfl, hT ▸ q.sql, ez, w3.ok rs2 rv_int⟩
  | _ => cases y <;> exact w2.elim
/-- a part of a slice -/
def tP (T : CT) (W : WX) (f : Env → Cs → R (Option Int)) : TO := fun σ H Q => ∃ S κ env cs, RS T S κ H cs ∧ RE T S κ H env σ ∧ Wk T S (fun c d H' => W c d σ H') κ H (f env cs) fun x cs' κ' H' => Q x H'
theorem PO.by' {e : Option Expr} {f : Env → Cs → R (Option Int)} {t : TO} (h : PO X e t) (q : ∀ (σ : L2.St) (H : Hp) (Q : Option Int → Hp → Prop) (S : Addr → Prop) (κ : List Addr) (env : Env) (cs : Cs), RS T S κ H cs → RE T S κ H env σ → (Wk T S (fun c d H' => W c d σ H') κ H (f env cs) fun x cs' κ' H' => Q x H') → t σ H Q) : PO X e (tP T W f) :=
  ⟨fun pins s σ H Q I ⟨S, κ, env, cs, rs, re, w⟩ => h.run pins s σ H Q I (q σ H Q S κ env cs rs re w)⟩
theorem sp_no {f : Env → Cs → R (Option Int)} (hf : ∀ env cs, f env cs = .ok none cs) : PO X none (tP T W f) := PO.by' po_none fun σ H Q S κ env cs rs re w => by
  rw [hf] at w
  exact w κ H Stp.rfl' rs
theorem sp_some (h : PE X e (tE T W false f)) : PO X (some e) (tP T W fun env cs => (f env cs).bind fun x cs => match x with | .int i => .ok (some i) cs | _ => .stuck) := PO.by' (po_some h) fun σ H Q S κ env cs rs re w => by
  refine ⟨S, κ, env, cs, rs, re, (Wk.bind w).imp fun v H1 ⟨x, cs1, κ1, st1, rs1, rv1, w1⟩ => ?_⟩
  cases x <;> first | exact w1.elim | skip
  unfold RV at rv1
  exact ⟨_, rv1, w1 κ1 H1 Stp.rfl' rs1⟩
theorem cut_rvs {xs : List IV} {vs : List V} (lo hi : Option Int) (r : RVs T S κ H xs vs) : RVs T S κ H (cutI xs lo hi) (cutV vs lo hi) := by
  unfold cutI cutV
  rw [← r.len]
  exact (r.drop _).take _
/-- xs[::-1] of a tuple -/
theorem se_rev {k : Nat} {p1 p3 : Pos} (O : CxOk T Φ J lv N sc X) (ha : PE X a (tE T W false f)) :
    PE X (.Subscript a (.Slice none none (some (.UnaryOp .USub (.Constant (.int 1) k p1) p2)) p3) pos) (tE T W false fun env cs => (f env cs).bind fun x cs => revI x cs) := by
  refine PE.by' (pe_revT ha) fun σ H Q S κ env cs rs re w => ?_
  refine tE.use rs re w fun v H1 y cs1 κ1 st1 rs1 rv1 w1 => ?_
  have hT := O.fs.K.symm
  cases y <;> first | exact w1.elim | skip
  obtain ⟨p, vs, rfl, q, r⟩ := rv_ref_tup rv1
  exact ⟨p, vs, rfl, hT ▸ q, fun p' hp => w1.newTup rs1 r.rev hp⟩
def sliFr (x : IV) : Bool := true
theorem se_sli {lo hi : Option Expr} {fl fh : Env → Cs → R (Option Int)} (O : CxOk T Φ J lv N sc X) (ha : PE X a (tE T W false f)) (hl : PO X lo (tP T W fl)) (hh : PO X hi (tP T W fh)) :
    PE X (.Subscript a (.Slice lo hi none p2) pos) (tE T W false fun env cs => (f env cs).bind fun x cs => (fl env cs).bind fun l cs => (fh env cs).bind fun h cs => sliI x l h cs) := by
  refine PE.by' (pe_slice (sl_list.or (sl_tupA.or sl_str)) ha hl hh) fun σ H Q S κ env cs rs re w => ?_
  refine tE.use rs re w fun v H1 y cs1 κ1 st1 rs1 rv1 w1 => ?_
  refine ⟨S, κ1, env, cs1, rs1, re.mv st1.mv, ?_⟩
  have w2 := w1.bindk
  revert w2
  cases fl env cs1 with
  | stuck => exact fun w => w.elim
  | exc c pl cs => exact fun w => w
  | ok l cs2 =>
    intro w2 κ2 H2 st2 rs2
    obtain ⟨_, _, w2⟩ := w2 κ2 H2 st2 rs2
    refine ⟨S, κ2, env, cs2, rs2, re.mv (st1.trans st2).mv, ?_⟩
    have w3 := w2.bindk
    revert w3
    cases fh env cs2 with
    | stuck => exact fun w => w.elim
    | exc c pl cs => exact fun w => w
    | ok h cs3 =>
      intro w3 κ3 H3 st3 rs3
      obtain ⟨_, _, w3⟩ := w3 κ3 H3 st3 rs3
      replace rv1 := (st2.trans st3).mv.rv _ _ rv1
      have hT := O.fs.K.symm
      cases y <;> first | exact w3.elim | skip
      · rename Str => z
        unfold sliI at w3
        dsimp only at w3
        split at w3
        · rename_i hl
          unfold RV at rv1
          exact .inr (.inr ⟨z, rv1, Nat.le_trans hl line6, Wp.ok (x := .str ⟨(cutI z.cps.toList l h).toArray⟩) w3 rs3 rv_str⟩)
        · exact w3.elim
      · obtain ⟨p, vs, rfl, q, r⟩ := rv_ref_tup rv1
        refine .inr (.inl ⟨p, vs, rfl, hT ▸ q, fun e => ?_, fun _ p hp => ?_⟩)
        · refine Wp.ok (x := .tup (cutI _ l h)) w3 rs3 ?_
          unfold RV
          refine ⟨p, cutV vs l h, rfl, ?_, cut_rvs l h r⟩
          have : cutV vs l h = vs := by unfold cutV; rw [e.1, e.2]; simp
          rw [this]; exact q
        · exact Wp.newTup (xs := cutI _ l h) w3 rs3 (cut_rvs l h r) hp
      · obtain ⟨p, vs, rfl, q, r⟩ := rv_ref_lst rv1
        exact .inl ⟨p, vs, rfl, q.sql, fun p hp => Wp.newLst (xs := cutI _ l h) w3 rs3 (cut_rvs l h r) hp⟩

/-! ### None, isinstance -/
theorem se_isN {j : Nat} (ha : PE X a (tE T W false f)) : PE X (.Compare a [.Is] [.Constant .none j p] pos) (tE T W false fun env cs => (f env cs).bind fun x cs => .ok (.bl (isNon x)) cs) := by
  refine PE.by' (pe_cmp (pc_isN ha) rfl) fun σ H Q S κ env cs rs re w => tE.use rs re w fun v H1 x cs1 κ1 st1 rs1 rv1 w1 => ?_
  have : decide (v = .non) = isNon x := by
    cases x <;> (unfold RV at rv1; first | (subst rv1; rfl) | (obtain ⟨a, rfl, _⟩ := rv1; rfl) | (obtain ⟨a, _, rfl, _⟩ := rv1; rfl) | (obtain ⟨a, _, _, rfl, _⟩ := rv1; rfl))
  rw [this]
  exact w1.ok rs1 rv_bl
theorem se_notN {j : Nat} (ha : PE X a (tE T W false f)) : PE X (.Compare a [.IsNot] [.Constant .none j p] pos) (tE T W false fun env cs => (f env cs).bind fun x cs => .ok (.bl (!(isNon x))) cs) := by
  refine PE.by' (pe_cmp (pc_notN ha) rfl) fun σ H Q S κ env cs rs re w => tE.use rs re w fun v H1 x cs1 κ1 st1 rs1 rv1 w1 => ?_
  have : decide (v = .non) = isNon x := by
    cases x <;> (unfold RV at rv1; first | (subst rv1; rfl) | (obtain ⟨a, rfl, _⟩ := rv1; rfl) | (obtain ⟨a, _, rfl, _⟩ := rv1; rfl) | (obtain ⟨a, _, _, rfl, _⟩ := rv1; rfl))
  rw [this]
  exact w1.ok rs1 rv_bl
/-- the type of a value -/
theorem ty_of (O : CxOk T Φ J lv N sc X) {x : IV} {v : V} {t : Ty} {b : Bool} (rv : RV T S κ H x v) (ht : ∀ c', t = Ty.cls c' → c' < J.nc) (ho : ∀ c fs, x = .obj c fs → c < J.nc) (e : isiO x t = some b) :
    ∃ ty, TyX X.K H v ty ∧ PySem.W.kitOne X.K ty (tyVal T t) = some b := by
  have bt : ∀ (n : String), ["NoneType", "int", "bool", "str", "tuple", "list"].contains n = true → ∀ k : Bool, (∀ q : String, tyVal T t = .type q → PySem.W.kitOne X.K (.type n) (.type q) = some k) → ((∃ c, t = .cls c) → k = false) → PySem.W.kitOne X.K (.type n) (tyVal T t) = some k := by
    intro n hn k h1 h2
    cases t with
    | cls c =>
      rw [h2 ⟨c, rfl⟩]
      exact O.fs.kib n c (ht c rfl) hn
    | _ => exact h1 _ rfl
  have hT := O.fs.K.symm
  cases x with
  | non =>
    unfold RV at rv; subst rv
    refine ⟨_, .base .non, bt "NoneType" (by decide) b ?_ ?_⟩
    · intro q hq; cases t <;> cases hq <;> cases e <;> (first | exact kit_ty (r := true) (by decide +kernel) | exact kit_ty (r := false) (by decide +kernel))
    · rintro ⟨c, rfl⟩; exact (Option.some.inj e).symm
  | bl k =>
    unfold RV at rv; subst rv
    refine ⟨_, .base (.bl k), bt "bool" (by decide) b ?_ ?_⟩
    · intro q hq; cases t <;> cases hq <;> cases e <;> (first | exact kit_ty (r := true) (by decide +kernel) | exact kit_ty (r := false) (by decide +kernel))
    · rintro ⟨c, rfl⟩; exact (Option.some.inj e).symm
  | int k =>
    unfold RV at rv; subst rv
    refine ⟨_, .base (.int k), bt "int" (by decide) b ?_ ?_⟩
    · intro q hq; cases t <;> cases hq <;> cases e <;> (first | exact kit_ty (r := true) (by decide +kernel) | exact kit_ty (r := false) (by decide +kernel))
    · rintro ⟨c, rfl⟩; exact (Option.some.inj e).symm
  | str k =>
    unfold RV at rv; subst rv
    refine ⟨_, .base (.str k), bt "str" (by decide) b ?_ ?_⟩
    · intro q hq; cases t <;> cases hq <;> cases e <;> (first | exact kit_ty (r := true) (by decide +kernel) | exact kit_ty (r := false) (by decide +kernel))
    · rintro ⟨c, rfl⟩; exact (Option.some.inj e).symm
  | tup xs =>
    unfold RV at rv
    obtain ⟨p, vs, rfl, q, _⟩ := rv
    rw [hT] at q
    have hk : PySem.W.kitOne X.K (.type "tuple") (tyVal T t) = some b := bt "tuple" (by decide) b (by intro q hq; cases t <;> cases hq <;> cases e <;> (first | exact kit_ty (r := true) (by decide +kernel) | exact kit_ty (r := false) (by decide +kernel))) (by rintro ⟨c, rfl⟩; exact (Option.some.inj e).symm)
    rcases q with (q | ⟨u, q⟩) | ⟨ob, its, n, q, c, _⟩
    · exact ⟨_, .base (.tup q), hk⟩
    · exact ⟨_, .fTuple q, hk⟩
    · exact ⟨_, .kTuple q c, hk⟩
  | lst xs =>
    unfold RV at rv
    obtain ⟨p, vs, rfl, q, _⟩ := rv
    refine ⟨_, .base (.lst q.1), bt "list" (by decide) b ?_ ?_⟩
    · intro q hq; cases t <;> cases hq <;> cases e <;> (first | exact kit_ty (r := true) (by decide +kernel) | exact kit_ty (r := false) (by decide +kernel))
    · rintro ⟨c, rfl⟩; exact (Option.some.inj e).symm
  | obj c fs =>
    unfold RV at rv
    obtain ⟨p, dx, vs, rfl, q, _⟩ := rv
    have hc := ho c fs rfl
    refine ⟨_, .base (.ins q (O.fs.cl c hc).1 (O.fs.cA c hc) O.fs.cG O.fs.cT (O.fs.cM c hc)), ?_⟩
    rw [O.fs.kit c hc t ht]
    cases t <;> exact e
  | cell n => cases e
  | scr n => cases e
theorem se_isi {t : Ty} {tn : Str} (O : CxOk T Φ J lv N sc X) (hg : Gl X "isinstance") (ht : PE X b (tC (match t with | .cls c => V.ref (T.cls c) | .int => .ty "int" | .bool => .ty "bool" | .str => .ty "str" | .tuple => .ty "tuple" | .list => .ty "list"))) (htc : ∀ c', t = Ty.cls c' → c' < J.nc) (ha : PE X a (tE T W false f)) (hs : notStar a = true) (hsb : notStar b = true) :
    PE X (.Call (.Name "isinstance" p) [a, b] [] pos) (tE T W false fun env cs => (f env cs).bind fun x cs => (R.ofO (isiN Φ.nc x t) cs).bind fun b cs => .ok (.bl b) cs) := by
  have hp := pe_callB (p := p) (pos := pos) call_isi hg O.fs.isi PyProof.Rows.boot_isinstance (pa_cons ha (pa_cons ht pa_nil (star_one hsb)) (star_cons hs)) (by decide +kernel) (by decide +kernel) (star_cons hs) (star_any (by rw [List.all_cons, hsb]; rfl))
  refine PE.by' hp fun σ H Q S κ env cs rs re w => ?_
  refine tE.use rs re w fun v H1 x cs1 κ1 st1 rs1 rv1 w1 => ?_
  obtain ⟨r, er, w2⟩ := w1.ofOb
  have er' : isiO x t = some r ∧ ∀ c fs, x = .obj c fs → c < J.nc := by
    cases x <;> first | exact ⟨er, fun _ _ z => nomatch z⟩ | skip
    rename_i c fs
    unfold isiN at er
    dsimp only at er
    split at er
    · rename_i hc
      rw [O.fs.nce] at hc
      exact ⟨er, fun c' fs' z => by cases z; exact hc⟩
    · cases er
  obtain ⟨ty, h1, h2⟩ := ty_of O rv1 htc er'.2 er'.1
  refine ⟨v, _, ty, tyVal T t, r, rfl, ?_, h1, h2, w2.ok rs1 rv_bl⟩
  cases t <;> first | exact .ty _ | exact .own _

/-! ### tests -/
theorem tru_of {x : IV} {v : V} {k : Bool} (hT : T.K = X.K) (rv : RV T S κ H x v) (e : truI x = some k) : TruV X.K v H k := by
  cases x with
  | non => unfold RV at rv; subst rv; exact (Option.some.inj e).symm
  | bl b => unfold RV at rv; subst rv; exact (Option.some.inj e).symm
  | int b => unfold RV at rv; subst rv; exact (Option.some.inj e).symm
  | str b =>
    unfold RV at rv; subst rv
    unfold truI at e
    dsimp only at e
    split at e
    · rename_i hl
      refine ⟨Nat.le_trans hl line6, ?_⟩
      rw [← Option.some.inj e]
      cases hb : b.length with
      | zero => rfl
      | succ n =>
        have h1 : ((n + 1 : Nat) : Int) ≠ 0 := by omega
        have h2 : (n + 1 : Nat) ≠ 0 := by omega
        rw [bne_iff_ne.mpr h2, bne_iff_ne.mpr h1]
    · cases e
  | tup xs =>
    obtain ⟨p, vs, rfl, q, r⟩ := rv_ref_tup rv
    refine .inr (.inl ⟨vs, hT ▸ q, ?_⟩)
    rw [← Option.some.inj e]
    have := r.len
    cases xs <;> cases vs <;> first | rfl | simp at this
  | lst xs =>
    obtain ⟨p, vs, rfl, q, r⟩ := rv_ref_lst rv
    refine .inl ⟨vs, q.sql, ?_⟩
    rw [← Option.some.inj e]
    have := r.len
    cases xs <;> cases vs <;> first | rfl | simp at this
  | _ => cases e
theorem R.bind_assoc {α β γ : Type} (r : R α) (f : α → Cs → R β) (g : β → Cs → R γ) : (r.bind f).bind g = r.bind fun a cs => (f a cs).bind g := by cases r <;> rfl
def truF (f : Env → Cs → R IV) : Env → Cs → R IV := fun env cs => (f env cs).bind fun v cs => (R.ofO (truI v) cs).bind fun b cs => .ok (.bl b) cs
theorem wp_test {x : IV} {v : V} {cs : Cs} {Qb : Bool → Hp → Prop} (hT : T.K = X.K) (rs : RS T S κ H cs) (rv : RV T S κ H x v) (w : Wp T S E κ H false ((R.ofO (truI x) cs).bind fun b cs => .ok (.bl b) cs) fun v H' => ∃ b, v = .bl b ∧ Qb b H') : ∃ k, TruV X.K v H k ∧ Qb k H := by
  obtain ⟨k, ek, w⟩ := w.ofOb
  obtain ⟨b, eb, q⟩ := w.ok rs rv_bl
  cases eb
  exact ⟨k, tru_of hT rv ek, q⟩
/-- an expression's truth -/
theorem st_of (O : CxOk T Φ J lv N sc X) (h : PE X e (tE T W false f)) (he : ∀ whole, isTrue e X.env whole = (do let v ← whole; standAt e.pos; holding [v] (truthy v))) : PT X e (tT T W (truF f)) := by
  refine ⟨fun pins s σ H Q I ⟨S, κ, env, cs, rs, re, w⟩ => ?_⟩
  refine (pt_truth h he).run pins s σ H Q I ?_
  refine tE.use (f := f) (g := fun v cs => (R.ofO (truI v) cs).bind fun b cs => .ok (.bl b) cs) rs re w fun v H1 x cs1 κ1 st1 rs1 rv1 w1 => ?_
  exact wp_test O.fs.K.symm rs1 rv1 w1
theorem st_cmp {op : CmpOp} {h : IV → IV → Cs → R IV} (O : CxOk T Φ J lv N sc X) (o : OpS T W X (compareOp op) h) (ha : PE X a (tE T W false f1)) (hb : PE X b (tE T W false f2)) (hm : behindInMarks op b = false) :
    PT X (.Compare a [op] [b] pos) (tT T W (truF fun env cs => (f1 env cs).bind fun x cs => (f2 env cs).bind fun y cs => h x y cs)) := by
  refine ⟨fun pins s σ H Q I ⟨S, κ, env, cs, rs, re, w⟩ => ?_⟩
  have w' : Wp T S (fun c d H' => W c d σ H') κ H false ((f1 env cs).bind fun x cs => (f2 env cs).bind fun y cs => (h x y cs).bind fun v cs => (R.ofO (truI v) cs).bind fun b cs => .ok (.bl b) cs) fun v H' => ∃ b, v = .bl b ∧ Q b H' := by
    unfold truF at w
    simp only [R.bind_assoc] at w
    exact w
  refine wpAny_isTrue_Compare1 (thn (use ha I rs re w') fun v s1 ⟨vv, H1, I1, r1, x, cs1, κ1, st1, rs1, rv1, w1⟩ => thn (use hb I1 rs1 (re.mv st1.mv) w1) fun u s2 ⟨uu, H2, I2, r2, y, cs2, κ2, st2, rs2, rv2, w2⟩ => ?_) hm
  refine thn (o pins s2 σ H2 S κ2 cs2 x y vv uu v u _ I2 rs2 (st2.mv.rv _ _ rv1) rv2 r1 r2 w2.bind) fun k s3 ⟨kv, H3, I3, r3, z, cs3, κ3, st3, rs3, rv3, w3⟩ => ?_
  exact tru_ok pins s3 σ H3 kv k Q I3 r3 (wp_test O.fs.K.symm rs3 rv3 w3)
theorem st_isN {j : Nat} (ha : PE X a (tE T W false f)) : PT X (.Compare a [.Is] [.Constant .none j p] pos) (tT T W (truF fun env cs => (f env cs).bind fun x cs => .ok (.bl (isNon x)) cs)) := by
  refine ⟨fun pins s σ H Q I ⟨S, κ, env, cs, rs, re, w⟩ => (pt_cmp (pc_isN ha) rfl).run pins s σ H Q I ?_⟩
  have w' : Wp T S (fun c d H' => W c d σ H') κ H false ((f env cs).bind fun x cs => .ok (.bl (isNon x)) cs) fun v H' => ∃ b, v = .bl b ∧ Q b H' := by
    unfold truF at w
    simp only [R.bind_assoc, R.bind_ok, truI, R.ofO_some] at w
    exact w
  refine tE.use rs re w' fun v H1 x cs1 κ1 st1 rs1 rv1 w1 => ?_
  have : decide (v = .non) = isNon x := by
    cases x <;> (unfold RV at rv1; first | (subst rv1; rfl) | (obtain ⟨a, rfl, _⟩ := rv1; rfl) | (obtain ⟨a, _, rfl, _⟩ := rv1; rfl) | (obtain ⟨a, _, _, rfl, _⟩ := rv1; rfl))
  rw [this]
  exact w1.ok rs1 rv_bl
theorem st_notN {j : Nat} (ha : PE X a (tE T W false f)) : PT X (.Compare a [.IsNot] [.Constant .none j p] pos) (tT T W (truF fun env cs => (f env cs).bind fun x cs => .ok (.bl (!(isNon x))) cs)) := by
  refine ⟨fun pins s σ H Q I ⟨S, κ, env, cs, rs, re, w⟩ => (pt_cmp (pc_notN ha) rfl).run pins s σ H Q I ?_⟩
  have w' : Wp T S (fun c d H' => W c d σ H') κ H false ((f env cs).bind fun x cs => .ok (.bl (!(isNon x))) cs) fun v H' => ∃ b, v = .bl b ∧ Q b H' := by
    unfold truF at w
    simp only [R.bind_assoc, R.bind_ok, truI, R.ofO_some] at w
    exact w
  refine tE.use rs re w' fun v H1 x cs1 κ1 st1 rs1 rv1 w1 => ?_
  have : decide (v = .non) = isNon x := by
    cases x <;> (unfold RV at rv1; first | (subst rv1; rfl) | (obtain ⟨a, rfl, _⟩ := rv1; rfl) | (obtain ⟨a, _, rfl, _⟩ := rv1; rfl) | (obtain ⟨a, _, _, rfl, _⟩ := rv1; rfl))
  rw [this]
  exact w1.ok rs1 rv_bl
end
end EG

-- EngN
/-! Engine N: and, or, not, choice, chains; what is walked; comprehensions. -/
namespace EG
open PySem PySem.Spec L2 PyProof.Rows
section
variable {T : CT} {Φ : Fns} {J : TX} {lv : Nat} {W : WX} {X : Cx} {S : Addr → Prop} {κ κ' : List Addr} {H H' : Hp} {env : Env} {cs : Cs} {σ : L2.St} {fr : Bool} {Q : VK} {N : List Str} {sc : Scope} {pins : List (Addr × Obj)} {s : Shared} {A : Around} {a b c e o : Expr} {es rest : List Expr} {f : Env → Cs → R IV} {g : Env → Cs → R (List IV)} {p p2 pos apos : Pos} {x : Str} {E : Value → Option Addr → Hp → Prop} {f1 f2 f3 : Env → Cs → R IV}

/-! ### and, or, not -/
theorem asB_some {x : IV} {k : Bool} (h : asB x = some k) : x = .bl k := by
  cases x <;> first | (cases h; rfl) | cases h
def andF (f1 f2 : Env → Cs → R IV) : Env → Cs → R IV := fun env cs => (f1 env cs).bind fun x cs => (R.ofO (asB x) cs).bind fun x cs => if x then f2 env cs else .ok (.bl false) cs
def orF (f1 f2 : Env → Cs → R IV) : Env → Cs → R IV := fun env cs => (f1 env cs).bind fun x cs => (R.ofO (asB x) cs).bind fun x cs => if x then .ok (.bl true) cs else f2 env cs
def notF (f1 : Env → Cs → R IV) : Env → Cs → R IV := fun env cs => (f1 env cs).bind fun x cs => (R.ofO (asB x) cs).bind fun x cs => .ok (.bl (!x)) cs
theorem se_and (ha : PE X a (tE T W false f1)) (hb : PE X (.BoolOp .And (b :: rest) pos) (tE T W false f2)) : PE X (.BoolOp .And (a :: b :: rest) pos) (tE T W false (andF f1 f2)) :=
  PE.by' (pe_and ha hb) fun σ H Q S κ env cs rs re w => tE.use rs re w fun v H1 x cs1 κ1 st1 rs1 rv1 w1 => by
    obtain ⟨k, ek, w2⟩ := w1.ofOb
    rw [asB_some ek] at rv1
    unfold RV at rv1
    refine ⟨k, rv1, ?_⟩
    cases k with
    | true => exact ⟨S, κ1, env, cs1, rs1, re.mv st1.mv, w2⟩
    | false => exact Wp.ok (x := .bl false) w2 rs1 rv_bl
theorem se_or (ha : PE X a (tE T W false f1)) (hb : PE X (.BoolOp .Or (b :: rest) pos) (tE T W false f2)) : PE X (.BoolOp .Or (a :: b :: rest) pos) (tE T W false (orF f1 f2)) :=
  PE.by' (pe_or ha hb) fun σ H Q S κ env cs rs re w => tE.use rs re w fun v H1 x cs1 κ1 st1 rs1 rv1 w1 => by
    obtain ⟨k, ek, w2⟩ := w1.ofOb
    rw [asB_some ek] at rv1
    unfold RV at rv1
    refine ⟨k, rv1, ?_⟩
    cases k with
    | false => exact ⟨S, κ1, env, cs1, rs1, re.mv st1.mv, w2⟩
    | true => exact Wp.ok (x := .bl true) w2 rs1 rv_bl
theorem se_not (ha : PE X a (tE T W false f1)) : PE X (.UnaryOp .Not a pos) (tE T W false (notF f1)) :=
  PE.by' (pe_not ha) fun σ H Q S κ env cs rs re w => tE.use rs re w fun v H1 x cs1 κ1 st1 rs1 rv1 w1 => by
    obtain ⟨k, ek, w2⟩ := w1.ofOb
    rw [asB_some ek] at rv1
    unfold RV at rv1
    exact ⟨k, rv1, w2.ok rs1 rv_bl⟩
/-- a test's part: its answer, then the rest -/
theorem tT.use {f : Env → Cs → R IV} {g : IV → Cs → R IV} {Qb : Bool → Hp → Prop} {Z : VK} (rs : RS T S κ H cs) (re : RE T S κ H env σ) (w : Wp T S (fun c d H' => W c d σ H') κ H false ((f env cs).bind g) Z)
    (k : ∀ b H1 cs1 κ1, Stp κ H κ1 H1 → RS T S κ1 H1 cs1 → Wp T S (fun c d H' => W c d σ H') κ1 H1 false (g (.bl b) cs1) Z → Qb b H1) (hb : ∀ x cs1, f env cs = .ok x cs1 → ∃ b, x = .bl b) : tT T W f σ H Qb := by
  refine ⟨S, κ, env, cs, rs, re, ?_⟩
  have w2 := w.bind
  clear w2
  revert w hb
  cases f env cs with
  | ok x cs1 =>
    intro w hb κ' H' v st rs' rv _
    obtain ⟨b, rfl⟩ := hb x cs1 rfl
    unfold RV at rv
    exact ⟨b, rv, k b H' cs1 κ' st rs' (Wp.step (r := g (.bl b) cs1) w st)⟩
  | exc c pl cs => exact fun w _ => w
  | stuck => exact fun w _ => w
/-- its answers are True and False -/
def IsB (f : Env → Cs → R IV) : Prop := ∀ env cs x cs1, f env cs = .ok x cs1 → ∃ b, x = .bl b
theorem st_and1 {op : BoolOp} (hop : op = .And ∨ op = .Or) (ha : PT X a (tT T W f1)) : PW X (.BoolOp op [a] pos) (tT T W f1) := by
  rcases hop with rfl | rfl
  · exact pw_and1 ha
  · exact pw_or1 ha
theorem st_and (h1 : IsB f1) (ha : PT X a (tT T W f1)) (hb : PW X (.BoolOp .And (b :: rest) pos) (tT T W f2)) : PW X (.BoolOp .And (a :: b :: rest) pos) (tT T W (andF f1 f2)) := by
  refine ⟨fun wh pins s σ H Q I ⟨S, κ, env, cs, rs, re, w⟩ => (pw_and ha hb).run wh pins s σ H Q I ?_⟩
  refine tT.use rs re w (fun k H1 cs1 κ1 st1 rs1 w1 => ?_) (h1 env cs)
  cases k with
  | true => exact ⟨S, κ1, env, cs1, rs1, re.mv st1.mv, w1⟩
  | false =>
    obtain ⟨b, e, q⟩ := Wp.ok (x := .bl false) w1 rs1 rv_bl
    cases e; exact q
theorem st_or (h1 : IsB f1) (ha : PT X a (tT T W f1)) (hb : PW X (.BoolOp .Or (b :: rest) pos) (tT T W f2)) : PW X (.BoolOp .Or (a :: b :: rest) pos) (tT T W (orF f1 f2)) := by
  refine ⟨fun wh pins s σ H Q I ⟨S, κ, env, cs, rs, re, w⟩ => (pw_or ha hb).run wh pins s σ H Q I ?_⟩
  refine tT.use rs re w (fun k H1 cs1 κ1 st1 rs1 w1 => ?_) (h1 env cs)
  cases k with
  | false => exact ⟨S, κ1, env, cs1, rs1, re.mv st1.mv, w1⟩
  | true =>
    obtain ⟨b, e, q⟩ := Wp.ok (x := .bl true) w1 rs1 rv_bl
    cases e; exact q
theorem st_not (h1 : IsB f1) (ha : PT X a (tT T W f1)) : PT X (.UnaryOp .Not a pos) (tT T W (notF f1)) := by
  refine ⟨fun pins s σ H Q I ⟨S, κ, env, cs, rs, re, w⟩ => (pt_not ha).run pins s σ H Q I ?_⟩
  refine tT.use rs re w (fun k H1 cs1 κ1 st1 rs1 w1 => ?_) (h1 env cs)
  obtain ⟨b, e, q⟩ := Wp.ok (x := .bl (!k)) w1 rs1 rv_bl
  cases e; exact q
def iteF (f1 f2 f3 : Env → Cs → R IV) : Env → Cs → R IV := fun env cs => (f1 env cs).bind fun x cs => (R.ofO (asB x) cs).bind fun x cs => if x then f2 env cs else f3 env cs
theorem se_ite (h1 : IsB f1) (hc : PT X c (tT T W f1)) (ha : PE X a (tE T W false f2)) (hb : PE X b (tE T W false f3)) : PE X (.IfExp c a b pos) (tE T W false (iteF f1 f2 f3)) :=
  PE.by' (pe_ifExp hc ha hb) fun σ H Q S κ env cs rs re w => tT.use rs re w (fun k H1 cs1 κ1 st1 rs1 w1 => by
    cases k with
    | true => exact ⟨S, κ1, env, cs1, rs1, re.mv st1.mv, w1⟩
    | false => exact ⟨S, κ1, env, cs1, rs1, re.mv st1.mv, w1⟩) (h1 env cs)
def tIfT (t ta tb : TT) : TT := fun σ H Q => t σ H fun c H1 => if c = true then ta σ H1 Q else tb σ H1 Q
theorem pt_ifExp {tc ta tb : TT} (hc : PT X c tc) (ha : PT X a ta) (hb : PT X b tb) : PT X (.IfExp c a b pos) (tIfT tc ta tb) := by
  refine ⟨fun pins s σ H Q I h => ?_⟩
  refine isTrue_IfExp (thn (hc.run pins s σ H _ I h) fun d s1 ⟨H1, I1, q1⟩ => ?_)
  cases d with
  | true => exact ha.run pins s1 σ H1 Q I1 q1
  | false => exact hb.run pins s1 σ H1 Q I1 q1
theorem st_ite (h1 : IsB f1) (hc : PT X c (tT T W f1)) (ha : PT X a (tT T W f2)) (hb : PT X b (tT T W f3)) : PT X (.IfExp c a b pos) (tT T W (iteF f1 f2 f3)) := by
  refine ⟨fun pins s σ H Q I ⟨S, κ, env, cs, rs, re, w⟩ => (pt_ifExp hc ha hb).run pins s σ H Q I ?_⟩
  refine tT.use rs re w (fun k H1 cs1 κ1 st1 rs1 w1 => ?_) (h1 env cs)
  cases k with
  | true => exact ⟨S, κ1, env, cs1, rs1, re.mv st1.mv, w1⟩
  | false => exact ⟨S, κ1, env, cs1, rs1, re.mv st1.mv, w1⟩
/-- a op b op c -/
def chF (f1 f2 f3 : Env → Cs → R IV) (h1 h2 : IV → IV → Cs → R IV) : Env → Cs → R IV := fun env cs => (f1 env cs).bind fun x cs => (f2 env cs).bind fun y cs => (h1 x y cs).bind fun r cs => (R.ofO (asB r) cs).bind fun r cs =>
      if r then (f3 env cs).bind fun z cs => h2 y z cs else .ok (.bl false) cs
theorem se_chain {op op' : CmpOp} {h1 h2 : IV → IV → Cs → R IV} (o1 : OpS T W X (compareOp op) h1) (o2 : OpS T W X (compareOp op') h2) (ha : PE X a (tE T W false f1)) (hb : PE X b (tE T W false f2)) (hc : PE X c (tE T W false f3)) (hm : lastMarks [op, op'] [b, c] = false) :
    PE X (.Compare a [op, op'] [b, c] pos) (tE T W false (chF f1 f2 f3 h1 h2)) := by
  refine PE.of fun pins s σ H Q S κ env cs I rs re w => ?_
  refine Compare_chain (thn (use ha I rs re w) fun v s1 ⟨vv, H1, I1, r1, x, cs1, κ1, st1, rs1, rv1, w1⟩ => chain_link (thn (use hb I1 rs1 (re.mv st1.mv) w1) fun u s2 ⟨uu, H2, I2, r2, y, cs2, κ2, st2, rs2, rv2, w2⟩ => ?_)) hm
  refine thn (o1 pins s2 σ H2 S κ2 cs2 x y vv uu v u _ I2 rs2 (st2.mv.rv _ _ rv1) rv2 r1 r2 w2.bind) fun d s3 ⟨z, H3, I3, r3, k, cs3, κ3, st3, rs3, rv3, w3⟩ => ?_
  obtain ⟨k', ek, w4⟩ := w3.ofOb
  rw [asB_some ek] at rv3
  unfold RV at rv3
  subst rv3
  cases r3
  refine wpAny_truthy_bool ?_
  cases k' with
  | false => exact ite_ff ⟨.bl false, H3, I3, rfl, Wp.ok (x := .bl false) w4 rs3 rv_bl⟩
  | true => exact ite_tt (chain_last (thn (use hc I3 rs3 (re.mv ((st1.trans st2).trans st3).mv) w4) fun w' s4 ⟨z', H4, I4, r4, zi, cs4, κ4, st4, rs4, rv4, w5⟩ => o2 pins s4 σ H4 S κ4 cs4 y zi uu z' u w' Q I4 rs4 ((st3.trans st4).mv.rv _ _ rv2) rv4 r2 r4 w5))
theorem st_chain {op op' : CmpOp} {h1 h2 : IV → IV → Cs → R IV} (O : CxOk T Φ J lv N sc X) (o1 : OpS T W X (compareOp op) h1) (o2 : OpS T W X (compareOp op') h2) (ha : PE X a (tE T W false f1)) (hb : PE X b (tE T W false f2)) (hc : PE X c (tE T W false f3)) (hm : lastMarks [op, op'] [b, c] = false) :
    PT X (.Compare a [op, op'] [b, c] pos) (tT T W (truF (chF f1 f2 f3 h1 h2))) := by
  refine ⟨fun pins s σ H Q I ⟨S, κ, env, cs, rs, re, w⟩ => ?_⟩
  have w' : Wp T S (fun c d H' => W c d σ H') κ H false ((f1 env cs).bind fun x cs => (f2 env cs).bind fun y cs => (h1 x y cs).bind fun r cs => (R.ofO (asB r) cs).bind fun r cs =>
      if r then (f3 env cs).bind fun z cs => (h2 y z cs).bind fun v cs => (R.ofO (truI v) cs).bind fun b cs => .ok (.bl b) cs else .ok (.bl false) cs) fun v H' => ∃ b, v = .bl b ∧ Q b H' := by
    unfold truF chF at w
    simp only [R.bind_assoc] at w
    have e : ∀ (env : Env) (y : IV) (r : Bool) (cs : Cs), ((if r = true then (f3 env cs).bind fun z cs => h2 y z cs else R.ok (IV.bl false) cs).bind fun v cs => (R.ofO (truI v) cs).bind fun b cs => R.ok (IV.bl b) cs) = (if r = true then (f3 env cs).bind fun z cs => (h2 y z cs).bind fun v cs => (R.ofO (truI v) cs).bind fun b cs => .ok (.bl b) cs else .ok (.bl false) cs) := by
      intro env y r cs
      cases r with
      | true => exact R.bind_assoc _ _ _
      | false => rfl
    simp only [e] at w
    exact w
  refine isTrue_chain (thn (use ha I rs re w') fun v s1 ⟨vv, H1, I1, r1, x, cs1, κ1, st1, rs1, rv1, w1⟩ => test_link (thn (use hb I1 rs1 (re.mv st1.mv) w1) fun u s2 ⟨uu, H2, I2, r2, y, cs2, κ2, st2, rs2, rv2, w2⟩ => ?_)) hm
  refine thn (o1 pins s2 σ H2 S κ2 cs2 x y vv uu v u _ I2 rs2 (st2.mv.rv _ _ rv1) rv2 r1 r2 w2.bind) fun d s3 ⟨z, H3, I3, r3, k, cs3, κ3, st3, rs3, rv3, w3⟩ => ?_
  obtain ⟨k', ek, w4⟩ := w3.ofOb
  rw [asB_some ek] at rv3
  unfold RV at rv3
  subst rv3
  cases r3
  refine wpAny_truthy_bool ?_
  cases k' with
  | false =>
    obtain ⟨b, e, q⟩ := Wp.ok (x := .bl false) w4 rs3 rv_bl
    cases e
    exact ite_ff ⟨H3, I3, q⟩
  | true =>
    refine ite_tt (test_last (thn (use hc I3 rs3 (re.mv ((st1.trans st2).trans st3).mv) w4) fun w' s4 ⟨z', H4, I4, r4, zi, cs4, κ4, st4, rs4, rv4, w5⟩ => ?_))
    refine thn (o2 pins s4 σ H4 S κ4 cs4 y zi uu z' u w' _ I4 rs4 ((st3.trans st4).mv.rv _ _ rv2) rv4 r2 r4 w5.bind) fun d' s5 ⟨z2, H5, I5, r5, zz, cs5, κ5, st5, rs5, rv5, w6⟩ => ?_
    exact tru_ok pins s5 σ H5 z2 d' Q I5 r5 (wp_test O.fs.K.symm rs5 rv5 w6)
end
end EG

-- EngO
/-! Engine O: what is walked, targets, comprehensions. -/
namespace EG
open PySem PySem.Spec L2 PyProof.Rows
section
variable {T : CT} {Φ : Fns} {J : TX} {lv : Nat} {W : WX} {X : Cx} {S : Addr → Prop} {κ κ' : List Addr} {H H' : Hp} {env : Env} {cs : Cs} {σ : L2.St} {fr : Bool} {Q : VK} {N : List Str} {sc : Scope} {pins : List (Addr × Obj)} {s : Shared} {A : Around} {a b c e o tg iter : Expr} {es rest : List Expr} {f : Env → Cs → R IV} {g : Env → Cs → R (List IV)} {p p2 pos apos : Pos} {x : Str} {E : Value → Option Addr → Hp → Prop} {f1 f2 f3 : Env → Cs → R IV}
/-- places that were free -/
theorem Mv.adds {S' : Addr → Prop} (h : ∀ a, S' a → S a ∨ H a = none) : Mv T S κ H S' κ H where
  l := fun a vs ⟨q, n, n'⟩ => ⟨q, fun z => (h a z).elim n fun z => (by rw [q] at z; cases z), n'⟩
  t := fun _ _ q => q
  r := fun _ _ q => q
  o := fun a C dx fs e n => ⟨e, fun z => (h a z).elim n.1 fun z => (by rw [e] at z; cases z), n.2⟩
  c := fun _ _ e => e
/-- from (κ, H) to (κ', H'): only what stands in cells, or at P, may have changed -/
structure StpO (P : Addr → Prop) (κ : List Addr) (H : Hp) (κ' : List Addr) (H' : Hp) : Prop where
  pre : ∃ r, κ' = κ ++ r
  fresh : ∀ a ∈ κ', a ∈ κ ∨ H a = none ∨ P a
  evo : ∀ a o, H a = some o → (Sealed o ∨ (a ∉ κ ∧ ¬ P a)) → H' a = some o
theorem Stp.loose {P : Addr → Prop} (s : Stp κ H κ' H') : StpO P κ H κ' H' := ⟨s.pre, fun a h => (s.fresh a h).imp id .inl, fun a o e q => s.evo a o e (q.imp id And.left)⟩
theorem StpO.notin {P : Addr → Prop} {a : Addr} {o : HO} (s : StpO P κ H κ' H') (e : H a = some o) (n : a ∉ κ) (p : ¬ P a) : a ∉ κ' := fun z => by
  rcases s.fresh a z with z | z | z
  · exact n z
  · rw [e] at z; cases z
  · exact p z
theorem StpO.mv {S' : Addr → Prop} (s : StpO S κ H κ' H') (hS : ∀ a, S' a → S a ∨ H a = none) : Mv T S κ H S' κ' H' where
  l := fun a vs ⟨q, n, n'⟩ => ⟨s.evo a _ q (.inr ⟨n', n⟩), fun z => (hS a z).elim n fun z => (by rw [q] at z; cases z), s.notin q n' n⟩
  t := fun a vs q => by
    rcases q with (q | ⟨o, q⟩) | q
    · exact .inl (.inl (s.evo a _ q (.inl trivial)))
    · exact .inl (.inr ⟨o, s.evo a _ q (.inl trivial)⟩)
    · exact .inr q
  r := fun a vs q => by
    rcases q with ⟨o, q⟩ | q
    · exact .inl ⟨o, s.evo a _ q (.inl trivial)⟩
    · exact .inr q
  o := fun a C dx fs e n => ⟨s.evo a _ e (.inr ⟨n.2, n.1⟩), fun z => (hS a z).elim n.1 fun z => (by rw [e] at z; cases z), s.notin e n.2 n.1⟩
  c := fun n a e => by
    obtain ⟨r, e'⟩ := s.pre
    rw [e', List.getElem?_append_left (List.getElem?_eq_some_iff.mp e).1]
    exact e
theorem StpO.sqt {K : PySem.W.Frag} {P : Addr → Prop} {a : Addr} {vs : List V} (s : StpO P κ H κ' H') (q : SqT K H a vs) : SqT K H' a vs := by
  rcases q with (q | ⟨o, q⟩) | q
  · exact .inl (.inl (s.evo a _ q (.inl trivial)))
  · exact .inl (.inr ⟨o, s.evo a _ q (.inl trivial)⟩)
  · exact .inr q
theorem StpO.sqv {a : Addr} {vs : List V} (s : StpO S κ H κ' H') (q : SqV S κ H a vs) : SqV S κ' H' a vs := ⟨s.evo a _ q.1 (.inr ⟨q.2.2, q.2.1⟩), q.2.1, s.notin q.1 q.2.2 q.2.1⟩
/-- the iterator yields what stands for xs -/
def Walk (T : CT) (S : Addr → Prop) (κ : List Addr) (H : Hp) (J : It) (xs : List IV) : Prop := ∀ (i : Nat) (κ' : List Addr) (H' : Hp) (S' : Addr → Prop) (cs : Cs), StpO S κ H κ' H' → (∀ a, S' a → S a ∨ H a = none) → RS T S' κ' H' cs →
  (∀ x, xs[i]? = some x → J.go i H' ∧ ∀ v H'', J.yld i H' v H'' → Stp κ' H' κ' H'' ∧ RS T S' κ' H'' cs ∧ RV T S' κ' H'' x v) ∧ (xs.length ≤ i → J.stop i H')
def tI (T : CT) (W : WX) (f : Env → Cs → R (List IV)) : TI := fun σ H R => ∃ S κ env cs, RS T S κ H cs ∧ RE T S κ H env σ ∧ Wk T S (fun c d H' => W c d σ H') κ H (f env cs) fun xs cs' κ' H' => ∀ J, Walk T S κ' H' J xs → R J H'
theorem SqV.of {K : PySem.W.Frag} {a : Addr} {vs ys : List V} (h : SqV S κ H a vs) (q : SqL K H a ys) (hK : ∀ (o : Obj), K.lookup a = some o → False) : ys = vs := by
  rcases q with (q | ⟨o, q⟩) | ⟨o, _, _, q, _⟩
  · rw [h.1] at q; cases q; rfl
  · rw [h.1] at q; cases q
  · exact (hK o q).elim
/-- a list or a tuple -/
theorem pi_seq (hT : T.K = X.K) (h : PE X iter (tE T W false f)) : PI X tg iter (tI T W fun env cs => (f env cs).bind fun x cs => R.ofO (seqI x) cs) := by
  refine ⟨fun pins s σ H R I ⟨S, κ, env, cs, rs, re, w⟩ => ?_⟩
  refine thn (h.run pins s σ H _ I ⟨S, κ, env, cs, rs, re, (Wk.bind w)⟩) fun v s1 ⟨vv, H1, I1, r1, x, cs1, κ1, st1, rs1, rv1, w1⟩ => ?_
  cases x <;> first | exact w1.elim | skip
  · -- a tuple
    rename_i xs
    have w2 := w1 κ1 H1 Stp.rfl' rs1
    obtain ⟨a, vs, rfl, q, r⟩ := rv_ref_tup rv1
    cases r1
    have q' : SqT X.K H1 a vs := hT ▸ q
    obtain ⟨its, rv, p, hz⟩ := I1.tuple q'
    refine wpAny_pyIter_tuple (show s1.heap.IsTuple a its.toArray from p) ?_
    refine ⟨s1.heap.objs.size, [s1.heap.objs.size], _, _, H1, rfl, I1.kept (t' := s1.toks) fun b o e => Heap.get?_push_of_some _ e, turn_tuple a _, ⟨_, Heap.get?_push_size _ rfl, rfl, rfl⟩, fun b hb => ?_, w2 _ ?_⟩
    · have e : b = s1.heap.objs.size := by simpa using hb
      subst e
      exact I1.fpOk (Nat.le_refl _) (I1.hok.fresh (Nat.le_refl _))
    · intro i κ' H' S' cs' st hS rs'
      have q2 : SqT X.K H' a vs := hT ▸ StpO.sqt st q
      refine ⟨fun x hx => ?_, fun hl => ⟨vs, q2, by rw [← r.len]; exact hl⟩⟩
      obtain ⟨u, hu, ru⟩ := r.get hx
      refine ⟨⟨vs, u, q2, hu⟩, fun v H'' y => ?_⟩
      obtain ⟨e, y⟩ := y
      subst e
      have e2 := y vs q2
      rw [hu] at e2; cases e2
      exact ⟨Stp.rfl', rs', (st.mv hS).rv _ _ ru⟩
  · -- a list
    rename_i xs
    have w2 := w1 κ1 H1 Stp.rfl' rs1
    obtain ⟨a, vs, rfl, q, r⟩ := rv_ref_lst rv1
    cases r1
    have q' : SqL X.K H1 a vs := q.sql
    obtain ⟨its, rv, p, hz⟩ := I1.list q'
    refine wpAny_pyIter_list p.isList ?_
    refine ⟨s1.heap.objs.size, [s1.heap.objs.size], _, _, H1, rfl, I1.kept (t' := s1.toks) fun b o e => Heap.get?_push_of_some _ e, turn_list a _, ⟨_, Heap.get?_push_size _ rfl, rfl, rfl⟩, fun b hb => ?_, w2 _ ?_⟩
    · have e : b = s1.heap.objs.size := by simpa using hb
      subst e
      exact I1.fpOk (Nat.le_refl _) (I1.hok.fresh (Nat.le_refl _))
    · intro i κ' H' S' cs' st hS rs'
      have q2 : SqL X.K H' a vs := (st.sqv q).sql
      refine ⟨fun x hx => ?_, fun hl => ⟨vs, q2, by rw [← r.len]; exact hl⟩⟩
      obtain ⟨u, hu, ru⟩ := r.get hx
      refine ⟨⟨vs, u, q2, hu⟩, fun v H'' y => ?_⟩
      obtain ⟨e, y⟩ := y
      subst e
      have e2 := y vs q2
      rw [hu] at e2; cases e2
      exact ⟨Stp.rfl', rs', (st.mv hS).rv _ _ ru⟩
theorem rng_get {lo : Int} {n i : Nat} {x : IV} (h : (rngI lo n)[i]? = some x) : i < n ∧ x = .int (lo + (i : Nat)) := by
  unfold rngI at h
  rw [List.getElem?_map] at h
  cases hi : (List.range n)[i]? with
  | none => rw [hi] at h; cases h
  | some j =>
    rw [hi] at h
    obtain ⟨h1, h2⟩ := List.getElem?_eq_some_iff.mp hi
    rw [List.length_range] at h1
    rw [List.getElem_range] at h2
    subst h2
    cases h
    exact ⟨h1, rfl⟩
theorem walk_rng {lo : Int} {n : Nat} : Walk T S κ H (Itr lo n) (rngI lo n) := by
  intro i κ' H' S' cs' st hS rs'
  refine ⟨fun x hx => ?_, fun hl => ?_⟩
  · obtain ⟨h1, rfl⟩ := rng_get hx
    refine ⟨h1, fun v H'' y => ?_⟩
    obtain ⟨e, y⟩ := y
    subst e y
    exact ⟨Stp.rfl', rs', rv_int⟩
  · unfold rngI at hl
    rw [List.length_map, List.length_range] at hl
    exact hl
theorem pi_r1 (O : CxOk T Φ J lv N sc X) (hg : Gl X "range") (h : PE X a (tE T W false f)) (hs : notStar a = true) : PI X tg (.Call (.Name "range" p) [a] [] pos) (tI T W fun env cs => (f env cs).bind fun x cs => match x with
      | .int j => if -(2 ^ 62) ≤ j ∧ j < 2 ^ 62 then .ok (rngI 0 j.toNat) cs else .stuck
      | _ => .stuck) := by
  refine ⟨fun pins s σ H R I ⟨S, κ, env, cs, rs, re, w⟩ => (pi_range1 (tg := tg) hg O.fs.rng (pa_cons h pa_nil (star_cons hs)) (star_one hs)).run pins s σ H R I ?_⟩
  refine ⟨S, κ, env, cs, rs, re, (Wk.bind w).imp fun v H1 ⟨x, cs1, κ1, st1, rs1, rv1, w1⟩ => ?_⟩
  cases x <;> first | exact w1.elim | skip
  rename_i j
  dsimp only at w1
  split at w1
  · rename_i hj
    unfold RV at rv1
    subst rv1
    exact ⟨j, rfl, hj.1, hj.2, w1 κ1 H1 Stp.rfl' rs1 _ walk_rng⟩
  · exact w1.elim
theorem pi_r2 (O : CxOk T Φ J lv N sc X) (hg : Gl X "range") (h1 : PE X a (tE T W false f1)) (h2 : PE X b (tE T W false f2)) (hs : notStar a = true) (hs2 : notStar b = true) : PI X tg (.Call (.Name "range" p) [a, b] [] pos) (tI T W fun env cs => (f1 env cs).bind fun x cs => (f2 env cs).bind fun y cs => match x, y with
      | .int i, .int j => if (-(2 ^ 62) ≤ i ∧ i < 2 ^ 62) ∧ (-(2 ^ 62) ≤ j ∧ j < 2 ^ 62) then .ok (rngI i (j - i).toNat) cs else .stuck
      | _, _ => .stuck) := by
  refine ⟨fun pins s σ H R I ⟨S, κ, env, cs, rs, re, w⟩ => (pi_range2 (tg := tg) hg O.fs.rng (pa_cons h1 (pa_cons h2 pa_nil (star_cons hs2)) (star_cons hs)) (by rw [star_cons hs, star_one hs2]) (star_one hs2)).run pins s σ H R I ?_⟩
  refine ⟨S, κ, env, cs, rs, re, (Wk.bind w).imp fun v H1 ⟨x, cs1, κ1, st1, rs1, rv1, w1⟩ => ⟨S, κ1, env, cs1, rs1, re.mv st1.mv, (Wk.bind w1).imp fun u H2 ⟨y, cs2, κ2, st2, rs2, rv2, w2⟩ => ?_⟩⟩
  cases x with
  | int i => cases y with
    | int j =>
      dsimp only at w2
      split at w2
      · rename_i hj
        replace rv1 := st2.mv.rv _ _ rv1
        unfold RV at rv1 rv2
        subst rv1 rv2
        exact ⟨i, j, rfl, ⟨hj.1.1, hj.1.2, hj.2.1, hj.2.2⟩, w2 κ2 H2 Stp.rfl' rs2 _ walk_rng⟩
      · exact w2.elim
    | _ => exact w2.elim
  | _ => exact w2.elim

/-- a range: whatever is forbidden -/
def tIr (T : CT) (W : WX) (f : Env → Cs → R (List IV)) : TI := fun σ H R => ∃ S κ env cs, RS T S κ H cs ∧ RE T S κ H env σ ∧ Wk T S (fun c d H' => W c d σ H') κ H (f env cs) fun xs cs' κ' H' => ∀ J, (∀ S', Walk T S' κ' H' J xs) → R J H'
theorem pi_r1r (O : CxOk T Φ J lv N sc X) (hg : Gl X "range") (h : PE X a (tE T W false f)) (hs : notStar a = true) : PI X tg (.Call (.Name "range" p) [a] [] pos) (tIr T W fun env cs => (f env cs).bind fun x cs => match x with
      | .int j => if -(2 ^ 62) ≤ j ∧ j < 2 ^ 62 then .ok (rngI 0 j.toNat) cs else .stuck
      | _ => .stuck) := by
  refine ⟨fun pins s σ H R I ⟨S, κ, env, cs, rs, re, w⟩ => (pi_range1 (tg := tg) hg O.fs.rng (pa_cons h pa_nil (star_cons hs)) (star_one hs)).run pins s σ H R I ?_⟩
  refine ⟨S, κ, env, cs, rs, re, (Wk.bind w).imp fun v H1 ⟨x, cs1, κ1, st1, rs1, rv1, w1⟩ => ?_⟩
  cases x <;> first | exact w1.elim | skip
  rename_i j
  dsimp only at w1
  split at w1
  · rename_i hj
    unfold RV at rv1
    subst rv1
    exact ⟨j, rfl, hj.1, hj.2, w1 κ1 H1 Stp.rfl' rs1 _ fun _ => walk_rng⟩
  · exact w1.elim
theorem pi_r2r (O : CxOk T Φ J lv N sc X) (hg : Gl X "range") (h1 : PE X a (tE T W false f1)) (h2 : PE X b (tE T W false f2)) (hs : notStar a = true) (hs2 : notStar b = true) : PI X tg (.Call (.Name "range" p) [a, b] [] pos) (tIr T W fun env cs => (f1 env cs).bind fun x cs => (f2 env cs).bind fun y cs => match x, y with
      | .int i, .int j => if (-(2 ^ 62) ≤ i ∧ i < 2 ^ 62) ∧ (-(2 ^ 62) ≤ j ∧ j < 2 ^ 62) then .ok (rngI i (j - i).toNat) cs else .stuck
      | _, _ => .stuck) := by
  refine ⟨fun pins s σ H R I ⟨S, κ, env, cs, rs, re, w⟩ => (pi_range2 (tg := tg) hg O.fs.rng (pa_cons h1 (pa_cons h2 pa_nil (star_cons hs2)) (star_cons hs)) (by rw [star_cons hs, star_one hs2]) (star_one hs2)).run pins s σ H R I ?_⟩
  refine ⟨S, κ, env, cs, rs, re, (Wk.bind w).imp fun v H1 ⟨x, cs1, κ1, st1, rs1, rv1, w1⟩ => ⟨S, κ1, env, cs1, rs1, re.mv st1.mv, (Wk.bind w1).imp fun u H2 ⟨y, cs2, κ2, st2, rs2, rv2, w2⟩ => ?_⟩⟩
  cases x with
  | int i => cases y with
    | int j =>
      dsimp only at w2
      split at w2
      · rename_i hj
        replace rv1 := st2.mv.rv _ _ rv1
        unfold RV at rv1 rv2
        subst rv1 rv2
        exact ⟨i, j, rfl, ⟨hj.1.1, hj.1.2, hj.2.1, hj.2.2⟩, w2 κ2 H2 Stp.rfl' rs2 _ fun _ => walk_rng⟩
      · exact w2.elim
    | _ => exact w2.elim
  | _ => exact w2.elim

/-! ### targets -/
def gNames : List Nat → TGs
  | [] => gNil
  | i :: is => gCons (gName i) (gNames is)
def gTg (K : PySem.W.Frag) (tg : List Nat) : TG := match tg with
  | [i] => gName i
  | tg => gTup K tg.length (gNames tg)
theorem RE.set {x : IV} {v : V} {i : Nat} (h : RE T S κ H env σ) (r : RV T S κ H x v) (hi : i < σ.length) : RE T S κ H (env.set i (some x)) (σ.set i (some v)) := by
  intro j y e
  by_cases hj : i = j
  · subst hj
    by_cases hl : i < env.length
    · rw [List.getElem?_set_self hl] at e
      have : x = y := by injection e with e; injection e
      subst this
      exact ⟨v, by rw [List.getElem?_set_self hi], r⟩
    · rw [List.getElem?_eq_none (by simpa using hl)] at e; cases e
  · rw [List.getElem?_set_ne hj] at e
    obtain ⟨u, e', r'⟩ := h j y e
    exact ⟨u, by rw [List.getElem?_set_ne hj]; exact e', r'⟩
theorem gNames_ok : ∀ (tg : List Nat) (xs : List IV) (vs : List V) (env env' : Env) (σ : L2.St), (∀ i ∈ tg, i < σ.length) → setMany env tg xs = some env' → RVs T S κ H xs vs → RE T S κ H env σ → ∀ (Z : L2.St → Hp → Prop), (∀ σ', RE T S κ H env' σ' → σ'.length = σ.length → (∀ j, j ∉ tg → σ'[j]? = σ[j]?) → Z σ' H) → gNames tg vs σ H Z
  | [], [], vs, env, env', σ, _, e, r, re, Z, k => by
    unfold RVs at r
    cases e
    exact ⟨r, k σ re rfl fun _ _ => rfl⟩
  | [], _ :: _, _, _, _, _, _, e, _, _, _, _ => by cases e
  | _ :: _, [], _, _, _, _, _, e, _, _, _, _ => by cases e
  | i :: is, x :: xs, vs, env, env', σ, hi, e, r, re, Z, k => by
    unfold RVs at r
    obtain ⟨v, t, rfl, r1, r2⟩ := r
    refine ⟨v, t, rfl, gNames_ok is xs t _ env' _ (fun j hj => by rw [List.length_set]; exact hi j (List.mem_cons_of_mem _ hj)) e r2 (re.set r1 (hi i List.mem_cons_self)) Z fun σ' re' hl ho => k σ' re' (by rw [hl, List.length_set]) fun j hj => ?_⟩
    rw [ho j fun z => hj (List.mem_cons_of_mem _ z), List.getElem?_set_ne fun z => hj (by rw [← z]; exact List.mem_cons_self)]
theorem setMany_len : ∀ {tg : List Nat} {xs : List IV} {env env' : Env}, setMany env tg xs = some env' → tg.length = xs.length
  | [], [], _, _, _ => rfl
  | [], _ :: _, _, _, e => by cases e
  | _ :: _, [], _, _, e => by cases e
  | _ :: is, _ :: xs, env, env', e => by rw [List.length_cons, List.length_cons, setMany_len (tg := is) (xs := xs) e]
theorem gTg_ok {tg : List Nat} {x : IV} {v : V} {env' : Env} {K : PySem.W.Frag} (hT : T.K = K) (hi : ∀ i ∈ tg, i < σ.length) (e : setTg env tg x = some env') (r : RV T S κ H x v) (re : RE T S κ H env σ) {Z : L2.St → Hp → Prop} (k : ∀ σ', RE T S κ H env' σ' → σ'.length = σ.length → (∀ j, j ∉ tg → σ'[j]? = σ[j]?) → Z σ' H) : gTg K tg v σ H Z := by
  have many : ∀ tg : List Nat, (∀ i ∈ tg, i < σ.length) → setTup env tg x = some env' → (∀ σ', RE T S κ H env' σ' → σ'.length = σ.length → (∀ j, j ∉ tg → σ'[j]? = σ[j]?) → Z σ' H) → gTup K tg.length (gNames tg) v σ H Z := by
    intro tg hi e k
    cases x with
    | tup xs =>
      obtain ⟨a, vs, rfl, q, rr⟩ := rv_ref_tup r
      exact ⟨a, vs, rfl, hT ▸ q, by rw [← rr.len]; exact (setMany_len (tg := tg) (xs := xs) e).symm, gNames_ok tg xs vs env env' σ hi e rr re Z k⟩
    | _ => cases e
  match tg, hi, e, k with
  | [], hi, e, k => exact many [] hi e k
  | [i], hi, e, k =>
    have e' : env.set i (some x) = env' := Option.some.inj e
    subst e'
    exact k _ (re.set r (hi i List.mem_cons_self)) (by rw [List.length_set]) fun j hj => List.getElem?_set_ne fun z => hj (by rw [← z]; exact List.mem_cons_self)
  | i :: j :: is, hi, e, k => exact many (i :: j :: is) hi e k
theorem RE.wipe (h : RE T S κ H env σ) : ∀ vs : List Nat, RE T S κ H (wipeE env vs) (wipe σ vs)
  | [] => h
  | v :: vs => by
    intro j y e
    have ih := RE.wipe h vs
    unfold wipeE at e
    unfold L2.wipe
    by_cases hj : v = j
    · subst hj
      by_cases hl : v < (wipeE env vs).length
      · rw [List.getElem?_set_self hl] at e; cases e
      · rw [List.getElem?_eq_none (by simpa using hl)] at e; cases e
    · rw [List.getElem?_set_ne hj] at e
      obtain ⟨u, e', r'⟩ := ih j y e
      exact ⟨u, by rw [List.getElem?_set_ne hj]; exact e', r'⟩
theorem wipe_same : ∀ {vs : List Nat} {σ σ' : L2.St}, σ'.length = σ.length → (∀ j, j ∉ vs → σ'[j]? = σ[j]?) → wipe σ' vs = wipe σ vs := by
  intro vs σ σ' hl ho
  apply List.ext_getElem?
  intro j
  by_cases hj : j ∈ vs
  · have hw : ∀ (τ : L2.St), j < τ.length → (wipe τ vs)[j]? = some none := by
      intro τ hτ
      clear ho hl
      induction vs with
      | nil => cases hj
      | cons v vs ih =>
        unfold L2.wipe
        by_cases hv : v = j
        · subst hv
          rw [List.getElem?_set_self (by rw [wipe_length]; exact hτ)]
        · rw [List.getElem?_set_ne hv]
          exact ih ((List.mem_cons.mp hj).resolve_left fun z => hv z.symm)
    by_cases hτ : j < σ.length
    · rw [hw σ hτ, hw σ' (by rw [hl]; exact hτ)]
    · rw [List.getElem?_eq_none (by rw [wipe_length]; omega), List.getElem?_eq_none (by rw [wipe_length]; omega)]
  · rw [wipe_out hj, wipe_out hj, ho j hj]
end
end EG

-- Eng6
/-! Engine 6: enumerate and zip, of lists and of tuples in any mix. -/
namespace EG
open PySem PySem.Spec L2 PyProof.Rows
/-- a list, or a tuple -/
inductive SqK where
  | l | t
def SqM (K : PySem.W.Frag) : SqK → Hp → Addr → List V → Prop
  | .l => SqL K
  | .t => SqT K
def ItM : SqK → Heap → Addr → Addr → Nat → Prop
  | .l, h, it, a, i => h.IsListIter it a i
  | .t, h, it, a, i => h.IsTupleIter it a i
def IsM : SqK → Heap → Addr → Array Value → Prop
  | .l, h, a, xs => h.IsList a xs
  | .t, h, a, xs => h.IsTuple a xs
def itObj : SqK → Addr → Obj
  | .l, a => { cls := .type "list_iterator", data := .fields #[.ref a, .int 0 0] }
  | .t, a => { cls := .type "tuple_iterator", data := .fields #[.ref a, .int 0 0] }
theorem begM (m : SqK) (a : Addr) (xs : Array Value) : Begins (.ref a) (itObj m a) fun h => IsM m h a xs := by
  cases m
  · exact begins_list a xs
  · exact begins_tuple a xs
theorem itM_of {m : SqK} {h : Heap} {it a : Addr} (e : h.get? it = some (itObj m a)) : ItM m h it a 0 := by
  cases m
  · exact ⟨_, e, rfl, rfl⟩
  · exact ⟨_, e, rfl, rfl⟩
theorem itM_at {m : SqK} {h h' : Heap} {it a : Addr} {i : Nat} (x : ItM m h it a i) (k : ∀ o, h.get? it = some o → h'.get? it = some o) : ItM m h' it a i := by
  cases m
  · exact Heap.IsListIter.at x k
  · exact Heap.IsTupleIter.at x k
theorem itM_ob {m : SqK} {h : Heap} {it a : Addr} {i : Nat} (x : ItM m h it a i) : ∃ o, h.get? it = some o ∧ ∀ v, o.data ≠ .cell v := by
  cases m
  · obtain ⟨o, e, _, d⟩ := x
    exact ⟨o, e, fun v z => by rw [d] at z; cases z⟩
  · obtain ⟨o, e, _, d⟩ := x
    exact ⟨o, e, fun v z => by rw [d] at z; cases z⟩
theorem drawM {prog : Program} {w : World} {A : Around} (hh : A.handled = none) (m : SqK) (it a : Addr) (hne : a ≠ it) (xs : Array Value) :
    Draws prog w A it [it, a] xs.size (fun i v => xs[i]? = some v) (fun i h => ItM m h it a i ∧ IsM m h a xs) := by
  cases m
  · exact Draws.list hh it a hne xs
  · exact Draws.tuple hh it a hne xs
/-- an iterator at its end -/
theorem drawE {prog : Program} {w : World} {A : Around} (hh : A.handled = none) (m : SqK) (it a : Addr) (hne : a ≠ it) (xs : Array Value) (n : Nat) (hn : xs.size ≤ n) :
    Draws prog w A it [it, a] n (fun _ _ => True) (fun j h => j = n ∧ ItM m h it a n ∧ IsM m h a xs) where
  live := fun _ _ st => by
    obtain ⟨o, e, _⟩ := itM_ob st.2.1
    exact ⟨o, e⟩
  frame := fun _ _ _ st k => by
    refine ⟨st.1, itM_at st.2.1 fun o e => k it (by simp) o e, ?_⟩
    have q := st.2.2
    cases m
    · exact Heap.IsList.at q fun o e => k a (by simp) o e
    · exact Heap.IsTuple.at q fun o e => k a (by simp) o e
  item := fun i s Q E hi st _ => absurd st.1 (Nat.ne_of_lt hi)
  done := fun s Q E st hE => by
    have hx : xs[n]? = none := Array.getElem?_eq_none hn
    cases m
    · exact wpAny_nextOf_list_end hh st.2.1 st.2.2 hx hE
    · exact wpAny_nextOf_tuple_end hh st.2.1 st.2.2 hx hE
section
variable {X : Cx} {pins : List (Addr × Obj)} {σ : L2.St} {H : Hp} {s : Shared}
theorem sqM_at {m : SqK} {a : Addr} {xs : List V} (I : Inv X pins σ H s) (q : SqM X.K m H a xs) : ∃ its : List Value, Vals xs its ∧ IsM m s.heap a its.toArray := by
  cases m
  · obtain ⟨its, r, p, _⟩ := I.list q
    exact ⟨its, r, p.isList⟩
  · obtain ⟨its, r, p, _⟩ := I.tuple q
    exact ⟨its, r, p⟩
theorem sqM_inj {m : SqK} {a : Addr} {xs ys : List V} (I : Inv X pins σ H s) (q : SqM X.K m H a xs) (q' : SqM X.K m H a ys) : xs = ys := by
  cases m
  · exact I.list_inj q q'
  · exact I.tuple_inj q q'
theorem isM_lt {m : SqK} {h : Heap} {a : Addr} {xs : Array Value} (q : IsM m h a xs) : a < h.objs.size := by
  cases m
  · obtain ⟨o, e, _⟩ := q
    exact Heap.lt_size e
  · obtain ⟨o, e, _⟩ := q
    exact Heap.lt_size e
end
/-! ### enumerate -/
set_option maxHeartbeats 1000000 in
theorem enum_new1 {v : Value} {ob : Obj} {G : Heap → Prop} (B : Begins v ob G) :
    Meets (Builtin.«enumerate.__new__» ⟨[.type "enumerate", v], []⟩) (fun _ R s => G s.heap ∧ R (.ok (.ret (.ref (s.heap.push ob).objs.size)))
      { s with heap := (s.heap.push ob).push { cls := .type "enumerate", data := .fields #[.none, .bool false, .ref s.heap.objs.size, rawInt 0, .none, .none] } }) :=
  .of_wp fun prog w A R s h => by
    obtain ⟨hp, gs, dr, tk, os⟩ := s
    obtain ⟨h1, h⟩ := h
    have hsu := sub_enumerate
    have it1 : ∀ {A' : Around} {E : Value → Shared → Prop} {Q : Value → Shared → Prop}, Q (.ref hp.objs.size) ⟨hp.push ob, gs, dr, tk, os⟩ → wpAny (model prog w) A' (pyIter v) Q E ⟨hp, gs, dr, tk, os⟩ :=
      fun q => B.iter prog w _ _ ⟨hp, gs, dr, tk, os⟩ _ h1 q
    wp_walk using it1
    refine wpAny_stack_any fun st => wpAny_pure ?_
    split
    · rename_i c _ _ _ _ _
      cases (c == Value.type "enumerate")
      · wp_walk using it1
        exact ⟨_, rfl, h⟩
      · wp_walk using it1
        exact ⟨_, rfl, h⟩
    · wp_walk using it1
      exact ⟨_, rfl, h⟩
theorem enum_call1 {prog : Program} {w : World} {A : Around} {E : Value → Shared → Prop} {s : Shared} {v : Value} {ob : Obj} {G : Heap → Prop} {Q : Value → Shared → Prop} (B : Begins v ob G) (h1 : G s.heap)
    (h : ∀ h', IsEnum h' (s.heap.objs.size + 1) s.heap.objs.size 0 .none → h'.get? s.heap.objs.size = some ob → (∀ b o, s.heap.get? b = some o → h'.get? b = some o) → Q (.ref (s.heap.objs.size + 1)) { s with heap := h' }) :
    wpAny (model prog w) A (call (.type "enumerate") [v]) Q E s := by
  refine callType_new F.called_enumerate (by decide) (F.typeCall_enumerate_1 _) (F.newCall_enumerate_1 _) (fun z => F.args_object_init_2 z _) F.entry_enumerate_new (enum_new1 B) ⟨h1, ?_⟩
  have hz : (s.heap.push ob).objs.size = s.heap.objs.size + 1 := Heap.size_push ..
  show _ ∧ _
  rw [hz]
  generalize hob : ({ cls := .type "enumerate", data := .fields #[.none, .bool false, .ref s.heap.objs.size, rawInt 0, .none, .none] } : Obj) = oe
  have he : ((s.heap.push ob).push oe).get? (s.heap.objs.size + 1) = some oe := by
    rw [← hz]
    exact Heap.get?_push_size _ (by rw [← hob]; rfl)
  refine ⟨⟨_, he, by rw [← hob]⟩, h _ (by rw [← hob] at he ⊢; exact he) (Heap.get?_push_of_some _ (Heap.get?_push_size _ B.free)) fun b o x => Heap.get?_push_of_some _ (Heap.get?_push_of_some _ x)⟩
/-- the items of what stands at a, each in a new pair behind its number -/
def ItEn (K : PySem.W.Frag) (m : SqK) (a : Addr) : It :=
  ⟨fun i H => ∃ (xs : List V) (x : V), SqM K m H a xs ∧ xs[i]? = some x,
    fun i H v H' => ∃ t x, v = .ref t ∧ H t = none ∧ H' = upd H t (.tup [.int (i : Nat), x]) ∧ ∀ xs, SqM K m H a xs → xs[i]? = some x,
    fun i H => ∃ xs : List V, SqM K m H a xs ∧ xs.length ≤ i⟩
theorem turnEn {P : Program} {w : World} {K : PySem.W.Frag} {elts : List Expr} {kk : Nat} {tpos : Pos} (m : SqK) (a e it : Addr) (hei : e ≠ it) (hea : e ≠ a) (hai : a ≠ it) :
    Turn P w K (.Tuple elts kk tpos) (ItEn K m a) [e, it] e (fun i h => (∃ old, IsEnum h e it ((i : Nat) : Int) old) ∧ ItM m h it a i) where
  mem := by simp
  obj := fun i h st b hb => by
    obtain ⟨⟨old, he⟩, hi⟩ := st
    rcases List.mem_cons.mp hb with z | z
    · rw [z]; exact ⟨_, he, fun v q => nomatch q⟩
    · rw [List.mem_singleton.mp z]; exact itM_ob hi
  keep := fun i h h' st k => by
    obtain ⟨⟨old, he⟩, hi⟩ := st
    exact ⟨⟨old, k e (by simp) _ he⟩, itM_at hi fun o q => k it (by simp) o q⟩
  item := by
    intro X hP hw hK hc i pins s σ H E I hf st hg
    subst hP hw hK
    obtain ⟨⟨old, he⟩, hit⟩ := st
    obtain ⟨xs, x, hq, hx⟩ := hg
    obtain ⟨its, rv, p⟩ := sqM_at I hq
    obtain ⟨u, hu, ru⟩ := rv.get hx
    have hel : e < s.heap.objs.size := Heap.lt_size he
    have hil : it < s.heap.objs.size := by obtain ⟨_, q, _⟩ := itM_ob hit; exact Heap.lt_size q
    have hlt : i < its.toArray.size := by
      have := (List.getElem?_eq_some_iff.mp hu).1
      simpa using this
    have hh : X.A.in1.handled = none := I.ok.hd hc
    refine wpAny_pyNext_enum_itemD (drawM hh m it a hai its.toArray) he ⟨hit, p⟩ hlt hei (by simp [hei, hea]) fun v h' tk hv ho hit' hT hsz hk => ?_
    have hvu : v = u := by
      rw [List.getElem?_toArray, hu] at hv
      exact (Option.some.inj hv).symm
    subst hvu
    refine ⟨_, rfl, wpAny_letOwnedTupleGo_enum (s := { s with heap := h', toks := tk + 1 }) ho fun h'' he' sb => ?_⟩
    have hT2 : h''.get? s.heap.objs.size = some { cls := .type "tuple", data := .seq #[.int i tk, v] } := (sb.2 _ (Nat.ne_of_gt hel)).trans hT
    have nw : ObjOk X.prog X.w (upd H s.heap.objs.size (.tup [.int (i : Nat), x])) h'' s.heap.objs.size (.tup [.int (i : Nat), x]) :=
      ⟨by show 2 ≤ sizeLine; decide, [.int i tk, v], .cons ⟨_, rfl⟩ (.cons ru .nil), ⟨_, hT2, rfl, _, rfl⟩⟩
    have I1 : Inv X pins σ (upd H s.heap.objs.size (.tup [.int (i : Nat), x])) { s with heap := h'', toks := tk + 1 } :=
      I.turnedNew (t' := tk + 1) (ch := [e, it]) (fun b ob hb q => (sb.2 b fun z => hb (by simp [z])).trans (hk b ob (fun z => hb (by simp [z])) (fun z => hb (by simp [z])) q)) hf (Nat.le_refl _) nw
    refine ⟨.ref s.heap.objs.size, _, I1, rfl, ⟨_, x, rfl, I.hok.fresh (Nat.le_refl _), rfl, fun ys hy => by rw [sqM_inj I hy hq]; exact hx⟩, ⟨⟨v, ?_⟩, itM_at hit'.1 fun o q => (sb.2 it hei.symm).trans q⟩, fun b hb => ?_⟩
    · have e1 : ((i + 1 : Nat) : Int) = (i : Int) + 1 := by omega
      rw [e1]; exact he'
    · have hb' : b < s.heap.objs.size := by
        rcases List.mem_cons.mp hb with z | z
        · rw [z]; exact hel
        · rw [List.mem_singleton.mp z]; exact hil
      rw [upd_ne (Nat.ne_of_lt hb')]
      exact (hf b hb).1
  done := by
    intro X hP hw hK hc i pins s σ H E I hf st hg
    subst hP hw hK
    obtain ⟨⟨old, he⟩, hit⟩ := st
    obtain ⟨xs, hq, hx⟩ := hg
    obtain ⟨its, rv, p⟩ := sqM_at I hq
    have hl := rv.length
    have hf' := hf it (by simp)
    have hh : X.A.in1.handled = none := I.ok.hd hc
    exact wpAny_pyNext_enum_endD (drawE hh m it a hai its.toArray i (by simp; omega)) he ⟨rfl, hit, p⟩ fun h' eb => ⟨rfl, I.turned (t' := s.toks) (fun b o hb q => eb b o hb q) hf'.1 hf'.2.1 hf'.2.2.2.1 hf'.2.2.2.2.1 hf'.2.2.2.2.2⟩
  self := fun A i s Q E st h => by
    obtain ⟨⟨_, he⟩, _⟩ := st
    exact wpAny_pyIter_enum he h
def iEnM (K : PySem.W.Frag) (ta : TA) : TI := fun σ H R => ta σ H fun vs H1 => ∃ m a xs, vs = [.ref a] ∧ SqM K m H1 a xs ∧ R (ItEn K m a) H1
theorem pi_enM {X : Cx} {e : Expr} {ta : TA} {p pos tpos : Pos} {elts : List Expr} {kk : Nat} (hg : Gl X "enumerate") (hm : X.mg "enumerate" = none) (ha : PA X [e] ta) (hs : starEach [e] X.env = [(false, eval e X.env)] := by rfl) :
    PI X (.Tuple elts kk tpos) (.Call (.Name "enumerate" p) [e] [] pos) (iEnM X.K ta) := by
  refine ⟨fun pins s σ H R I h => ?_⟩
  refine Call_ (ld_blt I hg hm boot_enumerate (PyProof.Rows.callWith_type1 (thn (ha.run pos pins s σ H _ I h) fun us s1 ⟨vs, H1, I1, r1, q1⟩ => ?_) hs rfl))
  obtain ⟨m, a, xs, ex, hq, q⟩ := q1
  subst ex
  cases r1 with
  | cons r rr =>
    cases rr
    cases r
    obtain ⟨its, rv, p'⟩ := sqM_at I1 hq
    have hal : a < s1.heap.objs.size := isM_lt p'
    have hal' : ∀ k : Nat, (a : Nat) ≠ s1.heap.objs.size + k := fun k => Nat.ne_of_lt (Nat.lt_of_lt_of_le hal (Nat.le_add_right _ _))
    refine enum_call1 (begM m a its.toArray) p' fun h' he hit hk => wpAny_pyIter_enum he ?_
    have I2 : Inv X pins σ H1 { s1 with heap := h' } := I1.kept (t' := s1.toks) hk
    refine ⟨s1.heap.objs.size + 1, [s1.heap.objs.size + 1, s1.heap.objs.size], _, _, H1, rfl, I2, turnEn m a (s1.heap.objs.size + 1) s1.heap.objs.size (Nat.succ_ne_self _) (fun z => hal' 1 z.symm) (hal' 0), ⟨⟨.none, he⟩, itM_of hit⟩, fun b hb => ?_, q⟩
    have hle : s1.heap.objs.size ≤ b := by
      rcases List.mem_cons.mp hb with z | z
      · rw [z]; exact Nat.le_add_right _ _
      · rw [List.mem_singleton.mp z]; exact Nat.le_refl _
    exact I1.fpOk hle (I1.hok.fresh hle)
/-! ### zip -/
def ItZp (K : PySem.W.Frag) (m m' : SqK) (a b : Addr) : It :=
  ⟨fun i H => ∃ (xs ys : List V) (x y : V), SqM K m H a xs ∧ SqM K m' H b ys ∧ xs[i]? = some x ∧ ys[i]? = some y,
    fun i H v H' => ∃ t x y, v = .ref t ∧ H t = none ∧ H' = upd H t (.tup [x, y]) ∧ (∀ xs, SqM K m H a xs → xs[i]? = some x) ∧ ∀ ys, SqM K m' H b ys → ys[i]? = some y,
    fun i H => ∃ xs ys : List V, SqM K m H a xs ∧ SqM K m' H b ys ∧ (xs.length ≤ i ∨ ys.length ≤ i)⟩
theorem turnZp {P : Program} {w : World} {K : PySem.W.Frag} {elts : List Expr} {kk : Nat} {tpos : Pos} {a b z tI tO i1 i2 : Addr} (m m' : SqK) (D : ZipSep2 z tI tO i1 i2 [i1, a] [i2, b]) (ha1 : a ≠ i1) (hb2 : b ≠ i2) :
    Turn P w K (.Tuple elts kk tpos) (ItZp K m m' a b) [z, tI, tO, i1, i2] z (fun i h => IsZip h z tI tO .none ∧ IsTupOf2 h tI (.ref i1) (.ref i2) ∧ (∃ x y, IsTupOf2 h tO x y) ∧ ItM m h i1 a i ∧ ItM m' h i2 b i) where
  mem := by simp
  obj := fun i h st c hc => by
    obtain ⟨hz, hI, ⟨x, y, hO⟩, h1, h2⟩ := st
    simp only [List.mem_cons, List.not_mem_nil, or_false] at hc
    rcases hc with q | q | q | q | q <;> rw [q]
    · exact ⟨_, hz, fun v q => nomatch q⟩
    · exact ⟨_, hI, fun v q => nomatch q⟩
    · exact ⟨_, hO, fun v q => nomatch q⟩
    · exact itM_ob h1
    · exact itM_ob h2
  keep := fun i h h' st k => by
    obtain ⟨hz, hI, ⟨x, y, hO⟩, h1, h2⟩ := st
    exact ⟨k z (by simp) _ hz, k tI (by simp) _ hI, ⟨x, y, k tO (by simp) _ hO⟩, itM_at h1 fun o q => k i1 (by simp) o q, itM_at h2 fun o q => k i2 (by simp) o q⟩
  item := by
    intro X hP hw hK hc i pins s σ H E I hf st hg
    subst hP hw hK
    obtain ⟨hz, hI, ⟨x0, y0, hO⟩, h1, h2⟩ := st
    obtain ⟨xs, ys, x, y, hqx, hqy, hx, hy⟩ := hg
    obtain ⟨its, rv, p⟩ := sqM_at I hqx
    obtain ⟨its2, rv2, p2⟩ := sqM_at I hqy
    obtain ⟨u, hu, ru⟩ := rv.get hx
    obtain ⟨u2, hu2, ru2⟩ := rv2.get hy
    have hlt1 : i < its.toArray.size := by simpa using (List.getElem?_eq_some_iff.mp hu).1
    have hlt2 : i < its2.toArray.size := by simpa using (List.getElem?_eq_some_iff.mp hu2).1
    have hzl : z < s.heap.objs.size := Heap.lt_size hz
    have hh : X.A.in1.handled = none := I.ok.hd hc
    refine wpAny_pyNext_zipD2_item D (drawM hh m i1 a ha1 its.toArray) (drawM hh m' i2 b hb2 its2.toArray) hz hI hO ⟨h1, p⟩ ⟨h2, p2⟩ hlt1 hlt2 fun v1 v2 h' tk hv1 hv2 z' O' d1 d2 hT hsz hk => ?_
    have e1 : v1 = u := by
      rw [List.getElem?_toArray, hu] at hv1
      exact (Option.some.inj hv1).symm
    have e2 : v2 = u2 := by
      rw [List.getElem?_toArray, hu2] at hv2
      exact (Option.some.inj hv2).symm
    subst e1 e2
    refine ⟨_, rfl, wpAny_letOwnedTupleGo_zip (s := { s with heap := h', toks := tk }) z' fun h'' z'' sb => ?_⟩
    have hT2 : h''.get? s.heap.objs.size = some { cls := .type "tuple", data := .seq #[v1, v2] } := (sb.2 _ (Nat.ne_of_gt hzl)).trans hT
    have nw : ObjOk X.prog X.w (upd H s.heap.objs.size (.tup [x, y])) h'' s.heap.objs.size (.tup [x, y]) :=
      ⟨by show 2 ≤ sizeLine; decide, [v1, v2], .cons ru (.cons ru2 .nil), ⟨_, hT2, rfl, _, rfl⟩⟩
    have up : ∀ c o, c ≠ z → c ≠ tO → c ≠ i1 → c ≠ i2 → s.heap.get? c = some o → h''.get? c = some o := fun c o c1 c2 c3 c4 q => (sb.2 c c1).trans (hk c o c1 c2 c3 c4 q)
    have I1 : Inv X pins σ (upd H s.heap.objs.size (.tup [x, y])) { s with heap := h'', toks := tk } :=
      I.turnedNew (t' := tk) (ch := [z, tI, tO, i1, i2]) (fun c o hb q => up c o (fun r => hb (by simp [r])) (fun r => hb (by simp [r])) (fun r => hb (by simp [r])) (fun r => hb (by simp [r])) q) hf (Nat.le_refl _) nw
    refine ⟨.ref s.heap.objs.size, _, I1, rfl, ⟨_, x, y, rfl, I.hok.fresh (Nat.le_refl _), rfl, fun l hl => by rw [sqM_inj I hl hqx]; exact hx, fun l hl => by rw [sqM_inj I hl hqy]; exact hy⟩,
      ⟨z'', up _ _ D.TIz D.TITO D.TIi1 D.TIi2 hI, ⟨v1, v2, (sb.2 _ D.TOz).trans O'⟩, itM_at d1.1 fun o q => (sb.2 _ D.zi1.symm).trans q, itM_at d2.1 fun o q => (sb.2 _ D.zi2.symm).trans q⟩, fun c hcm => ?_⟩
    have hlt : c < s.heap.objs.size := by
      simp only [List.mem_cons, List.not_mem_nil, or_false] at hcm
      rcases hcm with q | q | q | q | q <;> rw [q]
      · exact hzl
      · exact Heap.lt_size hI
      · exact Heap.lt_size hO
      · obtain ⟨_, q, _⟩ := itM_ob h1; exact Heap.lt_size q
      · obtain ⟨_, q, _⟩ := itM_ob h2; exact Heap.lt_size q
    rw [upd_ne (Nat.ne_of_lt hlt)]
    exact (hf c hcm).1
  done := by
    intro X hP hw hK hc i pins s σ H E I hf st hg
    subst hP hw hK
    obtain ⟨hz, hI, ⟨x0, y0, hO⟩, h1, h2⟩ := st
    obtain ⟨xs, ys, hqx, hqy, hend⟩ := hg
    obtain ⟨its, rv, p⟩ := sqM_at I hqx
    obtain ⟨its2, rv2, p2⟩ := sqM_at I hqy
    have l1 := rv.length
    have l2 := rv2.length
    have hh : X.A.in1.handled = none := I.ok.hd hc
    have fin : ∀ h' tk, (∀ c o, c ≠ z → c ≠ tO → c ≠ i1 → c ≠ i2 → s.heap.get? c = some o → h'.get? c = some o) → (none : Option Value) = none ∧ Inv X pins σ H { s with heap := h', toks := tk } := fun h' tk k =>
      ⟨rfl, I.turnedL (t' := tk) (ch := [z, tI, tO, i1, i2]) (fun c o hb q => k c o (fun r => hb (by simp [r])) (fun r => hb (by simp [r])) (fun r => hb (by simp [r])) (fun r => hb (by simp [r])) q) hf⟩
    by_cases c1 : its.length ≤ i
    · by_cases c2 : its2.length ≤ i
      · exact wpAny_pyNext_zipD2_end D (drawE hh m i1 a ha1 its.toArray i (by simpa using c1)) (drawE hh m' i2 b hb2 its2.toArray i (by simpa using c2)) hz hI hO ⟨rfl, h1, p⟩ ⟨rfl, h2, p2⟩ (Nat.le_refl _) (Nat.le_refl _) (.inl rfl) fin
      · exact wpAny_pyNext_zipD2_end D (drawE hh m i1 a ha1 its.toArray i (by simpa using c1)) (drawM hh m' i2 b hb2 its2.toArray) hz hI hO ⟨rfl, h1, p⟩ ⟨h2, p2⟩ (Nat.le_refl _) (by simp; omega) (.inl rfl) fin
    · have c2 : its2.length ≤ i := by omega
      exact wpAny_pyNext_zipD2_end D (drawM hh m i1 a ha1 its.toArray) (drawE hh m' i2 b hb2 its2.toArray i (by simpa using c2)) hz hI hO ⟨h1, p⟩ ⟨rfl, h2, p2⟩ (by simp; omega) (Nat.le_refl _) (.inr rfl) fin
  self := fun A i s Q E st h => wpAny_pyIter_zip st.1 h
def iZpM (K : PySem.W.Frag) (ta : TA) : TI := fun σ H R => ta σ H fun vs H1 => ∃ m m' a b xs ys, vs = [.ref a, .ref b] ∧ SqM K m H1 a xs ∧ SqM K m' H1 b ys ∧ R (ItZp K m m' a b) H1
theorem pi_zpM {X : Cx} {e e2 : Expr} {ta : TA} {p pos tpos : Pos} {elts : List Expr} {kk : Nat} (hg : Gl X "zip") (hm : X.mg "zip" = none) (ha : PA X [e, e2] ta)
    (hs : starEach [e, e2] X.env = (false, eval e X.env) :: starEach [e2] X.env := by rfl) (hp : (backTo pos (starEach [e2] X.env)).any (·.1) = false := by rfl) :
    PI X (.Tuple elts kk tpos) (.Call (.Name "zip" p) [e, e2] [] pos) (iZpM X.K ta) := by
  refine ⟨fun pins s σ H R I h => ?_⟩
  refine Call_ (ld_blt I hg hm PyProof.Rows.boot_zip (PyProof.Rows.callWith_type1 (thn (ha.run pos pins s σ H _ I h) fun us s1 ⟨vs, H1, I1, r1, q1⟩ => ?_) hs hp))
  obtain ⟨m, m', a, b, xs, ys, ex, hqx, hqy, q⟩ := q1
  subst ex
  cases r1 with
  | cons r rr =>
    cases rr with
    | cons r' rr =>
      cases rr
      cases r
      cases r'
      obtain ⟨its, rv, p1⟩ := sqM_at I1 hqx
      obtain ⟨its2, rv2, p2⟩ := sqM_at I1 hqy
      have la := isM_lt p1
      have lb := isM_lt p2
      refine zip_begins2 (begM m a its.toArray) (begM m' b its2.toArray) p1 p2 fun h' hz hI hO h1 h2 hsz hk => wpAny_pyIter_zip hz ?_
      have I2 : Inv X pins σ H1 { s1 with heap := h' } := I1.kept (t' := s1.toks) hk
      refine ⟨s1.heap.objs.size + 4, [s1.heap.objs.size + 4, s1.heap.objs.size + 2, s1.heap.objs.size + 3, s1.heap.objs.size, s1.heap.objs.size + 1], _, _, H1, rfl, I2,
        turnZp m m' (zip_sep2 (N := s1.heap.objs.size) (fp1 := [a]) (fp2 := [b]) (by simpa using la) (by simpa using lb)) (Nat.ne_of_lt la) (Nat.ne_of_lt (Nat.lt_succ_of_lt lb)), ⟨hz, hI, ⟨_, _, hO⟩, itM_of h1, itM_of h2⟩, fun c hcm => ?_, q⟩
      have hle : s1.heap.objs.size ≤ c := by
        simp only [List.mem_cons, List.not_mem_nil, or_false] at hcm
        rcases hcm with z | z | z | z | z <;> rw [z]
        · exact Nat.le_add_right _ _
        · exact Nat.le_add_right _ _
        · exact Nat.le_add_right _ _
        · exact Nat.le_refl _
        · exact Nat.le_add_right _ _
      exact I1.fpOk hle (I1.hok.fresh hle)
/-! ### their readings -/
section
variable {T : CT} {Φ : Fns} {J : TX} {lv : Nat} {W : WX} {X : Cx} {S : Addr → Prop} {κ κ' : List Addr} {H H' : Hp} {env : Env} {cs : Cs} {σ : L2.St} {N : List Str} {sc : Scope} {a b : Expr} {p pos : Pos} {f1 f2 : Env → Cs → R IV}
/-- a list or a tuple, as a value -/
theorem seq_rv {x : IV} {xs : List IV} {v : V} (h : seqI x = some xs) (r : RV T S κ H x v) : ∃ m p vs, v = .ref p ∧ SqM T.K m H p vs ∧ RVs T S κ H xs vs ∧ ∀ κ' H', StpO S κ H κ' H' → SqM T.K m H' p vs := by
  cases x with
  | tup ys =>
    cases h
    obtain ⟨p, vs, rfl, q, rr⟩ := rv_ref_tup r
    exact ⟨.t, p, vs, rfl, q, rr, fun κ' H' st => StpO.sqt st q⟩
  | lst ys =>
    cases h
    obtain ⟨p, vs, rfl, q, rr⟩ := rv_ref_lst r
    exact ⟨.l, p, vs, rfl, q.sql, rr, fun κ' H' st => (st.sqv q).sql⟩
  | _ => cases h
theorem new_pair {t : Addr} {u v : IV} {uu vv : V} (rs : RS T S κ H cs) (ht : H t = none) (ru : RV T S κ H u uu) (rv : RV T S κ H v vv) : Stp κ H κ (upd H t (.tup [uu, vv])) ∧ RS T S κ (upd H t (.tup [uu, vv])) cs ∧ RV T S κ (upd H t (.tup [uu, vv])) (.tup [u, v]) (.ref t) := by
  refine ⟨Stp.new ht, rs.new ht, ?_⟩
  unfold RV
  exact ⟨t, _, rfl, SqT.of upd_same, RVs.cons ((Stp.new ht).mv.rv _ _ ru) (RVs.cons ((Stp.new ht).mv.rv _ _ rv) RVs.nil)⟩
theorem pi_en (O : CxOk T Φ J lv N sc X) {elts : List Expr} {kk : Nat} {tpos : Pos} (hg : Gl X "enumerate") (h1 : PE X a (tE T W false f1)) (hs : notStar a = true) : PI X (.Tuple elts kk tpos) (.Call (.Name "enumerate" p) [a] [] pos)
    (tI T W fun env cs => (f1 env cs).bind fun x cs => (R.ofO (seqI x) cs).bind fun xs cs => .ok (xs.zipIdx.map fun p => .tup [.int (p.2 : Nat), p.1]) cs) := by
  refine ⟨fun pins s σ H R I ⟨S, κ, env, cs, rs, re, w⟩ => (pi_enM (elts := elts) (kk := kk) (tpos := tpos) hg O.fs.enu (pa_cons h1 pa_nil (star_cons hs)) (star_one hs)).run pins s σ H R I ?_⟩
  refine ⟨S, κ, env, cs, rs, re, (Wk.bind w).imp fun v H1 ⟨x, cs1, κ1, st1, rs1, rv1, w1⟩ => ?_⟩
  cases hx : seqI x with
  | none => rw [hx] at w1; exact w1.elim
  | some xs =>
    rw [hx] at w1
    obtain ⟨m, q1, vs, rfl, q, r, kq⟩ := seq_rv hx rv1
    have hT := O.fs.K.symm
    refine ⟨m, q1, vs, rfl, hT ▸ q, w1 κ1 H1 Stp.rfl' rs1 _ ?_⟩
    intro i κ' H' S' cs' st hS rs'
    have k1 : SqM X.K m H' q1 vs := hT ▸ kq κ' H' st
    refine ⟨fun z hz => ?_, fun hl => ⟨vs, k1, ?_⟩⟩
    · rw [List.getElem?_map, List.getElem?_zipIdx] at hz
      cases hxi : xs[i]? with
      | none => rw [hxi] at hz; cases hz
      | some u =>
        rw [hxi] at hz
        cases hz
        obtain ⟨uu, eu, ru⟩ := r.get hxi
        refine ⟨⟨vs, uu, k1, eu⟩, fun zz H'' yl => ?_⟩
        obtain ⟨t, x', rfl, ht, rfl, e1⟩ := yl
        have e3 := e1 vs k1
        rw [eu] at e3
        cases e3
        have := new_pair (u := .int ((i : Nat) : Int)) (uu := .int ((i : Nat) : Int)) rs' ht (by unfold RV; rfl) ((st.mv hS).rv _ _ ru)
        simpa using this
    · have l1 := r.len
      simp at hl
      omega
theorem pi_zp (O : CxOk T Φ J lv N sc X) {elts : List Expr} {kk : Nat} {tpos : Pos} (hg : Gl X "zip") (h1 : PE X a (tE T W false f1)) (h2 : PE X b (tE T W false f2)) (hs : notStar a = true) (hs2 : notStar b = true) : PI X (.Tuple elts kk tpos) (.Call (.Name "zip" p) [a, b] [] pos)
    (tI T W fun env cs => (f1 env cs).bind fun x cs => (f2 env cs).bind fun y cs => (R.ofO (seqI x) cs).bind fun xs cs => (R.ofO (seqI y) cs).bind fun ys cs => .ok (List.zipWith (fun u v => .tup [u, v]) xs ys) cs) := by
  refine ⟨fun pins s σ H R I ⟨S, κ, env, cs, rs, re, w⟩ => (pi_zpM (elts := elts) (kk := kk) (tpos := tpos) hg O.fs.zip (pa_cons h1 (pa_cons h2 pa_nil (star_cons hs2)) (star_cons hs)) (star_cons hs) (star_any (by rw [List.all_cons, hs2]; rfl))).run pins s σ H R I ?_⟩
  refine ⟨S, κ, env, cs, rs, re, (Wk.bind w).imp fun v H1 ⟨x, cs1, κ1, st1, rs1, rv1, w1⟩ => ⟨S, κ1, env, cs1, rs1, re.mv st1.mv, (Wk.bind w1).imp fun u H2 ⟨y, cs2, κ2, st2, rs2, rv2, w2⟩ => ?_⟩⟩
  replace rv1 := st2.mv.rv _ _ rv1
  have hT := O.fs.K.symm
  cases hx : seqI x with
  | none => rw [hx] at w2; exact w2.elim
  | some xs => cases hy : seqI y with
    | none => rw [hx, hy] at w2; exact w2.elim
    | some ys =>
      rw [hx, hy] at w2
      obtain ⟨m1, p1, vs, rfl, q1, r1, kq1⟩ := seq_rv hx rv1
      obtain ⟨m2, p2, us, rfl, q2, r2, kq2⟩ := seq_rv hy rv2
      refine ⟨m1, m2, p1, p2, vs, us, rfl, hT ▸ q1, hT ▸ q2, w2 κ2 H2 Stp.rfl' rs2 _ ?_⟩
      intro i κ' H' S' cs' st hS rs'
      have k1 : SqM X.K m1 H' p1 vs := hT ▸ kq1 κ' H' st
      have k2 : SqM X.K m2 H' p2 us := hT ▸ kq2 κ' H' st
      refine ⟨fun z hz => ?_, fun hl => ⟨vs, us, k1, k2, ?_⟩⟩
      · rw [List.getElem?_zipWith] at hz
        cases hu : xs[i]? with
        | none => rw [hu] at hz; cases hz
        | some u => cases hv : ys[i]? with
          | none => rw [hu, hv] at hz; cases hz
          | some v =>
            rw [hu, hv] at hz
            cases hz
            obtain ⟨uu, eu, ru⟩ := r1.get hu
            obtain ⟨vv, ev, rv⟩ := r2.get hv
            refine ⟨⟨vs, us, uu, vv, k1, k2, eu, ev⟩, fun zz H'' yl => ?_⟩
            obtain ⟨t, x', y', rfl, ht, rfl, e1, e2⟩ := yl
            have e3 := e1 vs k1
            have e4 := e2 us k2
            rw [eu] at e3
            rw [ev] at e4
            cases e3
            cases e4
            exact new_pair rs' ht ((st.mv hS).rv _ _ ru) ((st.mv hS).rv _ _ rv)
      · rw [List.length_zipWith] at hl
        have l1 := r1.len
        have l2 := r2.len
        omega
end
end EG

-- EngP
/-! Engine P: comprehensions, zip, enumerate. -/
namespace EG
open PySem PySem.Spec L2 PyProof.Rows
section
variable {T : CT} {Φ : Fns} {J : TX} {lv : Nat} {W : WX} {X : Cx} {S : Addr → Prop} {κ κ' : List Addr} {H H' : Hp} {env : Env} {cs : Cs} {σ : L2.St} {fr : Bool} {Q : VK} {N : List Str} {sc scope : Scope} {pins : List (Addr × Obj)} {s : Shared} {A : Around} {a b c e o tg iter elt : Expr} {es rest ifs : List Expr} {f : Env → Cs → R IV} {g : Env → Cs → R (List IV)} {p p2 pos apos : Pos} {x : Str} {E : Value → Option Addr → Hp → Prop} {f1 f2 f3 : Env → Cs → R IV}
/-- a test list's reading -/
def tC' (T : CT) (W : WX) (f : Env → Cs → R Bool) : TT := fun σ H Q => ∃ S κ env cs, RS T S κ H cs ∧ RE T S κ H env σ ∧ Wk T S (fun c d H' => W c d σ H') κ H (f env cs) fun b cs' κ' H' => Q b H'
theorem sc_nil {f : Env → Cs → R Bool} (hf : ∀ env cs, f env cs = .ok true cs) : PTs X [] (tC' T W f) := ⟨fun pins s σ H Q I ⟨S, κ, env, cs, rs, re, w⟩ => by
  rw [hf] at w
  exact pts_nil.run pins s σ H Q I (w κ H Stp.rfl' rs)⟩
theorem sc_one (h1 : IsB f1) (h : PT X e (tT T W f1)) : PTs X [e] (tC' T W fun env cs => (f1 env cs).bind fun x cs => R.ofO (asB x) cs) := ⟨fun pins s σ H Q I ⟨S, κ, env, cs, rs, re, w⟩ => by
  refine (pts_one h).run pins s σ H Q I ⟨S, κ, env, cs, rs, re, ?_⟩
  have hb := h1 env cs
  have w' : Wk T S (fun c d H' => W c d σ H') κ H ((f1 env cs).bind fun x cs => R.ofO (asB x) cs) fun b cs' κ' H' => Q b H' := w
  clear w
  revert hb w'
  cases f1 env cs with
  | ok x cs1 =>
    intro hb w κ' H' v st rs' rv _
    obtain ⟨b, rfl⟩ := hb x cs1 rfl
    unfold RV at rv
    exact ⟨b, rv, w κ' H' st rs'⟩
  | exc c pl cs => exact fun _ w => w
  | stuck => exact fun _ w => w⟩
theorem Stp.wr {p : Addr} {o : HO} (s : Stp κ H κ' H') (hp : H p = none) (hp' : H' p ≠ none) : Stp κ H κ' (upd H' p o) :=
  ⟨s.pre, s.fresh, fun a u e q => by rw [upd_ne (ne_of_none e hp)]; exact s.evo a u e q, fun a e => by
    by_cases z : a = p
    · subst z; exact hp
    · rw [upd_ne z] at e; exact s.dom a e⟩
abbrev E0' : Value → Option Addr → Hp → Prop := fun _ _ _ => False
/-- what may not raise, within an expression -/
theorem Wp.noexc {α : Type} {r : R α} {g : α → Cs → R IV} (w : Wp T S E κ H fr (r.noexc.bind g) Q) : Wk T S E0' κ H r fun x cs1 κ1 H1 => Stp κ H κ1 H1 ∧ RS T S κ1 H1 cs1 ∧ Wp T S E κ1 H1 fr (g x cs1) Q := by
  cases r with
  | ok x cs1 => exact fun κ' H' st rs => ⟨st, rs, Wp.step (r := g x cs1) w st⟩
  | exc c pl cs => exact w.elim
  | stuck => exact w.elim
/-- what may not raise -/
theorem Wk.noexc {α β : Type} {r : R α} {g : α → Cs → R β} {G : β → Cs → List Addr → Hp → Prop} (w : Wk T S E κ H (r.noexc.bind g) G) : Wk T S E0' κ H r fun x cs1 κ1 H1 => Stp κ H κ1 H1 ∧ RS T S κ1 H1 cs1 ∧ Wk T S E κ1 H1 (g x cs1) G := by
  cases r with
  | ok x cs1 => exact fun κ' H' st rs => ⟨st, rs, Wk.step (r := g x cs1) w st⟩
  | exc c pl cs => exact w.elim
  | stuck => exact w.elim
theorem ExcP.anti {S' : Addr → Prop} {pl : List IV} {d : Option Addr} (h : ExcP T S' κ H pl d) (q : ∀ a, S a → S' a) : ExcP T S κ H pl d := by
  rcases h with h | ⟨x, v, f, dd, h1, h2, h3, h4⟩
  · exact .inl h
  · exact .inr ⟨x, v, f, dd, h1, h2, h3, (Mv.anti q).rv _ _ h4⟩
theorem Wk.more {α : Type} {S' : Addr → Prop} {r : R α} {G : α → Cs → List Addr → Hp → Prop} (w : Wk T S E κ H r G) (q : ∀ a, S a → S' a) : Wk T S' E κ H r fun x cs κ' H' => Stp κ H κ' H' ∧ RS T S' κ' H' cs ∧ G x cs κ' H' := by
  cases r with
  | ok x cs1 => exact fun κ' H' st rs => ⟨st, rs, w κ' H' st (rs.sub q)⟩
  | exc c pl cs => exact fun κ' H' d st rs x => w κ' H' d st (rs.sub q) (x.anti q)
  | stuck => exact w
theorem Wp.more {S' : Addr → Prop} {r : R IV} (w : Wp T S E κ H false r Q) (q : ∀ a, S a → S' a) : Wp T S' E κ H false r fun v H' => ∃ x cs κ', Stp κ H κ' H' ∧ RS T S' κ' H' cs ∧ RV T S' κ' H' x v ∧ r = .ok x cs ∧ Q v H' := by
  cases r with
  | ok x cs1 => exact fun κ' H' v st rs rv _ => ⟨x, cs1, κ', st, rs, rv, rfl, w κ' H' v st (rs.sub q) ((Mv.anti q).rv _ _ rv) (fun z => nomatch z)⟩
  | exc c pl cs => exact fun κ' H' d st rs x => w κ' H' d st (rs.sub q) (x.anti q)
  | stuck => exact w
def cTurn (own tg : List Nat) (fc : Env → Cs → R Bool) (fe : Env → Cs → R IV) (env : Env) : IV → List IV → Cs → R (List IV) := fun x acc cs => ((R.ofO (setTg (wipeE env own) tg x) cs).bind fun env' cs => (fc env' cs).bind fun b cs =>
      if b then (fe env' cs).bind fun y cs => .ok (acc ++ [y]) cs else .ok acc cs).noexc
def cF (own tg : List Nat) (fi : Env → Cs → R (List IV)) (fc : Env → Cs → R Bool) (fe : Env → Cs → R IV) : Env → Cs → R IV := fun env cs => (fi env cs).bind fun xs cs => if xs.length ≤ 1000000 then (compGo (cTurn own tg fc fe env) xs [] cs).bind fun ys cs => .ok (.lst ys) cs else .stuck
theorem Wk.imp {α : Type} {r : R α} {G G' : α → Cs → List Addr → Hp → Prop} (h : Wk T S E κ H r G) (f : ∀ x cs κ' H', RS T S κ' H' cs → G x cs κ' H' → G' x cs κ' H') : Wk T S E κ H r G' := by
  cases r with
  | ok x cs => exact fun κ' H' st rs => f _ _ _ _ rs (h κ' H' st rs)
  | exc c pl cs => exact h
  | stuck => exact h
/-- a comprehension's reading -/
theorem comp_r {own tgn : List Nat} {fi : Env → Cs → R (List IV)} {fc : Env → Cs → R Bool} {fe : Env → Cs → R IV} {K : PySem.W.Frag} (hT : T.K = K) (hlen : ∀ i ∈ tgn, i < σ.length) (hown : ∀ i ∈ tgn, i ∈ own) (rs : RS T S κ H cs) (re : RE T S κ H env σ)
    (w : Wp T S (fun c d H' => W c d σ H') κ H fr (cF own tgn fi fc fe env cs) Q) : tLc (tI T W fi) (gTg K tgn) (tC' T (fun _ _ _ _ => False) fc) (tE T (fun _ _ _ _ => False) false fe) own σ H Q := by
  refine ⟨S, κ, env, cs, rs, re, (Wp.bindk w).imp fun xs cs1 κ1 H1 rs1 ⟨st1, _, w1⟩ J walk D hD => ?_⟩
  split at w1
  case isFalse => exact w1.elim
  case isTrue hsz =>
  have nS : ¬ S D := fun z => rs1.dom D z hD
  have nk : D ∉ κ1 := fun z => rs1.kdom z hD
  have mvD : Mv T S κ1 H1 (fun b => S b ∨ b = D) κ1 (upd H1 D (.lst [])) := (Mv.add hD).trans (Stp.new hD).mv
  have rsD : RS T (fun b => S b ∨ b = D) κ1 (upd H1 D (.lst [])) cs1 := by
    refine rs1.mv mvD (fun a ha => upd_ne fun z => nk (z ▸ ha)) (fun a s z => ?_) fun a ha z => ?_
    · by_cases q : a = D
      · subst q; rw [upd_same] at z; cases z
      · rw [upd_ne q] at z; exact rs1.dom a (s.resolve_right q) z
    · rcases z with z | z
      · obtain ⟨_, _, _, _, _, n⟩ := rs1.at ha; exact n z
      · exact nk (z ▸ ha)
  refine ⟨fun i m H2 => m = xs.length - i ∧ i ≤ xs.length ∧ ∃ κ2 cs2 acc vs, Stp κ1 H1 κ2 H2 ∧ RS T (fun b => S b ∨ b = D) κ2 H2 cs2 ∧ H2 D = some (.lst vs) ∧ RVs T (fun b => S b ∨ b = D) κ2 H2 acc vs ∧ acc.length ≤ i ∧
      Wp T S (fun c d H' => W c d σ H') κ1 H1 fr ((compGo (cTurn own tgn fc fe env) (xs.drop i) acc cs2).bind fun ys cs => .ok (.lst ys) cs) Q, ⟨xs.length, by simp, Nat.zero_le _, κ1, cs1, [], [], Stp.new hD, rsD, upd_same, RVs.nil, Nat.le_refl _, w1⟩, ?_⟩
  rintro i m H2 ⟨rfl, hi, κ2, cs2, acc, vs, st2, rs2, hD2, racc, hacc, w2⟩
  have nk2 : D ∉ κ2 := fun z => by obtain ⟨_, _, _, _, _, n⟩ := rs2.at z; exact n (.inr rfl)
  by_cases hlt : i < xs.length
  · right
    have hx : xs[i]? = some xs[i] := List.getElem?_eq_getElem hlt
    obtain ⟨hgo, hy⟩ := (walk i κ2 H2 (fun b => S b ∨ b = D) cs2 st2.loose (fun a h => h.imp id fun z => by rw [z]; exact hD) rs2).1 _ hx
    refine ⟨hgo, fun H3 => ∃ m', m' < xs.length - i ∧ m' = xs.length - (i + 1) ∧ i + 1 ≤ xs.length ∧ ∃ κ2 cs2 acc vs, Stp κ1 H1 κ2 H3 ∧ RS T (fun b => S b ∨ b = D) κ2 H3 cs2 ∧ H3 D = some (.lst vs) ∧ RVs T (fun b => S b ∨ b = D) κ2 H3 acc vs ∧ acc.length ≤ i + 1 ∧
      Wp T S (fun c d H' => W c d σ H') κ1 H1 fr ((compGo (cTurn own tgn fc fe env) (xs.drop (i + 1)) acc cs2).bind fun ys cs => .ok (.lst ys) cs) Q, fun H' ⟨m', h1, h2⟩ => ⟨m', h1, h2⟩, fun v H3 yl => ?_⟩
    obtain ⟨st3, rs3, rvx⟩ := hy v H3 yl
    -- the item, not in the new list
    have rvx' : RV T (fun b => S b ∨ b = D) κ2 H3 xs[i] v := rvx
    have hd : xs.drop i = xs[i] :: xs.drop (i + 1) := List.drop_eq_getElem_cons hlt
    rw [hd, compGo_cons] at w2
    have e1 : ((cTurn own tgn fc fe env xs[i] acc cs2).bind fun acc cs => compGo (cTurn own tgn fc fe env) (xs.drop (i + 1)) acc cs).bind (fun ys cs => R.ok (IV.lst ys) cs) = (cTurn own tgn fc fe env xs[i] acc cs2).bind fun acc cs => (compGo (cTurn own tgn fc fe env) (xs.drop (i + 1)) acc cs).bind fun ys cs => .ok (.lst ys) cs := R.bind_assoc _ _ _
    rw [e1] at w2
    have re3 : RE T (fun b => S b ∨ b = D) κ2 H3 env σ := re.mv (st1.mv.trans ((Mv.add hD).trans (st2.trans st3).mv))
    have tn : ∀ r : R (List IV), cTurn own tgn fc fe env xs[i] acc cs2 = r → Wp T S (fun c d H' => W c d σ H') κ1 H1 fr (r.bind fun acc cs => (compGo (cTurn own tgn fc fe env) (xs.drop (i + 1)) acc cs).bind fun ys cs => .ok (.lst ys) cs) Q := fun r h => h ▸ w2
    cases esg : setTg (wipeE env own) tgn xs[i] with
    | none => exact (tn .stuck (by unfold cTurn; rw [esg]; rfl)).elim
    | some env' =>
    refine gTg_ok hT (by simpa [wipe_length] using hlen) esg rvx' (re3.wipe own) fun σ' re' hl ho => ?_
    have hw : wipe σ' own = wipe σ own := by
      have h1 : wipe σ' own = wipe (wipe σ own) own := wipe_same hl fun j hj => ho j fun z => hj (hown j z)
      have h2 : wipe (wipe σ own) own = wipe σ own := wipe_same (by rw [wipe_length]) fun j hj => by rw [wipe_out hj]
      rw [h1, h2]
    refine ⟨hw, ?_⟩
    refine ⟨_, κ2, env', cs2, rs3, re', ?_⟩
    cases hfc : fc env' cs2 with
    | stuck => exact (tn .stuck (by unfold cTurn; rw [esg, R.ofO_some, R.bind_ok, hfc]; rfl)).elim
    | exc c pl cs => exact (tn .stuck (by unfold cTurn; rw [esg, R.ofO_some, R.bind_ok, hfc]; rfl)).elim
    | ok bb cs3 =>
      intro κ4 H4 st4 rs4
      have st14 : Stp κ1 H1 κ4 H4 := (st2.trans st3).trans st4
      have hD4 : H4 D = some (.lst vs) := (st3.trans st4).evo D _ hD2 (.inr nk2)
      cases bb with
      | false =>
        dsimp only
        rw [if_neg Bool.false_ne_true]
        exact ⟨xs.length - (i + 1), by omega, rfl, hlt, κ4, cs3, acc, vs, st14, rs4, hD4, (st3.trans st4).mv.rvs _ _ racc, Nat.le_succ_of_le hacc, tn (.ok acc cs3) (by unfold cTurn; rw [esg, R.ofO_some, R.bind_ok, hfc]; rfl)⟩
      | true =>
        dsimp only
        rw [if_pos rfl]
        refine ⟨_, κ4, env', cs3, rs4, re'.mv st4.mv, ?_⟩
        cases hfe : fe env' cs3 with
        | stuck => exact (tn .stuck (by unfold cTurn; rw [esg, R.ofO_some, R.bind_ok, hfc, R.bind_ok, if_pos rfl, hfe]; rfl)).elim
        | exc c pl cs => exact (tn .stuck (by unfold cTurn; rw [esg, R.ofO_some, R.bind_ok, hfc, R.bind_ok, if_pos rfl, hfe]; rfl)).elim
        | ok yi cs5 =>
          intro κ5 H5 y st5 rs5 rv5 _
          have nk4 : D ∉ κ4 := fun z => by obtain ⟨_, _, _, _, _, n⟩ := rs4.at z; exact n (.inr rfl)
          have hD5 : H5 D = some (.lst vs) := st5.evo D _ hD4 (.inr nk4)
          have rv5' := ((st3.trans st4).trans st5).mv.rvs _ _ racc
          have ns : ¬ Sealed (.lst vs) := fun z => z
          refine ⟨vs, hD5, ?_, xs.length - (i + 1), by omega, rfl, hlt, κ5, cs5, acc ++ [yi], vs ++ [y], ?_, rs5.wr hD5 ns (.inr rfl), upd_same, (Mv.wr hD5 ns (.inl (.inr rfl))).rvs _ _ (rv5'.append (RVs.cons rv5 RVs.nil)), by rw [List.length_append]; exact Nat.succ_le_succ hacc, tn (.ok (acc ++ [yi]) cs5) (by unfold cTurn; rw [esg, R.ofO_some, R.bind_ok, hfc, R.bind_ok, if_pos rfl, hfe]; rfl)⟩
          · have := racc.len
            have h6 := line6
            omega
          · exact (st14.trans st5).wr hD (by rw [hD5]; intro z; cases z)
  · left
    have e : i = xs.length := by omega
    subst e
    refine ⟨(walk _ κ2 H2 (fun b => S b ∨ b = D) cs2 st2.loose (fun a h => h.imp id fun z => by rw [z]; exact hD) rs2).2 (Nat.le_refl _), ?_⟩
    rw [List.drop_length] at w2
    refine w2 κ2 H2 _ st2 (rs2.sub fun a h => .inl h) ?_ fun _ => ⟨D, acc, vs, rfl, rfl, hD2, hD, nS, nk2, racc, rs2⟩
    unfold RV
    exact ⟨D, vs, rfl, ⟨hD2, nS, nk2⟩, (Mv.anti fun a h => .inl h).rvs _ _ racc⟩
/-- [elt for tg in iter if ..] -/
theorem se_comp {own : List (Str × Nat)} {tgn : List Nat} {fi : Env → Cs → R (List IV)} {fc : Env → Cs → R Bool} {fe : Env → Cs → R IV} (O : CxOk T Φ J lv N sc X) (hi : PI X tg iter (tI T W fi)) (ok : BlkOk X.N X.env.scope scope own) (hlen : ∀ i ∈ tgn, i < X.N.length) (hown : ∀ i ∈ tgn, i ∈ own.map (·.2))
    (hg : ∀ (s : Shared) (H : Hp) (C : Addr) (cl : List (Str × Addr)) (fp : List Addr), PG (X.blk s H scope (compEnvC scope cl C X.env) fp) tg (gTg X.K tgn)) (ht : ∀ (s : Shared) (H : Hp) (C : Addr) (cl : List (Str × Addr)) (fp : List Addr), PTs (X.blk s H scope (compEnvC scope cl C X.env) fp) ifs (tC' T (fun _ _ _ _ => False) fc))
    (he : ∀ (s : Shared) (H : Hp) (C : Addr) (cl : List (Str × Addr)) (fp : List Addr), PE (X.blk s H scope (compEnvC scope cl C X.env) fp) elt (tE T (fun _ _ _ _ => False) false fe)) (hs : ∀ x, foldedSetIterable iter X.env x = pure x) :
    PE X (.ListComp elt [⟨tg, iter, ifs, 0⟩] scope pos) (tE T W fr (cF (own.map (·.2)) tgn fi fc fe)) :=
  ⟨fun pins s σ H Q I ⟨S, κ, env, cs, rs, re, w⟩ => (pe_lc O.calm O.nd hi ok hg ht he hs).run pins s σ H Q I (comp_r O.fs.K.symm (fun i h => by rw [I.len]; exact hlen i h) hown rs re w)⟩
/-- y = [..] on one line -/
theorem sp_comp {own : List (Str × Nat)} {tgn : List Nat} {fi : Env → Cs → R (List IV)} {fc : Env → Cs → R Bool} {fe : Env → Cs → R IV} {y : Str} {py spos : Pos} {i : Nat} (O : CxOk T Φ J lv N sc X) (hy : X.N[i]? = some y) (hyl : X.env.scope.names.lookup y = some .local)
    (hsw : swapsWith (.ListComp elt [⟨tg, iter, ifs, 0⟩] scope pos) (some (.Name y py)) spos.line X.env = pure true) (hi : PI X tg iter (tI T W fi)) (ok : BlkOk X.N X.env.scope scope own) (hlen : ∀ i ∈ tgn, i < X.N.length) (hown : ∀ i ∈ tgn, i ∈ own.map (·.2))
    (hg : ∀ (s : Shared) (H : Hp) (C : Addr) (cl : List (Str × Addr)) (fp : List Addr), PG (X.blk s H scope (compEnvC scope cl C X.env) fp) tg (gTg X.K tgn)) (ht : ∀ (s : Shared) (H : Hp) (C : Addr) (cl : List (Str × Addr)) (fp : List Addr), PTs (X.blk s H scope (compEnvC scope cl C X.env) fp) ifs (tC' T (fun _ _ _ _ => False) fc))
    (he : ∀ (s : Shared) (H : Hp) (C : Addr) (cl : List (Str × Addr)) (fp : List Addr), PE (X.blk s H scope (compEnvC scope cl C X.env) fp) elt (tE T (fun _ _ _ _ => False) false fe)) (hs : ∀ x, foldedSetIterable iter X.env x = pure x) :
    PS X (.Assign [.Name y py] (.ListComp elt [⟨tg, iter, ifs, 0⟩] scope pos) spos) (tAsg (tE T W fr (cF (own.map (·.2)) tgn fi fc fe)) (gName i)) :=
  ⟨fun pins s σ H D I ⟨S, κ, env, cs, rs, re, w⟩ => (ps_setLc O.calm O.nd hy hyl hsw hi ok hg ht he hs).run pins s σ H D I (comp_r O.fs.K.symm (fun i h => by rw [I.len]; exact hlen i h) hown rs re w)⟩
theorem Fs.blk {cenv : PySem.Env} {fp : List Addr} (F : Fs T Φ J lv X) : Fs T Φ J lv (X.blk s H scope cenv fp) := by
  obtain ⟨h1, h2, h3, h4, h5, h6, h7, h8, h9, h10, h11, h12, h13, h14, h15, h16, h17, h18, h19, h20, h21, h22, h23, h24, h25, h26, h27, h28, h29, h30, h31⟩ := F
  constructor <;> assumption
theorem CxOk.blk {cl : List (Str × Addr)} {C : Addr} {fp : List Addr} (O : CxOk T Φ J lv N sc X) : CxOk T Φ J lv N (relS scope sc) (X.blk s H scope (compEnvC scope cl C X.env) fp) :=
  ⟨O.fs.blk, O.hN, O.nd, by rw [← O.sc]; rfl, O.calm, O.room⟩
/-! ### two clauses -/
theorem StpO.thn {P : Addr → Prop} {κ2 : List Addr} {H2 : Hp} (a : StpO P κ H κ' H') (b : Stp κ' H' κ2 H2) : StpO P κ H κ2 H2 where
  pre := by
    obtain ⟨r, e⟩ := a.pre
    obtain ⟨r', e'⟩ := b.pre
    exact ⟨r ++ r', by rw [e', e, List.append_assoc]⟩
  fresh := fun x h => by
    rcases b.fresh x h with h | h
    · exact a.fresh x h
    · by_cases hx : x ∈ κ
      · exact .inl hx
      · by_cases hp : P x
        · exact .inr (.inr hp)
        · refine .inr (.inl ?_)
          cases e : H x with
          | none => rfl
          | some o => rw [a.evo x o e (.inr ⟨hx, hp⟩)] at h; cases h
  evo := fun x o h q => by
    refine b.evo x o (a.evo x o h q) ?_
    rcases q with q | q
    · exact .inl q
    · exact .inr (a.notin h q.1 q.2)
theorem StpO.wr {P : Addr → Prop} {p : Addr} {o : HO} {o0 : HO} (s : StpO P κ H κ' H') (hp : P p) (e0 : H' p = some o0) (hs : ¬ Sealed o0) : StpO P κ H κ' (upd H' p o) :=
  ⟨s.pre, s.fresh, fun a u e q => by
    have : a ≠ p := fun z => by
      subst z
      rcases q with q | q
      · have := s.evo a u e (.inl q)
        rw [e0] at this
        cases this
        exact hs q
      · exact q.2 hp
    rw [upd_ne this]
    exact s.evo a u e q⟩
def cTurn2 (own tg : List Nat) (fi1 : Env → Cs → R (List IV)) (tg1 : List Nat) (fc : Env → Cs → R Bool) (fe : Env → Cs → R IV) (env : Env) : IV → List IV → Cs → R (List IV) := fun x acc cs => ((R.ofO (setTg (wipeE env own) tg x) cs).bind fun env' cs => (fi1 env' cs).bind fun xs1 cs =>
      if xs1.length ≤ 1000 then compGo (cTurn tg1 tg1 fc fe env') xs1 acc cs else .stuck).noexc
def cF2 (own tg : List Nat) (fi fi1 : Env → Cs → R (List IV)) (tg1 : List Nat) (fc : Env → Cs → R Bool) (fe : Env → Cs → R IV) : Env → Cs → R IV := fun env cs => (fi env cs).bind fun xs cs => if xs.length ≤ 1000 then (compGo (cTurn2 own tg fi1 tg1 fc fe env) xs [] cs).bind fun ys cs => .ok (.lst ys) cs else .stuck
abbrev W0' : WX := fun _ _ _ _ => False
/-- the reading of a comprehension of two clauses -/
theorem comp2_r {own tgn tgn1 : List Nat} {fi fi1 : Env → Cs → R (List IV)} {fc : Env → Cs → R Bool} {fe : Env → Cs → R IV} {K : PySem.W.Frag} (hT : T.K = K) (hlen : ∀ i ∈ tgn, i < σ.length) (hlen1 : ∀ i ∈ tgn1, i < σ.length) (hown : ∀ i ∈ tgn, i ∈ own) (rs : RS T S κ H cs) (re : RE T S κ H env σ)
    (w : Wp T S (fun c d H' => W c d σ H') κ H fr (cF2 own tgn fi fi1 tgn1 fc fe env cs) Q) : tLc2 (tI T W fi) (gTg K tgn) (tC' T W0' fun _ cs => .ok true cs) (tI T W0' fi1) (gTg K tgn1) (tC' T W0' fc) (tE T W0' false fe) own tgn1 σ H Q := by
  refine ⟨S, κ, env, cs, rs, re, (Wp.bindk w).imp fun xs cs1 κ1 H1 rs1 ⟨st1, _, w1⟩ J walk D hD => ?_⟩
  split at w1
  case isFalse => exact w1.elim
  case isTrue hsz =>
  have nS : ¬ S D := fun z => rs1.dom D z hD
  have nk : D ∉ κ1 := fun z => rs1.kdom z hD
  have mvD : Mv T S κ1 H1 (fun b => S b ∨ b = D) κ1 (upd H1 D (.lst [])) := (Mv.add hD).trans (Stp.new hD).mv
  have rsD : RS T (fun b => S b ∨ b = D) κ1 (upd H1 D (.lst [])) cs1 := by
    refine rs1.mv mvD (fun a ha => upd_ne fun z => nk (z ▸ ha)) (fun a s z => ?_) fun a ha z => ?_
    · by_cases q : a = D
      · subst q; rw [upd_same] at z; cases z
      · rw [upd_ne q] at z; exact rs1.dom a (s.resolve_right q) z
    · rcases z with z | z
      · obtain ⟨_, _, _, _, _, n⟩ := rs1.at ha; exact n z
      · exact nk (z ▸ ha)
  refine ⟨fun i m H2 => m = xs.length - i ∧ i ≤ xs.length ∧ ∃ κ2 cs2 acc vs, Stp κ1 H1 κ2 H2 ∧ RS T (fun b => S b ∨ b = D) κ2 H2 cs2 ∧ H2 D = some (.lst vs) ∧ RVs T (fun b => S b ∨ b = D) κ2 H2 acc vs ∧ acc.length ≤ 1000 * i ∧
      Wp T S (fun c d H' => W c d σ H') κ1 H1 fr ((compGo (cTurn2 own tgn fi1 tgn1 fc fe env) (xs.drop i) acc cs2).bind fun ys cs => .ok (.lst ys) cs) Q, ⟨xs.length, by simp, Nat.zero_le _, κ1, cs1, [], [], Stp.new hD, rsD, upd_same, RVs.nil, Nat.zero_le _, w1⟩, ?_⟩
  rintro i m H2 ⟨rfl, hi, κ2, cs2, acc, vs, st2, rs2, hD2, racc, hacc, w2⟩
  have nk2 : D ∉ κ2 := fun z => by obtain ⟨_, _, _, _, _, n⟩ := rs2.at z; exact n (.inr rfl)
  by_cases hlt : i < xs.length
  · right
    have hx : xs[i]? = some xs[i] := List.getElem?_eq_getElem hlt
    obtain ⟨hgo, hy⟩ := (walk i κ2 H2 (fun b => S b ∨ b = D) cs2 st2.loose (fun a h => h.imp id fun z => by rw [z]; exact hD) rs2).1 _ hx
    refine ⟨hgo, fun H3 => ∃ m', m' < xs.length - i ∧ m' = xs.length - (i + 1) ∧ i + 1 ≤ xs.length ∧ ∃ κ2 cs2 acc vs, Stp κ1 H1 κ2 H3 ∧ RS T (fun b => S b ∨ b = D) κ2 H3 cs2 ∧ H3 D = some (.lst vs) ∧ RVs T (fun b => S b ∨ b = D) κ2 H3 acc vs ∧ acc.length ≤ 1000 * (i + 1) ∧
      Wp T S (fun c d H' => W c d σ H') κ1 H1 fr ((compGo (cTurn2 own tgn fi1 tgn1 fc fe env) (xs.drop (i + 1)) acc cs2).bind fun ys cs => .ok (.lst ys) cs) Q, fun H' ⟨m', h1, h2⟩ => ⟨m', h1, h2⟩, fun v H3 yl => ?_⟩
    obtain ⟨st3, rs3, rvx⟩ := hy v H3 yl
    have hd : xs.drop i = xs[i] :: xs.drop (i + 1) := List.drop_eq_getElem_cons hlt
    rw [hd, compGo_cons] at w2
    have e1 : ((cTurn2 own tgn fi1 tgn1 fc fe env xs[i] acc cs2).bind fun acc cs => compGo (cTurn2 own tgn fi1 tgn1 fc fe env) (xs.drop (i + 1)) acc cs).bind (fun ys cs => R.ok (IV.lst ys) cs) = (cTurn2 own tgn fi1 tgn1 fc fe env xs[i] acc cs2).bind fun acc cs => (compGo (cTurn2 own tgn fi1 tgn1 fc fe env) (xs.drop (i + 1)) acc cs).bind fun ys cs => .ok (.lst ys) cs := R.bind_assoc _ _ _
    rw [e1] at w2
    generalize hG : (fun (acc : List IV) cs => (compGo (cTurn2 own tgn fi1 tgn1 fc fe env) (xs.drop (i + 1)) acc cs).bind fun ys cs => R.ok (IV.lst ys) cs) = G at w2
    have re3 : RE T (fun b => S b ∨ b = D) κ2 H3 env σ := re.mv (st1.mv.trans ((Mv.add hD).trans (st2.trans st3).mv))
    have tn : ∀ r : R (List IV), cTurn2 own tgn fi1 tgn1 fc fe env xs[i] acc cs2 = r → Wp T S (fun c d H' => W c d σ H') κ1 H1 fr (r.bind G) Q := fun r h => h ▸ w2
    cases esg : setTg (wipeE env own) tgn xs[i] with
    | none => exact (tn .stuck (by unfold cTurn2; rw [esg]; rfl)).elim
    | some env' =>
    refine gTg_ok hT (by simpa [wipe_length] using hlen) esg rvx (re3.wipe own) fun σ' re' hl ho => ?_
    have hw : wipe σ' own = wipe σ own := by
      have h1 : wipe σ' own = wipe (wipe σ own) own := wipe_same hl fun j hj => ho j fun z => hj (hown j z)
      have h2 : wipe (wipe σ own) own = wipe σ own := wipe_same (by rw [wipe_length]) fun j hj => by rw [wipe_out hj]
      rw [h1, h2]
    refine ⟨hw, ?_⟩
    have hl' : σ'.length = σ.length := by rw [hl, wipe_length]
    refine ⟨_, κ2, env', cs2, rs3, re', ?_⟩
    intro κ4 H4 st4 rs4
    dsimp only
    rw [if_pos rfl]
    refine ⟨_, κ4, env', cs2, rs4, re'.mv st4.mv, ?_⟩
    cases hfi : fi1 env' cs2 with
    | stuck => exact (tn .stuck (by unfold cTurn2; rw [esg, R.ofO_some, R.bind_ok, hfi]; rfl)).elim
    | exc c pl cs => exact (tn .stuck (by unfold cTurn2; rw [esg, R.ofO_some, R.bind_ok, hfi]; rfl)).elim
    | ok xs1 cs5 =>
    intro κ5 H5 st5 rs5 J1 walk1
    have st15 : Stp κ1 H1 κ5 H5 := ((st2.trans st3).trans st4).trans st5
    have hD5 : H5 D = some (.lst vs) := ((st3.trans st4).trans st5).evo D _ hD2 (.inr nk2)
    have racc5 := ((st3.trans st4).trans st5).mv.rvs _ _ racc
    have nk5 : D ∉ κ5 := fun z => by obtain ⟨_, _, _, _, _, n⟩ := rs5.at z; exact n (.inr rfl)
    by_cases hsz1 : xs1.length ≤ 1000
    case neg => exact (tn .stuck (by unfold cTurn2; rw [esg, R.ofO_some, R.bind_ok, hfi, R.bind_ok, if_neg hsz1]; rfl)).elim
    have w5 : Wp T S (fun c d H' => W c d σ H') κ1 H1 fr ((compGo (cTurn tgn1 tgn1 fc fe env') (xs1.drop 0) acc cs5).noexc.bind G) Q := tn _ (by unfold cTurn2; rw [esg, R.ofO_some, R.bind_ok, hfi, R.bind_ok, if_pos hsz1, List.drop_zero])
    refine ⟨fun j k H6 => k = xs1.length - j ∧ j ≤ xs1.length ∧ ∃ κ6 cs6 acc vs, StpO (fun b => S b ∨ b = D) κ5 H5 κ6 H6 ∧ Stp κ1 H1 κ6 H6 ∧ RS T (fun b => S b ∨ b = D) κ6 H6 cs6 ∧ RE T (fun b => S b ∨ b = D) κ6 H6 env' σ' ∧ H6 D = some (.lst vs) ∧ RVs T (fun b => S b ∨ b = D) κ6 H6 acc vs ∧ acc.length ≤ 1000 * i + j ∧
      Wp T S (fun c d H' => W c d σ H') κ1 H1 fr ((compGo (cTurn tgn1 tgn1 fc fe env') (xs1.drop j) acc cs6).noexc.bind G) Q, ⟨xs1.length, by simp, Nat.zero_le _, κ5, cs5, acc, vs, Stp.rfl'.loose, st15, rs5, re'.mv (st4.trans st5).mv, hD5, racc5, by omega, w5⟩, ?_⟩
    rintro j k H6 ⟨rfl, hj, κ6, cs6, acc6, vs6, so6, st6, rs6, re6, hD6, racc6, hacc6, w6⟩
    have nk6 : D ∉ κ6 := fun z => by obtain ⟨_, _, _, _, _, n⟩ := rs6.at z; exact n (.inr rfl)
    by_cases hlt1 : j < xs1.length
    · right
      have hx1 : xs1[j]? = some xs1[j] := List.getElem?_eq_getElem hlt1
      obtain ⟨hgo1, hy1⟩ := (walk1 j κ6 H6 (fun b => S b ∨ b = D) cs6 so6 (fun a h => .inl h) rs6).1 _ hx1
      refine ⟨hgo1, fun H7 => ∃ k', k' < xs1.length - j ∧ k' = xs1.length - (j + 1) ∧ j + 1 ≤ xs1.length ∧ ∃ κ6 cs6 acc vs, StpO (fun b => S b ∨ b = D) κ5 H5 κ6 H7 ∧ Stp κ1 H1 κ6 H7 ∧ RS T (fun b => S b ∨ b = D) κ6 H7 cs6 ∧ RE T (fun b => S b ∨ b = D) κ6 H7 env' σ' ∧ H7 D = some (.lst vs) ∧ RVs T (fun b => S b ∨ b = D) κ6 H7 acc vs ∧ acc.length ≤ 1000 * i + (j + 1) ∧
        Wp T S (fun c d H' => W c d σ H') κ1 H1 fr ((compGo (cTurn tgn1 tgn1 fc fe env') (xs1.drop (j + 1)) acc cs6).noexc.bind G) Q, fun H' ⟨k', h1, h2⟩ => ⟨k', h1, h2⟩, fun v1 H7 yl1 => ?_⟩
      obtain ⟨st7, rs7, rvx1⟩ := hy1 v1 H7 yl1
      have hd1 : xs1.drop j = xs1[j] :: xs1.drop (j + 1) := List.drop_eq_getElem_cons hlt1
      rw [hd1, compGo_cons] at w6
      have tn1 : ∀ r : R (List IV), cTurn tgn1 tgn1 fc fe env' xs1[j] acc6 cs6 = r → Wp T S (fun c d H' => W c d σ H') κ1 H1 fr ((r.bind fun acc cs => compGo (cTurn tgn1 tgn1 fc fe env') (xs1.drop (j + 1)) acc cs).noexc.bind G) Q := fun r h => h ▸ w6
      cases esg1 : setTg (wipeE env' tgn1) tgn1 xs1[j] with
      | none => exact (tn1 .stuck (by unfold cTurn; rw [esg1]; rfl)).elim
      | some env1 =>
      refine gTg_ok hT (by simpa [wipe_length, hl'] using hlen1) esg1 rvx1 ((re6.mv st7.mv).wipe tgn1) fun σ1 re1 hl1 ho1 => ?_
      have hw1 : wipe σ1 tgn1 = wipe σ' tgn1 := by
        have h1 : wipe σ1 tgn1 = wipe (wipe σ' tgn1) tgn1 := wipe_same hl1 fun j hj => ho1 j hj
        have h2 : wipe (wipe σ' tgn1) tgn1 = wipe σ' tgn1 := wipe_same (by rw [wipe_length]) fun j hj => by rw [wipe_out hj]
        rw [h1, h2]
      refine ⟨hw1, ?_⟩
      refine ⟨_, κ6, env1, cs6, rs7, re1, ?_⟩
      cases hfc : fc env1 cs6 with
      | stuck => exact (tn1 .stuck (by unfold cTurn; rw [esg1, R.ofO_some, R.bind_ok, hfc]; rfl)).elim
      | exc c pl cs => exact (tn1 .stuck (by unfold cTurn; rw [esg1, R.ofO_some, R.bind_ok, hfc]; rfl)).elim
      | ok bb cs8 =>
        intro κ8 H8 st8 rs8
        have st78 := st7.trans st8
        have hD8 : H8 D = some (.lst vs6) := st78.evo D _ hD6 (.inr nk6)
        have ns : ¬ Sealed (.lst vs6) := fun z => z
        cases bb with
        | false =>
          dsimp only
          rw [if_neg Bool.false_ne_true]
          exact ⟨xs1.length - (j + 1), by omega, rfl, hlt1, κ8, cs8, acc6, vs6, so6.thn st78, st6.trans st78, rs8, re6.mv st78.mv, hD8, st78.mv.rvs _ _ racc6, Nat.le_succ_of_le hacc6, tn1 (.ok acc6 cs8) (by unfold cTurn; rw [esg1, R.ofO_some, R.bind_ok, hfc]; rfl)⟩
        | true =>
          dsimp only
          rw [if_pos rfl]
          refine ⟨_, κ8, env1, cs8, rs8, re1.mv st8.mv, ?_⟩
          cases hfe : fe env1 cs8 with
          | stuck => exact (tn1 .stuck (by unfold cTurn; rw [esg1, R.ofO_some, R.bind_ok, hfc, R.bind_ok, if_pos rfl, hfe]; rfl)).elim
          | exc c pl cs => exact (tn1 .stuck (by unfold cTurn; rw [esg1, R.ofO_some, R.bind_ok, hfc, R.bind_ok, if_pos rfl, hfe]; rfl)).elim
          | ok yi cs9 =>
            intro κ9 H9 y st9 rs9 rv9 _
            have nk8 : D ∉ κ8 := fun z => by obtain ⟨_, _, _, _, _, n⟩ := rs8.at z; exact n (.inr rfl)
            have hD9 : H9 D = some (.lst vs6) := st9.evo D _ hD8 (.inr nk8)
            have st79 := st78.trans st9
            have mvw : Mv T (fun b => S b ∨ b = D) κ9 H9 (fun b => S b ∨ b = D) κ9 (upd H9 D (.lst (vs6 ++ [y]))) := Mv.wr hD9 ns (.inl (.inr rfl))
            refine ⟨vs6, hD9, ?_, xs1.length - (j + 1), by omega, rfl, hlt1, κ9, cs9, acc6 ++ [yi], vs6 ++ [y], (so6.thn st79).wr (.inr rfl) hD9 ns, (st6.trans st79).wr hD (by rw [hD9]; intro z; cases z), rs9.wr hD9 ns (.inr rfl), (re6.mv st79.mv).mv mvw, upd_same, mvw.rvs _ _ ((st79.mv.rvs _ _ racc6).append (RVs.cons rv9 RVs.nil)), by rw [List.length_append]; exact Nat.succ_le_succ hacc6, tn1 (.ok (acc6 ++ [yi]) cs9) (by unfold cTurn; rw [esg1, R.ofO_some, R.bind_ok, hfc, R.bind_ok, if_pos rfl, hfe]; rfl)⟩
            have := racc6.len
            have h6 := line6
            omega
    · left
      have e : j = xs1.length := by omega
      subst e
      refine ⟨(walk1 _ κ6 H6 (fun b => S b ∨ b = D) cs6 so6 (fun a h => .inl h) rs6).2 (Nat.le_refl _), ?_⟩
      rw [List.drop_length] at w6
      refine ⟨xs.length - (i + 1), by omega, rfl, hlt, κ6, cs6, acc6, vs6, st6, rs6, hD6, racc6, by omega, ?_⟩
      rw [← hG] at w6
      exact w6
  · left
    have e : i = xs.length := by omega
    subst e
    refine ⟨(walk _ κ2 H2 (fun b => S b ∨ b = D) cs2 st2.loose (fun a h => h.imp id fun z => by rw [z]; exact hD) rs2).2 (Nat.le_refl _), ?_⟩
    rw [List.drop_length] at w2
    refine w2 κ2 H2 _ st2 (rs2.sub fun a h => .inl h) ?_ fun _ => ⟨D, acc, vs, rfl, rfl, hD2, hD, nS, nk2, racc, rs2⟩
    unfold RV
    exact ⟨D, vs, rfl, ⟨hD2, nS, nk2⟩, (Mv.anti fun a h => .inl h).rvs _ _ racc⟩
/-- [elt for tg in iter for tg1 in iter1 if ..] -/
theorem se_comp2 {own : List (Str × Nat)} {tgn tgn1 : List Nat} {fi fi1 : Env → Cs → R (List IV)} {fc : Env → Cs → R Bool} {fe : Env → Cs → R IV} {tg1 iter1 : Expr} {ifs1 : List Expr} (O : CxOk T Φ J lv N sc X) (hi : PI X tg iter (tI T W fi)) (ok : BlkOk X.N X.env.scope scope own) (hlen : ∀ i ∈ tgn, i < X.N.length) (hlen1 : ∀ i ∈ tgn1, i < X.N.length) (hown : ∀ i ∈ tgn, i ∈ own.map (·.2)) (hown1 : ∀ i ∈ tgn1, i ∈ own.map (·.2))
    (hg : ∀ (s : Shared) (H : Hp) (C : Addr) (cl : List (Str × Addr)) (fp : List Addr), PG (X.blk s H scope (compEnvC scope cl C X.env) fp) tg (gTg X.K tgn))
    (hi1 : ∀ (s : Shared) (H : Hp) (C : Addr) (cl : List (Str × Addr)) (fp : List Addr), PI (X.blk s H scope (compEnvC scope cl C X.env) fp) tg1 iter1 (tI T W0' fi1))
    (hg1 : ∀ (s : Shared) (H : Hp) (C : Addr) (cl : List (Str × Addr)) (fp : List Addr), PG (X.blk s H scope (compEnvC scope cl C X.env) fp) tg1 (gTg X.K tgn1))
    (ht1 : ∀ (s : Shared) (H : Hp) (C : Addr) (cl : List (Str × Addr)) (fp : List Addr), PTs (X.blk s H scope (compEnvC scope cl C X.env) fp) ifs1 (tC' T W0' fc))
    (he : ∀ (s : Shared) (H : Hp) (C : Addr) (cl : List (Str × Addr)) (fp : List Addr), PE (X.blk s H scope (compEnvC scope cl C X.env) fp) elt (tE T W0' false fe)) (hs : ∀ x, foldedSetIterable iter X.env x = pure x) (hs1 : ∀ en x, foldedSetIterable iter1 en x = pure x) :
    PE X (.ListComp elt [⟨tg, iter, [], 0⟩, ⟨tg1, iter1, ifs1, 0⟩] scope pos) (tE T W fr (cF2 (own.map (·.2)) tgn fi fi1 tgn1 fc fe)) :=
  ⟨fun pins s σ H Q I ⟨S, κ, env, cs, rs, re, w⟩ => (pe_lc2 O.calm O.nd hi ok hown1 hg (fun _ _ _ _ _ => sc_nil fun _ _ => rfl) hi1 hg1 ht1 he hs hs1).run pins s σ H Q I (comp2_r O.fs.K.symm (fun i h => by rw [I.len]; exact hlen i h) (fun i h => by rw [I.len]; exact hlen1 i h) hown rs re w)⟩
/-- y = [..] of two clauses, on one line -/
theorem sp_comp2 {own : List (Str × Nat)} {tgn tgn1 : List Nat} {fi fi1 : Env → Cs → R (List IV)} {fc : Env → Cs → R Bool} {fe : Env → Cs → R IV} {y : Str} {py spos : Pos} {i : Nat} {tg1 iter1 : Expr} {ifs1 : List Expr} (O : CxOk T Φ J lv N sc X) (hy : X.N[i]? = some y) (hyl : X.env.scope.names.lookup y = some .local)
    (hsw : swapsWith (.ListComp elt [⟨tg, iter, [], 0⟩, ⟨tg1, iter1, ifs1, 0⟩] scope pos) (some (.Name y py)) spos.line X.env = pure true) (hi : PI X tg iter (tI T W fi)) (ok : BlkOk X.N X.env.scope scope own) (hlen : ∀ i ∈ tgn, i < X.N.length) (hlen1 : ∀ i ∈ tgn1, i < X.N.length) (hown : ∀ i ∈ tgn, i ∈ own.map (·.2)) (hown1 : ∀ i ∈ tgn1, i ∈ own.map (·.2))
    (hg : ∀ (s : Shared) (H : Hp) (C : Addr) (cl : List (Str × Addr)) (fp : List Addr), PG (X.blk s H scope (compEnvC scope cl C X.env) fp) tg (gTg X.K tgn))
    (hi1 : ∀ (s : Shared) (H : Hp) (C : Addr) (cl : List (Str × Addr)) (fp : List Addr), PI (X.blk s H scope (compEnvC scope cl C X.env) fp) tg1 iter1 (tI T W0' fi1))
    (hg1 : ∀ (s : Shared) (H : Hp) (C : Addr) (cl : List (Str × Addr)) (fp : List Addr), PG (X.blk s H scope (compEnvC scope cl C X.env) fp) tg1 (gTg X.K tgn1))
    (ht1 : ∀ (s : Shared) (H : Hp) (C : Addr) (cl : List (Str × Addr)) (fp : List Addr), PTs (X.blk s H scope (compEnvC scope cl C X.env) fp) ifs1 (tC' T W0' fc))
    (he : ∀ (s : Shared) (H : Hp) (C : Addr) (cl : List (Str × Addr)) (fp : List Addr), PE (X.blk s H scope (compEnvC scope cl C X.env) fp) elt (tE T W0' false fe)) (hs : ∀ x, foldedSetIterable iter X.env x = pure x) (hs1 : ∀ en x, foldedSetIterable iter1 en x = pure x) :
    PS X (.Assign [.Name y py] (.ListComp elt [⟨tg, iter, [], 0⟩, ⟨tg1, iter1, ifs1, 0⟩] scope pos) spos) (tAsg (tE T W fr (cF2 (own.map (·.2)) tgn fi fi1 tgn1 fc fe)) (gName i)) :=
  ⟨fun pins s σ H D I ⟨S, κ, env, cs, rs, re, w⟩ => (ps_setLc2 O.calm O.nd hy hyl hsw hi ok hown1 hg (fun _ _ _ _ _ => sc_nil fun _ _ => rfl) hi1 hg1 ht1 he hs hs1).run pins s σ H D I (comp2_r O.fs.K.symm (fun i h => by rw [I.len]; exact hlen i h) (fun i h => by rw [I.len]; exact hlen1 i h) hown rs re w)⟩
end
end EG

-- Eng9
/-! Engine 9: properties, list(..) of an instance. -/
namespace EG
open PySem PySem.Spec L2 PyProof.Rows
section
variable {T : CT} {Φ : Fns} {J : TX} {lv : Nat} {W : WX} {X : Cx} {S : Addr → Prop} {κ : List Addr} {H : Hp} {env : Env} {cs : Cs} {σ : L2.St} {fr : Bool} {Q : VK} {N : List Str} {sc : Scope} {pins : List (Addr × Obj)} {s : Shared} {A : Around} {e o : Expr} {es : List Expr} {f : Env → Cs → R IV} {g : Env → Cs → R (List IV)} {p pos apos : Pos} {x : Str} {E : Value → Option Addr → Hp → Prop}
abbrev X0 : XK := fun _ _ _ => False
theorem noE {prog : Program} {w : World} {st : List PySem.Env} {u : Value} {s' : Shared} (c : L2.CX prog w st H s X0 u s') : False := by
  obtain ⟨_, _, _, _, _, _, _, _, _, _, _, _, h⟩ := c
  exact h
theorem Wp.nex {r : R IV} {E' : Value → Option Addr → Hp → Prop} (w : Wp T S E κ H fr r.noexc Q) : Wp T S E' κ H fr r Q := by
  cases r with
  | ok x cs => exact w
  | exc c pl cs => exact w.elim
  | stuck => exact w
/-- a def is called that raises nothing -/
theorem callFN {n : Nat} {as : List IV} {vs : List V} {us : List Value} {E' : Value → Shared → Prop} (F : Fs T Φ J lv X) (hn : n < J.nf) (hr : Room lv A) (hA : A.frames = X.A.frames) (I : Inv X pins σ H s) (rs : RS T S κ H cs) (rv : RVs T S κ H as vs) (r : Vals vs us)
    (hl : as.length = (J.fps n).length) (w : Wp T S X0 κ H (J.ffr n) (Φ.fn n as cs) Q) : wpAny (model X.prog X.w) A (call (.ref (J.fad n)) us) (EP X pins σ Q) E' s := by
  have b := F.bi n hn s us I.kIn (by rw [List.append_nil, ← r.length, ← rv.len]; exact hl)
  rw [List.append_nil] at b
  have e := I.env0
  refine wpAny_call (codeAny_mono ((F.fn n hn).run A X.stack s H ⟨us, []⟩ us vs Q X0 hr ⟨hA ▸ e.frames, e.mod, e.bs, e.bsz, e.funs, e.frf, e.hok, e.bare⟩ b r ⟨rv.vals_len hl, S, κ, as, cs, rs, rv, w⟩) fun q s' hq => ?_)
  cases q with
  | error e => exact (noE hq).elim
  | ok fl => cases fl with
    | ret u => exact I.after hq
    | next => exact False.elim hq
    | brk => exact False.elim hq
    | cont => exact False.elim hq
/-- o.f, a property -/
theorem se_prp {c n : Nat} (O : CxOk T Φ J lv N sc X) (tk : Takes X W) (hp : (c, x, n) ∈ J.prs) (ho : PE X o (tE T W false f)) (hb : attributeBase o x X.env (eval o X.env) = eval o X.env) :
    PE X (.Attribute o x pos) (tE T W false fun env cs => (f env cs).bind fun y cs => if isOf c y cs = true then (Φ.fn n [y] cs).noexc else .stuck) := by
  obtain ⟨hc, hn, hl, hfr, pa, hP⟩ := O.fs.pr _ hp
  have b := O.fs.bi n hn
  refine PE.by' (pe_prop (CX := L2.CX X.prog X.w) (ds := []) (dvs := []) (E := X0) ho (O.fs.cl _ hc).1 hP (O.fs.fn n hn) (O.room.mono (by omega)) b .nil (fun _ _ _ _ _ _ _ h => (noE h).elim) hb) fun σ H Q S κ env cs rs re w => ?_
  refine tE.use rs re w fun v H1 y cs1 κ1 st1 rs1 rv1 w1 => ?_
  split at w1
  · rename_i his
    obtain ⟨a, dx, vs, rfl, ea⟩ := isOf_heap rs1 rv1 his
    exact ⟨a, dx, _, rfl, ea, hl.symm, S, κ1, [y], cs1, rs1, RVs.cons rv1 RVs.nil, by rw [hfr]; exact w1.nex⟩
  · exact w1.elim
/-- how long an instance says it is -/
theorem hint_own {C : Addr} {ox : Obj} {od : Option Obj} {a fl : Addr} {Qb : Bool → Shared → Prop} {E' : Value → Shared → Prop} (I : Inv X pins σ H s) (Jx : PySem.W.InstAt s.heap a ox C od) (hs : PySem.W.findIn X.K (.ref C) "__len__" = some (some (.ref fl))) (hf : PySem.W.isFn X.K (.ref fl) = true)
    (h : ∀ E1 : Value → Shared → Prop, wpAny (model X.prog X.w) A.in1 (call (.ref fl) [.ref a]) (fun u s' => ∃ (i : Int) (t : Tok), u = .int i t ∧ 0 ≤ i ∧ i ≤ 1000000 ∧ ∀ b s'', s'' = { s' with toks := s'.toks + 1 } → Qb b s'') E1 s) : wpAny (model X.prog X.w) A (Builtin.List.listLengthHint (.ref a)) Qb E' s := by
  have l6 := sizeLine_eq
  obtain ⟨m, hF⟩ := I.fr
  unfold Builtin.List.listLengthHint
  refine wpAny_bind (wpAny_bind (Jx.type.here ((PySem.W.looks_findIn I.kIn hs).here ?_)))
  refine PySem.W.KFB.if_not rfl ?_
  refine wpAny_bind (wpAny_rule ?_)
  refine wpAny_bind (wpAny_attempt ?_)
  refine PySem.W.len_K (K := X.K) hF I.ok.mod.kin Jx hs hf ?_
  refine wpAny_mono (h _) (fun u s' q => ?_) fun _ _ z => z
  obtain ⟨i, t, rfl, h0, h1, k⟩ := q
  refine ⟨⟨h0, by omega⟩, ?_⟩
  refine wpAny_bind (m := asInt? (.int i t)) (wpAny_pure ?_)
  show wpAny _ _ (if Builtin.List.listTooLong i.toNat = true then _ else pure (i != 0)) _ _ _
  rw [if_neg (by unfold Builtin.List.listTooLong; simp; omega)]
  exact wpAny_pure (k _ _ rfl)
/-- what list(..) of an instance gives, by values -/
def rLsti (T : CT) (Φ : Fns) (c n k : Nat) : List V → Hp → VK → Prop := fun vs H Q => ∃ (E : XK) (S : Addr → Prop) (κ : List Addr) (xs : List IV) (cs : Cs), RS T S κ H cs ∧ RVs T S κ H xs vs ∧ Wp T S E κ H false (lstiI Φ c n k xs cs) Q
/-- a field of an instance -/
theorem fld_rv {c k : Nat} {y t : IV} {v : V} {cs' : Cs} (nd : (T.fld c).Nodup) (hx : (T.fld c)[k]? = some x) (rs : RS T S κ H cs) (rv : RV T S κ H y v) (h : attrI y c k cs = .ok t cs') :
    ∃ a dx fs u, v = .ref a ∧ H a = some (.ins (T.cls c) dx fs) ∧ fs.lookup x = some u ∧ RV T S κ H t u ∧ cs' = cs ∧ isOf c y cs = true := by
  cases y <;> first | (cases h; done) | skip
  · rename_i c' fs
    unfold attrI at h
    dsimp only at h
    split at h
    · rename_i hcc
      subst hcc
      cases hf : fs[k]? with
      | none => rw [hf] at h; cases h
      | some z =>
        rw [hf] at h
        cases h
        unfold RV at rv
        obtain ⟨a, dx, vs, rfl, q, _, hl, r⟩ := rv
        obtain ⟨u, eu, ru⟩ := r.get hf
        exact ⟨a, dx, _, u, rfl, q, zip_lookup nd hx eu, ru, rfl, by unfold isOf; simp⟩
    · cases h
  · rename_i n
    unfold attrI at h
    dsimp only at h
    split at h
    · rename_i c' fs hcs
      split at h
      · rename_i hcc
        subst hcc
        cases hf : fs[k]? with
        | none => rw [hf] at h; cases h
        | some z =>
          rw [hf] at h
          cases h
          unfold RV at rv
          obtain ⟨a, rfl, q⟩ := rv
          obtain ⟨⟨dx, vs, q', _, r⟩, _⟩ := rs.cel n _ a hcs q
          obtain ⟨u, eu, ru⟩ := r.get hf
          exact ⟨a, dx, _, u, rfl, q', zip_lookup nd hx eu, ru, rfl, by unfold isOf; simp [hcs]⟩
      · cases h
    · cases h
theorem attrI_ex {y : IV} {c k : Nat} {e : Nat} {pl : List IV} {cs' : Cs} : attrI y c k cs ≠ .exc e pl cs' := by
  have h0 : ∀ o : Option IV, (R.ofO o cs : R IV) ≠ .exc e pl cs' := fun o => by cases o <;> (intro z; cases z)
  unfold attrI
  split
  · split
    · exact h0 _
    · intro z; cases z
  · split
    · split
      · exact h0 _
      · intro z; cases z
    · intro z; cases z
  · intro z; cases z
/-- what a thing of the model's own is changed to -/
theorem Mv.ext {p : Addr} {φ : Heap → Prop} {u : HO} (h : H p = some (.ext φ)) : Mv T S κ H S κ (upd H p u) where
  l := fun a vs ⟨q, n⟩ => ⟨by rw [upd_ne fun z => by subst z; rw [h] at q; cases q]; exact q, n⟩
  t := fun a vs q => by
    rcases q with (q | ⟨o, q⟩) | q
    · exact .inl (.inl (by rw [upd_ne fun z => by subst z; rw [h] at q; cases q]; exact q))
    · exact .inl (.inr ⟨o, by rw [upd_ne fun z => by subst z; rw [h] at q; cases q]; exact q⟩)
    · exact .inr q
  r := fun a vs q => by
    rcases q with ⟨o, q⟩ | q
    · exact .inl ⟨o, by rw [upd_ne fun z => by subst z; rw [h] at q; cases q]; exact q⟩
    · exact .inr q
  o := fun a C dx fs e n => ⟨by rw [upd_ne fun z => by subst z; rw [h] at e; cases e]; exact e, n⟩
  c := fun _ _ e => e
theorem RS.ext {p : Addr} {φ : Heap → Prop} {u : HO} (rs : RS T S κ H cs) (h : H p = some (.ext φ)) : RS T S κ (upd H p u) cs :=
  rs.mv (Mv.ext h) (fun a ha => upd_ne fun z => by
    subst z
    obtain ⟨n, o, _, _, r, _⟩ := rs.at ha
    cases o with
    | lst xs => obtain ⟨vs, q, _⟩ := r; rw [h] at q; cases q
    | ins c fs => obtain ⟨dx, vs, q, _⟩ := r; rw [h] at q; cases q) (fun a s z => by
    by_cases q : a = p
    · subst q; rw [upd_same] at z; cases z
    · rw [upd_ne q] at z; exact rs.dom a s z) fun a ha => let ⟨_, _, _, _, _, n⟩ := rs.at ha; n
theorem call_lsti {c fi n k : Nat} (O : CxOk T Φ J lv N sc X) (hi : (c, fi, k) ∈ J.its) (hn : n < J.nf) (hm : J.isM n = true) (hP : notP J.prs n = true) (hc : J.fcl n = c) (hnm : J.fnm n = "__len__") (hl : (J.fps n).length = 1) (hfr : J.ffr n = false) : CallR X (.type "list") (rLsti T Φ c n k) := by
  intro pins s σ' H vs us Q I r w
  obtain ⟨E0, S, κ, xs, cs, rs, rvs, w⟩ := w
  unfold lstiI at w
  split at w
  · rename_i y
    split at w
    · rename_i hcc
      rw [Bool.and_eq_true] at hcc
      obtain ⟨hek, his⟩ := hcc
      obtain ⟨hcn, fx, hfx, hiter, hitF, bI, FI⟩ := O.fs.it hek _ hi
      obtain ⟨hc2, M, _⟩ := O.fs.me n hn hm hP
      rw [hnm] at M
      obtain ⟨mg, mf, _⟩ := M
      rw [hc] at mg
      cases ha : attrI y c k cs with
      | exc _ _ _ => exact absurd ha attrI_ex
      | stuck => rw [ha] at w; exact w.elim
      | ok t cs' =>
        rw [ha, R.bind_ok] at w
        obtain ⟨v, rfl, rv⟩ := rvs1 rvs
        obtain ⟨u, rfl, ru⟩ := vals1 r
        obtain ⟨a, dx, fs, uv, rfl, ea, hlk, rt, rfl, _⟩ := fld_rv (O.fs.cl c hcn).2.2.1 hfx rs rv ha
        cases ru
        cases t <;> first | exact w.elim | skip
        rename_i ys
        unfold RV at rt
        obtain ⟨tp, zs, rfl, hq, rz⟩ := rt
        have hq : SqT X.K H tp zs := by rw [O.fs.K]; exact hq
        have w : Wp T S E0 κ H false (((Φ.fn n [y] cs').noexc.bind smallK).bind fun _ cs => if ys.length ≤ 1000000 then .ok (.lst ys) cs else .stuck) Q := w
        cases hfn : Φ.fn n [y] cs' with
        | exc _ _ _ => rw [hfn] at w; exact w.elim
        | stuck => rw [hfn] at w; exact w.elim
        | ok iv cs4 =>
          rw [hfn] at w
          have w : Wp T S E0 κ H false ((smallK iv cs4).bind fun _ cs => if ys.length ≤ 1000000 then .ok (.lst ys) cs else .stuck) Q := w
          cases iv <;> first | exact w.elim | skip
          · rename Int => i
            unfold smallK at w
            dsimp only at w
            split at w
            · rename_i hi1
              rw [R.bind_ok] at w
              split at w
              · rename_i hys
                have room : ∀ m, m ≤ 13 → Room (lv + m) X.A := fun m h => O.room.mono (by omega)
                have hcal : X.A.handled = none := I.ok.hd O.calm
                refine callType_codes (Q₁ := fun q s1 => q = .ref s.heap.objs.size ∧ s1 = { s with heap := s.heap.push { cls := .type "list", data := .seq #[] } }) PySem.F.called_list (PySem.F.typeCall_list_1 _) PySem.F.entry_list_init (code_list_new _ ⟨rfl, rfl⟩) fun q s1 h1 => ?_
                obtain ⟨rfl, rfl⟩ := h1
                generalize hL : s.heap.objs.size = L
                have hS : (s.heap.push { cls := .type "list", data := .seq #[] }).get? L = some { cls := .type "list", data := .seq #[] } := hL ▸ Heap.get?_push_size _ rfl
                have nL : H L = none := hL ▸ I.hok.fresh (Nat.le_refl _)
                refine ⟨⟨_, hS, rfl⟩, PySem.F.args_list_init_2 _ _, ?_⟩
                have I1 : Inv X pins σ' (upd H L (.lst [])) { s with heap := s.heap.push { cls := .type "list", data := .seq #[] } } := hL ▸ I.lnew (its := []) (t' := s.toks) .nil (Nat.zero_le _)
                show wpAny _ _ (Builtin.List.listItems (.ref L) >>= fun old => Builtin.List.listUpdate (.ref L) (fun _ => #[]) >>= fun _ => letGo old.toList.reverse >>= fun _ => Builtin.List.listExtendWith (.ref L) (.ref a) .none) _ _ _
                refine wpAny_bind ?_
                unfold Builtin.List.listItems
                refine wpAny_bind (wpAny_seqItems hS rfl (wpAny_pure ?_))
                show wpAny _ _ (updateSeq L (fun _ => #[]) >>= fun _ => letGo (#[] : Array Value).toList.reverse >>= fun _ => Builtin.List.listExtendWith (.ref L) (.ref a) .none) _ _ _
                refine wpAny_bind (wpAny_updateSeq hS rfl ?_)
                have I2 := I1.lset (f := fun _ => #[]) (its := []) (its' := []) (ys := []) (t' := s.toks) upd_same hS rfl .nil (Nat.zero_le _)
                rw [upd_upd] at I2
                refine wpAny_bind (wpAny_letGo ?_)
                have na : a ≠ L := ne_of_none ea nL
                have ea2 : upd H L (.lst []) a = some (.ins (T.cls c) dx fs) := by rw [upd_ne na]; exact ea
                have st2 : Stp κ H κ (upd H L (.lst [])) := Stp.new nL
                have hq2 : SqT X.K (upd H L (.lst [])) tp zs := by
                  have h := SqT.stp (K := X.K) st2 hq
                  exact h
                obtain ⟨mA, J2, _⟩ := ins_get I2.hok ea2
                obtain ⟨od, J2, _⟩ := J2.look
                obtain ⟨m0, hF2⟩ := I2.fr
                unfold Builtin.List.listExtendWith
                refine wpAny_bind (J2.type.here ?_)
                have b1 : Builtin.List.listSameRef (.ref L) (.ref a) = false := by simp [Builtin.List.listSameRef, na.symm]
                have b2 : (Value.ref (T.cls c) == Value.type "list") = false := rfl
                have b3 : (Value.ref (T.cls c) == Value.type "tuple") = false := rfl
                simp only [b1, b2, b3, Bool.or_false, Bool.false_eq_true, if_false]
                refine wpAny_bind (PySem.W.owit_iter hF2 I2.ok.mod.kin J2 hiter hitF ?_)
                have e2 := I2.env0
                refine wpAny_call (codeAny_mono (FI.run _ X.stack _ _ ⟨[.ref a], []⟩ [.ref a] [.ref a] (fun v H' => ∃ it, upd H L (.lst []) it = none ∧ v = .ref it ∧ H' = upd (upd H L (.lst [])) it (itT tp it 0)) X0 (((room 2 (by omega)).in1).in1) ⟨e2.frames, e2.mod, e2.bs, e2.bsz, e2.funs, e2.frf, e2.hok, e2.bare⟩ (by
                  have := bI _ [.ref a] I2.kIn rfl
                  exact this) (.cons rfl .nil) ⟨a, dx, fs, tp, zs, rfl, ea2, hlk, hq2, fun it h => ⟨it, h, rfl, rfl⟩⟩) fun q s3 hq' => ?_)
                cases q with
                | error e => exact (noE hq').elim
                | ok fl =>
                cases fl with
                | next => exact False.elim hq'
                | brk => exact False.elim hq'
                | cont => exact False.elim hq'
                | ret u =>
                obtain ⟨v, H3, I3, rv3, it, nit, rfl, rfl⟩ := I2.after hq'
                cases rv3
                have nitL : it ≠ L := fun z => by subst z; rw [upd_same] at nit; cases nit
                have hit0 := itT_get I3 upd_same
                unfold PySem.W.OwitIt
                refine wpAny_specialOf hit0.typeIs PySem.F.slot_tuple_iterator_next.lookup ?_
                show wpAny _ _ (holding [.ref it] (Builtin.List.listLengthHint (.ref a)) >>= _) _ _ _
                have ea3 : upd (upd H L (.lst [])) it (itT tp it 0) a = some (.ins (T.cls c) dx fs) := by rw [upd_ne (ne_of_none ea2 nit)]; exact ea2
                obtain ⟨mA3, J3, _⟩ := ins_get I3.hok ea3
                obtain ⟨od3, J3, _⟩ := J3.look
                have st3 : Stp κ H κ (upd (upd H L (.lst [])) it (itT tp it 0)) := st2.trans (Stp.new nit)
                have mvL : Mv T S κ H (fun b => S b ∨ b = L) κ (upd H L (.lst [])) := (Mv.add nL).trans (Stp.new nL).mv
                have rsL : RS T (fun b => S b ∨ b = L) κ (upd H L (.lst [])) cs' := by
                  refine rs.mv mvL (fun b hb => upd_ne fun z => rs.kdom hb (z ▸ nL)) (fun b hb z => ?_) (fun b hb z => ?_)
                  · by_cases e : b = L
                    · subst e; rw [upd_same] at z; cases z
                    · rw [upd_ne e] at z; exact rs.dom b (hb.resolve_right e) z
                  · rcases z with z | z
                    · obtain ⟨_, _, _, _, _, m⟩ := rs.at hb; exact m z
                    · exact rs.kdom hb (z ▸ nL)
                have rs3 := rsL.new (o := itT tp it 0) nit
                have rv3 : RV T (fun b => S b ∨ b = L) κ (upd (upd H L (.lst [])) it (itT tp it 0)) y (.ref a) := (mvL.trans (Stp.new nit).mv).rv _ _ rv
                have kL : L ∉ κ := fun z => rs.kdom z nL
                have hz : zs.length ≤ 1000000 := by rw [← rz.len]; exact hys
                refine wpAny_bind (wpAny_holding (hint_own I3 J3 mg mf fun E1 => ?_))
                refine wpAny_mono (callFN (Q := fun v4 H4 => v4 = .int i ∧ ∃ κ4, Stp κ (upd (upd H L (.lst [])) it (itT tp it 0)) κ4 H4 ∧ RS T (fun b => S b ∨ b = L) κ4 H4 cs4) O.fs hn ((((room 3 (by omega)).in1).in1).in1) rfl I3 rs3 (RVs.cons rv3 RVs.nil) (.cons rfl .nil) (by rw [hl]; rfl) ?_) (fun u s4 q => ?_) (fun _ _ z => z)
                · rw [hfr, hfn]
                  exact fun κ4 H4 v st rs4 rv4 _ => ⟨by unfold RV at rv4; exact rv4, κ4, st, rs4⟩
                obtain ⟨v4, H4, I4, r4, rfl, κ4, st4, rs4⟩ := q
                obtain ⟨t, rfl⟩ := r4
                refine ⟨i, t, rfl, hi1.1, hi1.2, fun b s'' es => ?_⟩
                subst es
                have hL4 : H4 L = some (.lst []) := st4.evo L _ (by rw [upd_ne nitL.symm]; exact upd_same) (.inr kL)
                have hit4 : H4 it = some (itT tp it 0) := st4.evo it _ upd_same (.inl trivial)
                have hq4 : SqT X.K H4 tp zs := SqT.stp (st3.trans st4) hq
                have fin : ∀ H' s', Inv X pins σ' H' s' → H' L = some (.lst zs) → H' it = some (itX it) → (∀ b, b ≠ it → b ≠ L → H' b = H4 b) → Q (.ref L) H' := by
                  intro H' s' J e1 e2 e3
                  have eH : H' = upd (upd H4 it (itX it)) L (.lst zs) := by
                    funext b
                    by_cases h1 : b = L
                    · subst h1; rw [upd_same, e1]
                    · rw [upd_ne h1]
                      by_cases h2 : b = it
                      · subst h2; rw [upd_same, e2]
                      · rw [upd_ne h2, e3 b h2 h1]
                  have st' : Stp κ H κ4 H' := by
                    have st5 := st3.trans st4
                    have nitH : H it = none := by rw [upd_ne nitL] at nit; exact nit
                    have neo : ∀ b o, H b = some o → b ≠ it ∧ b ≠ L := fun b o e => ⟨ne_of_none e nitH, ne_of_none e nL⟩
                    refine ⟨st5.pre, st5.fresh, fun b o e q => ?_, fun b e => ?_⟩
                    · rw [e3 b (neo b o e).1 (neo b o e).2]; exact st5.evo b o e q
                    · by_cases h1 : b = L
                      · subst h1; exact nL
                      · by_cases h2 : b = it
                        · subst h2; rw [e2] at e; cases e
                        · rw [e3 b h2 h1] at e; exact st5.dom b e
                  have rs5 : RS T (fun b => S b ∨ b = L) κ4 H' cs4 := by
                    rw [eH]
                    exact (rs4.ext hit4).wr (o := .lst []) (by rw [upd_ne nitL.symm]; exact hL4) (fun z => z) (.inr rfl)
                  refine w κ4 H' _ st' (rs5.sub fun b h => .inl h) ?_ fun z => nomatch z
                  unfold RV
                  exact ⟨L, zs, rfl, ⟨e1, fun z => rs.dom L z nL, st4.notin (o := .lst []) (by rw [upd_ne nitL.symm]; exact upd_same) kL⟩, st'.mv.rvs _ _ rz⟩
                have I5 := I4.tok (s4.toks + 1)
                have fill : ∀ (s5 : Shared), Inv X pins σ' H4 s5 → codeAny (model X.prog X.w) X.A.in1 (.builtin "list.extend.loop" ⟨[.ref L, .ref it, .none], []⟩) (wants (fun r s₂ => r = .none ∧ EP X pins σ' Q (.ref L) s₂) X.xe) s5 := fun s5 J5 =>
                  itT_fill (A := X.A.in1) hcal hz nitL.symm zs.length 0 H4 s5 (by simp) J5 hit4 (by rw [List.take_zero]; exact hL4) hq4 fun H' s' J e1 e2 e3 => (show wants (fun r s₂ => r = .none ∧ EP X pins σ' Q (.ref L) s₂) X.xe (.ok (.ret .none)) s' from ⟨rfl, .ref L, H', J, rfl, fin H' s' J e1 e2 e3⟩)
                refine wpAny_ite_split (fun _ => ?_) (fun _ => wpAny_pure ⟨plainId_quiet PySem.F.plain_extend_loop _, fill _ I5⟩)
                refine wpAny_bind (wpAny_rule (wpAny_bind ?_))
                show wpAny _ _ (updateSeq L (·.push .none) >>= fun _ => updateSeq L (·.pop)) _ _ _
                obtain ⟨z6, its6, k6, r6, hl6, e6⟩ := I5.lstM hL4
                cases r6
                refine wpAny_bind (wpAny_updateSeq e6 rfl ?_)
                have I6 := I5.lset (f := (·.push Value.none)) (its' := [Value.none]) (ys := [V.non]) (t' := s4.toks + 1) hL4 e6 (by simp) (.cons rfl .nil) (by rw [List.length_singleton, sizeLine_eq]; decide)
                obtain ⟨z7, its7, k7, r7, hl7, e7⟩ := I6.lstM upd_same
                obtain ⟨u7, rfl, ru7⟩ := r7.one
                refine wpAny_updateSeq e7 rfl ?_ (by show 1 ≤ sizeLine; rw [sizeLine_eq]; decide) (by show 0 ≤ sizeLine + 1; exact Nat.zero_le _)
                refine wpAny_pure ⟨plainId_quiet PySem.F.plain_extend_loop _, fill _ ?_⟩
                have I8 := I6.lset (f := (·.pop)) (its := [u7]) (its' := []) (ys := []) (t' := s4.toks + 1) upd_same e7 (by rfl) .nil (Nat.zero_le _)
                rw [upd_upd, show upd H4 L (.lst []) = H4 from funext fun b => by
                  by_cases hb : b = L
                  · rw [hb, upd_same, hL4]
                  · rw [upd_ne hb]] at I8
                exact I8
              · exact w.elim
            · exact w.elim
    · exact w.elim
  · exact w.elim
/-- list(..) of an instance -/
theorem se_lsti {c fi n k : Nat} (O : CxOk T Φ J lv N sc X) (tk : Takes X W) (hg : Gl X "list") (hi : (c, fi, k) ∈ J.its) (hn : n < J.nf) (hm : J.isM n = true) (hP : notP J.prs n = true) (hc : J.fcl n = c) (hnm : J.fnm n = "__len__") (hl : (J.fps n).length = 1) (hfr : J.ffr n = false) (ha : PA X (e :: es) (tA T W g)) (hst : (e :: es).all notStar = true) :
    PE X (.Call (.Name "list" p) (e :: es) [] pos) (tE T W false fun env cs => (g env cs).bind fun xs cs => lstiI Φ c n k xs cs) := by
  rw [List.all_cons, Bool.and_eq_true] at hst
  exact PE.by' (pe_callTy (p := p) (pos := pos) (call_lsti O hi hn hm hP hc hnm hl hfr) hg (O.fs.bl .list) (boot_blt .list) ha (by decide +kernel) (by decide +kernel) (star_cons hst.1) (star_any hst.2)) fun σ H Q S κ env cs rs re w => tA.use rs re w fun vs H1 xs cs1 κ1 _ st1 rs1 rvs w1 => ⟨_, S, κ1, xs, cs1, rs1, rvs, w1⟩
end
end EG

-- EngQ
/-! Engine Q: the checker of expressions. -/
namespace EG
open PySem PySem.Spec L2 PyProof.Rows

/-! ### forms of expressions -/
def asName : Expr → Option Str
  | .Name x _ => some x
  | _ => none
theorem asName_ok {e : Expr} {x : Str} (h : asName e = some x) : ∃ p, e = .Name x p := by
  cases e <;> first | (cases h; done) | skip
  rename_i y p; cases h; exact ⟨p, rfl⟩
def asBin : Expr → Option (Operator × Expr × Expr)
  | .BinOp a op b _ => some (op, a, b)
  | _ => none
theorem asBin_ok {e a b : Expr} {op : Operator} (h : asBin e = some (op, a, b)) : ∃ p, e = .BinOp a op b p := by
  cases e <;> first | (cases h; done) | skip
  cases h; exact ⟨_, rfl⟩
def asUn : Expr → Option (UnaryOp × Expr)
  | .UnaryOp op a _ => some (op, a)
  | _ => none
theorem asUn_ok {e a : Expr} {op : UnaryOp} (h : asUn e = some (op, a)) : ∃ p, e = .UnaryOp op a p := by
  cases e <;> first | (cases h; done) | skip
  cases h; exact ⟨_, rfl⟩
def asCmp1 : Expr → Option (CmpOp × Expr × Expr)
  | .Compare a [op] [b] _ => some (op, a, b)
  | _ => none
theorem asCmp1_ok {e a b : Expr} {op : CmpOp} (h : asCmp1 e = some (op, a, b)) : ∃ p, e = .Compare a [op] [b] p := by
  unfold asCmp1 at h
  split at h
  · cases h; exact ⟨_, rfl⟩
  · cases h
def asCmp2 : Expr → Option (CmpOp × CmpOp × Expr × Expr × Expr)
  | .Compare a [op, op2] [b, c] _ => some (op, op2, a, b, c)
  | _ => none
theorem asCmp2_ok {e a b c : Expr} {op op2 : CmpOp} (h : asCmp2 e = some (op, op2, a, b, c)) : ∃ p, e = .Compare a [op, op2] [b, c] p := by
  unfold asCmp2 at h
  split at h
  · cases h; exact ⟨_, rfl⟩
  · cases h
def asBo : Expr → Option (BoolOp × List Expr × Pos)
  | .BoolOp op es p => some (op, es, p)
  | _ => none
theorem asBo_ok {e : Expr} {op : BoolOp} {es : List Expr} {p : Pos} (h : asBo e = some (op, es, p)) : e = .BoolOp op es p := by
  cases e <;> first | (cases h; done) | skip
  cases h; rfl
def asIf : Expr → Option (Expr × Expr × Expr)
  | .IfExp c a b _ => some (c, a, b)
  | _ => none
theorem asIf_ok {e a b c : Expr} (h : asIf e = some (c, a, b)) : ∃ p, e = .IfExp c a b p := by
  cases e <;> first | (cases h; done) | skip
  cases h; exact ⟨_, rfl⟩
def asCall : Expr → Option (Str × List Expr)
  | .Call (.Name f _) es [] _ => some (f, es)
  | _ => none
theorem asCall_ok {e : Expr} {f : Str} {es : List Expr} (h : asCall e = some (f, es)) : ∃ p pos, e = .Call (.Name f p) es [] pos := by
  unfold asCall at h
  split at h
  · cases h; exact ⟨_, _, rfl⟩
  · cases h
def asMeth : Expr → Option (Expr × Str × List Expr × Bool)
  | .Call (.Attribute o m ap) es [] pos => some (o, m, es, ap.endLine == pos.line)
  | _ => none
theorem asMeth_ok {e o : Expr} {m : Str} {es : List Expr} {l : Bool} (h : asMeth e = some (o, m, es, l)) : ∃ ap pos, e = .Call (.Attribute o m ap) es [] pos ∧ (ap.endLine == pos.line) = l := by
  unfold asMeth at h
  split at h
  · cases h; exact ⟨_, _, rfl, rfl⟩
  · cases h
def asAttr : Expr → Option (Expr × Str)
  | .Attribute o x _ => some (o, x)
  | _ => none
theorem asAttr_ok {e o : Expr} {x : Str} (h : asAttr e = some (o, x)) : ∃ p, e = .Attribute o x p := by
  cases e <;> first | (cases h; done) | skip
  cases h; exact ⟨_, rfl⟩
def asSub : Expr → Option (Expr × Expr)
  | .Subscript a i _ => some (a, i)
  | _ => none
theorem asSub_ok {e a i : Expr} (h : asSub e = some (a, i)) : ∃ p, e = .Subscript a i p := by
  cases e <;> first | (cases h; done) | skip
  cases h; exact ⟨_, rfl⟩
def asRev : Expr → Option Expr
  | .Subscript a (.Slice none none (some (.UnaryOp .USub (.Constant (.int 1) _ _) _)) _) _ => some a
  | _ => none
theorem asRev_ok {e a : Expr} (h : asRev e = some a) : ∃ k p1 p2 p3 p, e = .Subscript a (.Slice none none (some (.UnaryOp .USub (.Constant (.int 1) k p1) p2)) p3) p := by
  unfold asRev at h
  split at h
  · cases h
    exact ⟨_, _, _, _, _, rfl⟩
  · cases h
def asSli : Expr → Option (Expr × Option Expr × Option Expr)
  | .Subscript a (.Slice lo hi none _) _ => some (a, lo, hi)
  | _ => none
theorem asSli_ok {e a : Expr} {lo hi : Option Expr} (h : asSli e = some (a, lo, hi)) : ∃ p p2, e = .Subscript a (.Slice lo hi none p2) p := by
  unfold asSli at h
  split at h
  · cases h; exact ⟨_, _, rfl⟩
  · cases h
def asComp : Expr → Option (Expr × Expr × Expr × List Expr × Scope)
  | .ListComp elt [⟨tg, it, ifs, 0⟩] scope _ => some (elt, tg, it, ifs, scope)
  | _ => none
theorem asComp_ok {e elt tg it : Expr} {ifs : List Expr} {scope : Scope} (h : asComp e = some (elt, tg, it, ifs, scope)) : ∃ p, e = .ListComp elt [⟨tg, it, ifs, 0⟩] scope p := by
  unfold asComp at h
  split at h
  · cases h; exact ⟨_, rfl⟩
  · cases h
def asComp2 : Expr → Option (Expr × Expr × Expr × Expr × Expr × List Expr × Scope)
  | .ListComp elt [⟨tg, it, [], 0⟩, ⟨tg1, it1, ifs1, 0⟩] scope _ => some (elt, tg, it, tg1, it1, ifs1, scope)
  | _ => none
theorem asComp2_ok {e elt tg it tg1 it1 : Expr} {ifs1 : List Expr} {scope : Scope} (h : asComp2 e = some (elt, tg, it, tg1, it1, ifs1, scope)) : ∃ p, e = .ListComp elt [⟨tg, it, [], 0⟩, ⟨tg1, it1, ifs1, 0⟩] scope p := by
  unfold asComp2 at h
  split at h
  · cases h; exact ⟨_, rfl⟩
  · cases h
def asFs2 : Expr → Option (Expr × Str × Expr)
  | .JoinedStr [.FormattedValue a (-1) none _, .Constant (.str s) _ _, .FormattedValue b (-1) none _] _ => some (a, s, b)
  | _ => none
theorem asFs2_ok {e a b : Expr} {s : Str} (h : asFs2 e = some (a, s, b)) : ∃ p1 j p2 p3 p, e = .JoinedStr [.FormattedValue a (-1) none p1, .Constant (.str s) j p2, .FormattedValue b (-1) none p3] p := by
  unfold asFs2 at h
  split at h
  · cases h; exact ⟨_, _, _, _, _, rfl⟩
  · cases h
def asTup : Expr → Option (List Expr)
  | .Tuple es _ _ => some es
  | _ => none
theorem asTup_ok {e : Expr} {es : List Expr} (h : asTup e = some es) : ∃ k p, e = .Tuple es k p := by
  cases e <;> first | (cases h; done) | skip
  cases h; exact ⟨_, _, rfl⟩
def asLst : Expr → Option (List Expr)
  | .List es _ => some es
  | _ => none
theorem asLst_ok {e : Expr} {es : List Expr} (h : asLst e = some es) : ∃ p, e = .List es p := by
  cases e <;> first | (cases h; done) | skip
  cases h; exact ⟨_, rfl⟩
def asConst : Expr → Option Const
  | .Constant c _ _ => some c
  | _ => none
theorem asConst_ok {e : Expr} {c : Const} (h : asConst e = some c) : ∃ k p, e = .Constant c k p := by
  cases e <;> first | (cases h; done) | skip
  cases h; exact ⟨_, _, rfl⟩
def cNon : Const → Bool
  | .none => true
  | _ => false
def cBl (b : Bool) : Const → Bool
  | .bool c => b == c
  | _ => false
def cInt (i : Int) : Const → Bool
  | .int c => i == c
  | _ => false
def cStr (x : Str) : Const → Bool
  | .str c => decide (x = c)
  | _ => false
def notSet : Expr → Bool
  | .Set _ _ _ => false
  | _ => true
theorem notSet_in {op : CmpOp} {b : Expr} (h : notSet b = true) : behindInMarks op b = false := by cases b <;> first | rfl | cases h
theorem notSet_it {e : Expr} {env : PySem.Env} (h : notSet e = true) (x : Value) : foldedSetIterable e env x = pure x := by cases e <;> first | rfl | cases h
def plainIx : Expr → Bool
  | .Slice _ _ _ _ => false
  | _ => true
theorem plainIx_ok {e : Expr} (h : plainIx e = true) : PlainIx e := by
  intro o i
  cases e <;> first | rfl | cases h
/-- no super() -/
def baseOk : Expr → Bool
  | .Call _ [] _ _ => false
  | _ => true
theorem baseOk_ok {o : Expr} {x : Str} {env : PySem.Env} {w : Sem Value} (h : baseOk o = true) : attributeBase o x env w = w := by
  unfold attributeBase
  split
  · cases h
  · rfl
def visB (sc : Scope) (x : Str) : Bool := match sc.names.lookup x with
  | some .local => true
  | some .cell => true
  | some .free => true
  | _ => false
theorem visB_ok {sc : Scope} {x : Str} (h : visB sc x = true) : Vis sc x := by
  unfold visB at h
  unfold Vis
  split at h
  · exact .inl (by assumption)
  · exact .inr (.inl (by assumption))
  · exact .inr (.inr (by assumption))
  · cases h
def glB (sc : Scope) (x : Str) : Bool := decide (sc.names.lookup x = some .globalImplicit) && !(x == ("__debug__" : Str))
def okName (x : Str) : Bool := !(x == ("__debug__" : Str)) && !(x == ("__classdict__" : Str))
def opOfB (op : BO) : Operator := opOf op

/-! ### the method-call form -/
theorem few_ok {es : List Expr} {env : PySem.Env} {pos : Pos} (h : es.all notStar = true) : (backTo pos (starEach es env)).all (fun x => !x.1) = true := by
  have := star_any (env := env) (pos := pos) h
  rw [List.any_eq_false] at this
  rw [List.all_eq_true]
  intro x hx
  simpa using this x hx
theorem meth_form {o : Expr} {m : Str} {ap pos : Pos} {es : List Expr} {env : PySem.Env} (hb : baseOk o = true) (hl : (ap.endLine == pos.line) = true) (hs : es.all notStar = true) (hn : decide (es.length < 30) = true) :
    eval (.Call (.Attribute o m ap) es [] pos) env = (do
      let ov ← eval o env
      standAt ap.atName
      let (f, first) ← holding [ov] (getMethod ov m (do return (← importBound o env).getD true))
      callWith pos f first (backTo pos (starEach es env)) (backToKw pos (keywordEach [] env))) := by
  have e1 : methodCallForm (es.length + 0) (backTo pos (starEach es env)) (backToKw pos (keywordEach [] env)) = true := by
    unfold methodCallForm
    rw [few_ok hs]
    simpa [backToKw, keywordEach] using of_decide_eq_true hn
  have e2 : methodCallPos true o env ap pos = pure pos := by
    unfold methodCallPos
    rw [hl]
    rfl
  have e3 : attributeBase o m env (eval o env) = eval o env := baseOk_ok hb
  show (do
    let ov ← attributeBase o m env (eval o env)
    standAt ap.atName
    methodCall o m ap pos env ov (es.length + 0) (backTo pos (starEach es env)) (backToKw pos (keywordEach [] env))) = _
  rw [e3]
  unfold methodCall
  rw [e1, e2]
  rfl
end EG

-- EngR
/-! Engine R: the checker of expressions, and that it is right. -/
namespace EG
open PySem PySem.Spec L2 PyProof.Rows

/-- the text without its addresses -/
structure TXs where
  nf : Nat
  nc : Nat
  nk : Nat
  fps : Nat → List Str
  ffr : Nat → Bool
  fnm : Nat → Str
  isM : Nat → Bool
  fcl : Nat → Nat
  ips : Nat → List Str
  cnm : Nat → Str
  knm : Nat → Str
  cvs : List (Nat × Str × Int)
  prs : List (Nat × Str × Nat)
  its : List (Nat × Nat × Nat)
@[reducible] def TX.st (J : TX) : TXs := ⟨J.nf, J.nc, J.nk, J.fps, J.ffr, J.fnm, J.isM, J.fcl, J.ips, J.cnm, J.knm, J.cvs, J.prs, J.its⟩
/-- what the checker knows -/
structure CKs where
  J : TXs
  fld : Nat → List Str
  N : List Str
  exs : List Nat
structure CKx where
  J : TX
  fld : Nat → List Str
  N : List Str
  /-- exceptions made of a text alone -/
  exs : List Nat
@[reducible] def CKx.cs (K : CKx) : CKs := ⟨K.J.st, K.fld, K.N, K.exs⟩
def caLen : CA → Nat
  | .nil => 0
  | .cons _ as => caLen as + 1
def frE (ffr : Nat → Bool) : CE → Bool
  | .lst _ => true
  | .comp _ _ _ _ _ => true
  | .call f _ => ffr f
  | .meth _ f _ _ => ffr f
  | .blt b _ => bltFr b
  | _ => false
def ownL (N : List Str) (own : List Nat) : List (Str × Nat) := own.map fun i => (N.getD i "", i)
def chkNm (N : List Str) (okn : Str → Bool) (i : Nat) (e : Expr) : Bool := match asName e with
  | some x => decide (N[i]? = some x) && okn x
  | none => false
def chkNms (N : List Str) (okn : Str → Bool) : List Nat → List Expr → Bool
  | [], [] => true
  | i :: is, e :: es => chkNm N okn i e && chkNms N okn is es
  | _, _ => false
def chkTg (N : List Str) (okn : Str → Bool) (tg : List Nat) (e : Expr) : Bool := match tg with
  | [i] => chkNm N okn i e
  | tg => (match asTup e with
    | some es => chkNms N okn tg es
    | none => false)
def chkTy (J : TXs) (sc : Scope) (t : Ty) (e : Expr) : Bool := match asName e with
  | some x => glB sc x && (match t with
      | .int => decide (x = "int") | .bool => decide (x = "bool") | .str => decide (x = "str") | .tuple => decide (x = "tuple") | .list => decide (x = "list")
      | .cls c => decide (c < J.nc) && decide (x = J.cnm c))
  | none => false
def ownB (scope : Scope) (x : Str) : Bool := match scope.names.lookup x with
  | some .local => true
  | some .cell => true
  | _ => false

mutual
def chk (K : CKs) (k : Bool) (sc : Scope) : CE → Expr → Bool
  | .stuck, _ => true
  | .var i, e => (match asName e with
      | some x => decide (K.N[i]? = some x) && visB sc x && okName x
      | none => false)
  | .non, e => (match asConst e with | some c => cNon c | none => false)
  | .bl b, e => (match asConst e with | some c => cBl b c | none => false)
  | .int i, e => (match asConst e with | some c => cInt i c | none => false)
  | .str x, e => (match asConst e with | some c => cStr x c | none => false)
  | .cval c f i, e => (match asAttr e with
      | some (oe, x) => (match asName oe with
          | some y => decide ((c, f, i) ∈ K.J.cvs) && decide (x = f) && decide (y = K.J.cnm c) && glB sc y
          | none => false)
      | none => false)
  | .con j, e => (match asName e with
      | some x => decide (j < K.J.nk) && decide (x = K.J.knm j) && glB sc x
      | none => false)
  | .tup as, e => (match asTup e with
      | some es => es.all notStar && decide (caLen as < 1000) && chkA K sc as es
      | none => false)
  | .lst as, e => (match asLst e with
      | some es => es.all notStar && decide (caLen as < 1000) && chkA K sc as es
      | none => false)
  | .bin op a b, e => (match asBin e with
      | some (op', x, y) => decide (op' = opOf op) && chk K false sc a x && chk K false sc b y
      | none => false)
  | .neg a, e => (match asUn e with
      | some (op', x) => decide (op' = .USub) && chk K false sc a x
      | none => false)
  | .cmp op a b, e => (match asCmp1 e with
      | some (op', x, y) => decide (op' = op) && !decide (op = .Is) && !decide (op = .IsNot) && notSet y && chk K false sc a x && chk K false sc b y
      | none => false)
  | .isN a, e => (match asCmp1 e with
      | some (op', x, y) => decide (op' = .Is) && (match asConst y with | some c => cNon c | none => false) && chk K false sc a x
      | none => false)
  | .notN a, e => (match asCmp1 e with
      | some (op', x, y) => decide (op' = .IsNot) && (match asConst y with | some c => cNon c | none => false) && chk K false sc a x
      | none => false)
  | .chain o1 o2 a b c, e => (match asCmp2 e with
      | some (p1, p2, x, y, z) => decide (p1 = o1) && decide (p2 = o2) && !decide (o1 = .Is) && !decide (o1 = .IsNot) && !decide (o2 = .Is) && !decide (o2 = .IsNot) && notSet z && chk K false sc a x && chk K false sc b y && chk K false sc c z
      | none => false)
  | .and a b, e => (match asBo e with
      | some (op, es, p) => decide (op = .And) && (match es with
          | [x, y] => chk K k sc a x && chk K k sc b y
          | x :: y :: z :: r => chk K k sc a x && chk K k sc b (.BoolOp .And (y :: z :: r) p)
          | _ => false)
      | none => false)
  | .or a b, e => (match asBo e with
      | some (op, es, p) => decide (op = .Or) && (match es with
          | [x, y] => chk K k sc a x && chk K k sc b y
          | x :: y :: z :: r => chk K k sc a x && chk K k sc b (.BoolOp .Or (y :: z :: r) p)
          | _ => false)
      | none => false)
  | .not a, e => (match asUn e with
      | some (op', x) => decide (op' = .Not) && chk K k sc a x
      | none => false)
  | .ite t a b, e => (match asIf e with
      | some (x, y, z) => chk K true sc t x && chk K k sc a y && chk K k sc b z
      | none => false)
  | .call f as, e => (match asCall e with
      | some (x, es) => decide (f < K.J.nf) && !K.J.isM f && decide (x = K.J.fnm f) && glB sc x && es.all notStar && decide (caLen as = (K.J.fps f).length) && chkA K sc as es
      | none => false)
  | .mk c as, e => (match asCall e with
      | some (x, es) => decide (c < K.J.nc) && decide (x = K.J.cnm c) && glB sc x && es.all notStar && !es.isEmpty && decide (caLen as + 1 = (K.J.ips c).length) && chkA K sc as es
      | none => false)
  | .meth c f o as, e => (match asMeth e with
      | some (oe, m, es, l) => decide (f < K.J.nf) && (K.J.isM f && notP K.J.prs f) && decide (K.J.fcl f = c) && decide (m = K.J.fnm f) && baseOk oe && l && es.all notStar && decide (es.length < 30) && decide (caLen as + 1 = (K.J.fps f).length) && chk K false sc o oe && chkA K sc as es
      | none => false)
  | .attr o c j, e => (match asAttr e with
      | some (oe, x) => decide (c < K.J.nc) && decide ((K.fld c)[j]? = some x) && baseOk oe && chk K false sc o oe
      | none => false)
  | .blt b as, e => (match asCall e with
      | some (x, es) => decide (x = bltName b) && glB sc x && es.all notStar && !es.isEmpty && chkA K sc as es
      | none => false)
  | .lenm c f as, e => (match asCall e with
      | some (x, es) => decide (x = "len") && glB sc x && es.all notStar && !es.isEmpty && decide (f < K.J.nf) && (K.J.isM f && notP K.J.prs f) && decide (K.J.fcl f = c) && decide (K.J.fnm f = "__len__") && decide ((K.J.fps f).length = 1) && !K.J.ffr f && chkA K sc as es
      | none => false)
  | .strm c f as, e => (match asCall e with
      | some (x, es) => decide (x = "str") && glB sc x && es.all notStar && !es.isEmpty && decide (f < K.J.nf) && (K.J.isM f && notP K.J.prs f) && decide (K.J.fcl f = c) && decide (K.J.fnm f = "__str__") && decide ((K.J.fps f).length = 1) && !K.J.ffr f && chkA K sc as es
      | none => false)
  | .prp c f o, e => (match asAttr e with
      | some (oe, x) => decide ((c, x, f) ∈ K.J.prs) && baseOk oe && chk K false sc o oe
      | none => false)
  | .lsti c f k as, e => (match asCall e with
      | some (x, es) => decide (x = "list") && glB sc x && es.all notStar && !es.isEmpty && decide (f < K.J.nf) && (K.J.isM f && notP K.J.prs f) && decide (K.J.fcl f = c) && decide (K.J.fnm f = "__len__") && decide ((K.J.fps f).length = 1) && !K.J.ffr f && (K.J.its.any fun p => p.1 == c && p.2.2 == k) && chkA K sc as es
      | none => false)
  | .isi a t, e => (match asCall e with
      | some (x, [ae, te]) => decide (x = "isinstance") && glB sc x && notStar ae && notStar te && chkTy K.J sc t te && chk K false sc a ae
      | _ => false)
  | .sub a i, e => (match asSub e with
      | some (x, y) => plainIx y && chk K false sc a x && chk K false sc i y
      | none => false)
  | .rev a, e => (match asRev e with
      | some x => chk K false sc a x
      | none => false)
  | .sli a lo hi, e => (match asSli e with
      | some (x, l, h) => chk K false sc a x && chkP K sc lo l && chkP K sc hi h
      | none => false)
  | .comp elt own tg it cond, e => (match asComp e with
      | some (ee, te, ie, ifs, scope) => blkC K.N sc scope (ownL K.N own) && (tg.all fun i => decide (i ∈ own)) && (own.all fun i => decide (i < K.N.length)) && chkTg K.N (ownB scope) tg te && notSet ie && chkI K sc it te ie && chkC K (relS scope sc) cond ifs && chk K false (relS scope sc) elt ee
      | none => false)
  | .comp2 elt own tg it tg1 it1 cond1, e => (match asComp2 e with
      | some (ee, te, ie, te1, ie1, ifs1, scope) => blkC K.N sc scope (ownL K.N own) && (tg.all fun i => decide (i ∈ own)) && (tg1.all fun i => decide (i ∈ own)) && chkTg K.N (ownB scope) tg te && chkTg K.N (ownB scope) tg1 te1 && notSet ie && notSet ie1 && chkI K sc it te ie && chkI K (relS scope sc) it1 te1 ie1 && chkC K (relS scope sc) cond1 ifs1 && chk K false (relS scope sc) elt ee
      | none => false)
  | .fs2 a s b, e => (match asFs2 e with
      | some (x, y, z) => decide (y = s) && decide (s.length ≤ 1000) && chk K false sc a x && chk K false sc b z
      | none => false)
  | .join s a, e => (match asMeth e with
      | some (oe, m, [ae], l) => decide (m = "join") && l && notStar ae && (match asConst oe with
          | some (.str z) => decide (z = s)
          | _ => false) && chk K false sc a ae
      | _ => false)
  | .clst as, e => (match asLst e with
      | some es => es.all notStar && decide (caLen as < 1000) && chkA K sc as es
      | none => false)
def chkA (K : CKs) (sc : Scope) : CA → List Expr → Bool
  | .nil, [] => true
  | .cons a as, e :: es => notStar e && chk K false sc a e && chkA K sc as es
  | .nil, _ :: _ => false
  | .cons _ _, [] => false
def chkI (K : CKs) (sc : Scope) : CI → Expr → Expr → Bool
  | .ex a, _, e => chk K false sc a e
  | .rng1 a, _, e => (match asCall e with
      | some (x, [y]) => decide (x = "range") && glB sc x && notStar y && chk K false sc a y
      | _ => false)
  | .rng2 a b, _, e => (match asCall e with
      | some (x, [y, z]) => decide (x = "range") && glB sc x && notStar y && notStar z && chk K false sc a y && chk K false sc b z
      | _ => false)
  | .enum a, tg, e => (match asTup tg, asCall e with
      | some _, some (x, [y]) => decide (x = "enumerate") && glB sc x && notStar y && chk K false sc a y
      | _, _ => false)
  | .zip a b, tg, e => (match asTup tg, asCall e with
      | some _, some (x, [y, z]) => decide (x = "zip") && glB sc x && notStar y && notStar z && chk K false sc a y && chk K false sc b z
      | _, _ => false)
def chkP (K : CKs) (sc : Scope) : CP → Option Expr → Bool
  | .no, none => true
  | .some a, some e => chk K false sc a e
  | .no, some _ => false
  | .some _, none => false
def chkC (K : CKs) (sc : Scope) : CP → List Expr → Bool
  | .no, [] => true
  | .some a, [e] => chk K true sc a e
  | _, _ => false
end
end EG

-- EngS
/-! Engine S: the checker of expressions is right. -/
namespace EG
open PySem PySem.Spec L2 PyProof.Rows

def isLog : CE → Bool
  | .and _ _ => true
  | .or _ _ => true
  | .not _ => true
  | .ite _ _ _ => true
  | _ => false
def plainE : Expr → Bool
  | .BoolOp _ _ _ => false
  | .UnaryOp .Not _ _ => false
  | .IfExp _ _ _ _ => false
  | .Compare _ _ _ _ => false
  | _ => true
theorem plainE_ok {e : Expr} {env : PySem.Env} (h : plainE e = true) (whole : Sem Value) : isTrue e env whole = (do let v ← whole; standAt e.pos; holding [v] (truthy v)) := by
  cases e <;> first | rfl | cases h | skip
  rename_i op x p
  cases op <;> first | rfl | cases h
def isGen : CE → Bool
  | .stuck => false | .and _ _ => false | .or _ _ => false | .not _ => false | .ite _ _ _ => false | .cmp _ _ _ => false | .isN _ => false | .notN _ => false | .chain _ _ _ _ _ => false
  | _ => true
theorem chk_plain {K : CKs} {k : Bool} {sc : Scope} {c : CE} {e : Expr} (hc : isGen c = true) (h : chk K k sc c e = true) : plainE e = true := by
  cases c <;> first | (cases hc; done) | skip
  all_goals (unfold chk at h; first | (cases h; done) | skip)
  all_goals (split at h <;> first | (cases h; done) | skip)
  all_goals first
    | (obtain ⟨_, rfl⟩ := asName_ok ‹_›; rfl)
    | (obtain ⟨_, _, rfl⟩ := asConst_ok ‹_›; rfl)
    | (obtain ⟨_, _, rfl⟩ := asTup_ok ‹_›; rfl)
    | (obtain ⟨_, rfl⟩ := asLst_ok ‹_›; rfl)
    | (obtain ⟨_, rfl⟩ := asBin_ok ‹_›; rfl)
    | (obtain ⟨_, _, rfl⟩ := asCall_ok ‹_›; rfl)
    | (obtain ⟨_, _, rfl, _⟩ := asMeth_ok ‹_›; rfl)
    | (obtain ⟨_, rfl⟩ := asAttr_ok ‹_›; rfl)
    | (obtain ⟨_, rfl⟩ := asSub_ok ‹_›; rfl)
    | (obtain ⟨_, _, rfl⟩ := asSli_ok ‹_›; rfl)
    | (obtain ⟨_, _, _, _, _, rfl⟩ := asRev_ok ‹_›; rfl)
    | (obtain ⟨_, rfl⟩ := asComp_ok ‹_›; rfl)
    | (obtain ⟨_, rfl⟩ := asComp2_ok ‹_›; rfl)
    | (obtain ⟨_, _, _, _, _, rfl⟩ := asFs2_ok ‹_›; rfl)
    | (obtain ⟨_, rfl⟩ := asUn_ok ‹_›; simp only [Bool.and_eq_true, decide_eq_true_eq] at h; rw [h.1]; rfl)
theorem chk_k {K : CKs} {sc : Scope} {c : CE} {e : Expr} (hc : isGen c = true) (h : chk K true sc c e = true) : chk K false sc c e = true := by
  cases c <;> first | (cases hc; done) | exact h
theorem ev_tru {Φ : Fns} {c : CE} (h : isLog c = false) : ev Φ true c = truF (ev Φ false c) := by
  cases c <;> first | (cases h; done) | rfl
theorem isB_tru {f : Env → Cs → R IV} : IsB (truF f) := by
  intro env cs x cs1 e
  unfold truF at e
  cases hf : f env cs with
  | stuck => rw [hf] at e; cases e
  | exc c pl cs => rw [hf] at e; cases e
  | ok y cs2 =>
    rw [hf, R.bind_ok] at e
    cases ht : truI y with
    | none => rw [ht] at e; cases e
    | some b => rw [ht] at e; cases e; exact ⟨b, rfl⟩
theorem isB_and {f g : Env → Cs → R IV} (hg : IsB g) : IsB (andF f g) := by
  intro env cs x cs1 e
  unfold andF at e
  cases hf : f env cs with
  | stuck => rw [hf] at e; cases e
  | exc c pl cs => rw [hf] at e; cases e
  | ok y cs2 =>
    rw [hf, R.bind_ok] at e
    cases ht : asB y with
    | none => rw [ht] at e; cases e
    | some b =>
      rw [ht] at e
      cases b with
      | true => exact hg _ _ _ _ e
      | false => cases e; exact ⟨_, rfl⟩
theorem isB_or {f g : Env → Cs → R IV} (hg : IsB g) : IsB (orF f g) := by
  intro env cs x cs1 e
  unfold orF at e
  cases hf : f env cs with
  | stuck => rw [hf] at e; cases e
  | exc c pl cs => rw [hf] at e; cases e
  | ok y cs2 =>
    rw [hf, R.bind_ok] at e
    cases ht : asB y with
    | none => rw [ht] at e; cases e
    | some b =>
      rw [ht] at e
      cases b with
      | false => exact hg _ _ _ _ e
      | true => cases e; exact ⟨_, rfl⟩
theorem isB_not {f : Env → Cs → R IV} : IsB (notF f) := by
  intro env cs x cs1 e
  unfold notF at e
  cases hf : f env cs with
  | stuck => rw [hf] at e; cases e
  | exc c pl cs => rw [hf] at e; cases e
  | ok y cs2 =>
    rw [hf, R.bind_ok] at e
    cases ht : asB y with
    | none => rw [ht] at e; cases e
    | some b => rw [ht] at e; cases e; exact ⟨_, rfl⟩
theorem isB_ite {f g h : Env → Cs → R IV} (hg : IsB g) (hh : IsB h) : IsB (iteF f g h) := by
  intro env cs x cs1 e
  unfold iteF at e
  cases hf : f env cs with
  | stuck => rw [hf] at e; cases e
  | exc c pl cs => rw [hf] at e; cases e
  | ok y cs2 =>
    rw [hf, R.bind_ok] at e
    cases ht : asB y with
    | none => rw [ht] at e; cases e
    | some b =>
      rw [ht] at e
      cases b with
      | true => exact hg _ _ _ _ e
      | false => exact hh _ _ _ _ e
theorem isB_ev {Φ : Fns} : ∀ c : CE, IsB (ev Φ true c)
  | .and a b => isB_and (f := ev Φ true a) (isB_ev b)
  | .or a b => isB_or (f := ev Φ true a) (isB_ev b)
  | .not a => isB_not (f := ev Φ true a)
  | .stuck => by rw [ev_tru rfl]; exact isB_tru
  | .var _ => by rw [ev_tru rfl]; exact isB_tru
  | .non => by rw [ev_tru rfl]; exact isB_tru
  | .bl _ => by rw [ev_tru rfl]; exact isB_tru
  | .int _ => by rw [ev_tru rfl]; exact isB_tru
  | .str _ => by rw [ev_tru rfl]; exact isB_tru
  | .con _ => by rw [ev_tru rfl]; exact isB_tru
  | .cval _ _ _ => by rw [ev_tru rfl]; exact isB_tru
  | .tup _ => by rw [ev_tru rfl]; exact isB_tru
  | .lst _ => by rw [ev_tru rfl]; exact isB_tru
  | .bin _ _ _ => by rw [ev_tru rfl]; exact isB_tru
  | .neg _ => by rw [ev_tru rfl]; exact isB_tru
  | .cmp _ _ _ => by rw [ev_tru rfl]; exact isB_tru
  | .isN _ => by rw [ev_tru rfl]; exact isB_tru
  | .notN _ => by rw [ev_tru rfl]; exact isB_tru
  | .chain _ _ _ _ _ => by rw [ev_tru rfl]; exact isB_tru
  | .ite t a b => isB_ite (isB_ev a) (isB_ev b)
  | .call _ _ => by rw [ev_tru rfl]; exact isB_tru
  | .mk _ _ => by rw [ev_tru rfl]; exact isB_tru
  | .meth _ _ _ _ => by rw [ev_tru rfl]; exact isB_tru
  | .attr _ _ _ => by rw [ev_tru rfl]; exact isB_tru
  | .blt _ _ => by rw [ev_tru rfl]; exact isB_tru
  | .rev _ => by rw [ev_tru rfl]; exact isB_tru
  | .lenm _ _ _ => by rw [ev_tru rfl]; exact isB_tru
  | .strm _ _ _ => by rw [ev_tru rfl]; exact isB_tru
  | .prp _ _ _ => by rw [ev_tru rfl]; exact isB_tru
  | .lsti _ _ _ _ => by rw [ev_tru rfl]; exact isB_tru
  | .isi _ _ => by rw [ev_tru rfl]; exact isB_tru
  | .sub _ _ => by rw [ev_tru rfl]; exact isB_tru
  | .sli _ _ _ => by rw [ev_tru rfl]; exact isB_tru
  | .comp _ _ _ _ _ => by rw [ev_tru rfl]; exact isB_tru
  | .comp2 _ _ _ _ _ _ _ => by rw [ev_tru rfl]; exact isB_tru
  | .fs2 _ _ _ => by rw [ev_tru rfl]; exact isB_tru
  | .join _ _ => by rw [ev_tru rfl]; exact isB_tru
  | .clst _ => by rw [ev_tru rfl]; exact isB_tru
theorem evs_len {Φ : Fns} : ∀ (as : CA) (env : Env) (cs : Cs) (xs : List IV) (cs' : Cs), evs Φ as env cs = .ok xs cs' → xs.length = caLen as
  | .nil, env, cs, xs, cs', h => by cases h; rfl
  | .cons a as, env, cs, xs, cs', h => by
    have h' : ((ev Φ false a env cs).bind fun x cs => (evs Φ as env cs).bind fun xs cs => .ok (x :: xs) cs) = .ok xs cs' := h
    cases h1 : ev Φ false a env cs with
    | stuck => rw [h1] at h'; cases h'
    | exc c pl cs => rw [h1] at h'; cases h'
    | ok x cs1 =>
      rw [h1, R.bind_ok] at h'
      cases h2 : evs Φ as env cs1 with
      | stuck => rw [h2] at h'; cases h'
      | exc c pl cs => rw [h2] at h'; cases h'
      | ok ys cs2 =>
        rw [h2, R.bind_ok] at h'
        have ih := evs_len as env cs1 ys cs2 h2
        cases h'
        exact congrArg (· + 1) ih

section
variable {T : CT} {Φ : Fns} {J : TX} {lv : Nat} {W : WX} {X : Cx} {S : Addr → Prop} {κ κ' : List Addr} {H H' : Hp} {env : Env} {cs : Cs} {σ : L2.St} {fr : Bool} {Q : VK} {N : List Str} {sc scope : Scope} {K : CKx} {e : Expr} {f : Env → Cs → R IV}
theorem PE.un (h : PE X e (tE T W fr f)) : PE X e (tE T W false f) := by
  cases fr with
  | false => exact h
  | true => exact EG.PE.nofr h
theorem PT.pw {op : BoolOp} {es : List Expr} {p : Pos} {t : TT} (h : PT X (.BoolOp op es p) t) : PW X (.BoolOp op es p) t := ⟨fun wh pins s σ H Q I q => h.run pins s σ H Q I q⟩
theorem okName_ok {x : Str} (h : okName x = true) : (x == ("__debug__" : Str)) = false ∧ (x == ("__classdict__" : Str)) = false := by
  unfold okName at h
  simpa using h
theorem glB_ok {x : Str} (O : CxOk T Φ J lv N sc X) (h : glB sc x = true) : Gl X x ∧ (x == ("__debug__" : Str)) = false := by
  unfold glB at h
  rw [Bool.and_eq_true, decide_eq_true_eq] at h
  exact ⟨by unfold Gl Env.kindOf; rw [O.sc]; exact h.1, by simpa using h.2⟩
theorem visB_X {x : Str} (O : CxOk T Φ J lv N sc X) (h : visB sc x = true) : Vis X.env.scope x := by rw [O.sc]; exact visB_ok h
/-- a constant of a class -/
theorem se_cval {c : Nat} {f : Str} {i : Int} {p pos : Pos} (O : CxOk T Φ J lv N sc X) (hj : (c, f, i) ∈ J.cvs) (hg : Gl X (J.cnm c)) (hd : ((J.cnm c) == ("__debug__" : Str)) = false) : PE X (.Attribute (.Name (J.cnm c) p) f pos) (tE T W false fun _ cs => .ok (.int i) cs) := by
  obtain ⟨hm, mc, u, h1, h2⟩ := O.fs.cv _ hj
  exact PE.by' (ClX.pe_cval (pe_glob (v := .ref (T.cls c)) hg hm rfl hd)) fun σ H Q S κ env cs rs re w => ⟨_, mc, _, u, rfl, h1, h2, w.ok rs (by unfold RV; rfl)⟩
/-- a constant of the module -/
theorem se_con {j : Nat} {p : Pos} (O : CxOk T Φ J lv N sc X) (hj : j < J.nk) (hg : Gl X (J.knm j)) (hd : ((J.knm j) == ("__debug__" : Str)) = false) : PE X (.Name (J.knm j) p) (tE T W false fun _ cs => .ok (Φ.con j) cs) := by
  obtain ⟨u, v, hm, r, _, hv⟩ := O.fs.co j hj
  exact PE.by' (pe_glob hg hm r hd) fun σ H Q S κ env cs rs re w => w.ok rs (hv S κ H)
/-! ### targets -/
def OkNm (X : Cx) (okn : Str → Bool) : Prop := ∀ x, okn x = true → L2.Loc X.env.scope x ∧ (X.fn x = true ∨ X.env.scope.names.lookup x = some .local)
theorem nm_ok {okn : Str → Bool} {i : Nat} (O : CxOk T Φ J lv N sc X) (hk : OkNm X okn) (h : chkNm N okn i e = true) : PG X e (gName i) := by
  unfold chkNm at h
  split at h
  · rename_i x hx
    obtain ⟨p, rfl⟩ := asName_ok hx
    rw [Bool.and_eq_true, decide_eq_true_eq] at h
    exact pg_name O.nd (O.hN ▸ h.1) (hk x h.2).1 (hk x h.2).2
  · cases h
theorem nm_assign {en : PySem.Env} {okn : Str → Bool} {i : Nat} {es : List Expr} (h : chkNm N okn i e = true) : (assignEach (e :: es) en).length = (assignEach es en).length + 1 ∧ assignEach (e :: es) en = (false, assign e en) :: assignEach es en := by
  unfold chkNm at h
  split at h
  · rename_i x hx
    obtain ⟨p, rfl⟩ := asName_ok hx
    exact ⟨rfl, rfl⟩
  · cases h
theorem nms_len {en : PySem.Env} {okn : Str → Bool} : ∀ {tg : List Nat} {es : List Expr}, chkNms N okn tg es = true → (assignEach es en).length = tg.length ∧ (assignEach es en).findIdx? (·.1) = none
  | [], [], _ => ⟨rfl, rfl⟩
  | [], _ :: _, h => by cases h
  | _ :: _, [], h => by cases h
  | i :: is, e :: es, h => by
    unfold chkNms at h
    rw [Bool.and_eq_true] at h
    obtain ⟨h1, h2⟩ := nm_assign (en := en) (es := es) h.1
    obtain ⟨h3, h4⟩ := nms_len (en := en) h.2
    refine ⟨by rw [h1, h3]; rfl, ?_⟩
    rw [h2, List.findIdx?_cons, h4]
    rfl
theorem pgs_ok {okn : Str → Bool} (O : CxOk T Φ J lv N sc X) (hk : OkNm X okn) : ∀ {tg : List Nat} {es : List Expr}, chkNms N okn tg es = true → PGs X es (gNames tg)
  | [], [], _ => pgs_nil
  | [], _ :: _, h => by cases h
  | _ :: _, [], h => by cases h
  | i :: is, e :: es, h => by
    unfold chkNms at h
    rw [Bool.and_eq_true] at h
    have := (nms_len (en := X.env) h.2).2
    obtain ⟨_, h2⟩ := nm_assign (en := X.env) (es := es) h.1
    exact pgs_cons (nm_ok O hk h.1) (pgs_ok O hk h.2) (by rw [h2]; rfl)
theorem tg_ok {okn : Str → Bool} {tg : List Nat} (O : CxOk T Φ J lv N sc X) (hk : OkNm X okn) (h : chkTg N okn tg e = true) : PG X e (gTg X.K tg) := by
  have many : ∀ tg : List Nat, (match asTup e with | some es => chkNms N okn tg es | none => false) = true → PG X e (gTup X.K tg.length (gNames tg)) := by
    clear h
    intro tg h
    split at h
    · rename_i es he
      obtain ⟨k, p, rfl⟩ := asTup_ok he
      exact pg_tup O.calm (pgs_ok O hk h) (nms_len h).1 (nms_len h).2
    · cases h
  match tg, h with
  | [], h => exact many [] h
  | [i], h => exact nm_ok O hk h
  | i :: j :: is, h => exact many (i :: j :: is) h
theorem tg_ix {okn : Str → Bool} {tg : List Nat} (h : chkTg N okn tg e = true) : ∀ i ∈ tg, i < N.length := by
  have one : ∀ (i : Nat) (e : Expr), chkNm N okn i e = true → i < N.length := by
    intro i e h
    unfold chkNm at h
    split at h
    · rw [Bool.and_eq_true, decide_eq_true_eq] at h
      exact (List.getElem?_eq_some_iff.mp h.1).1
    · cases h
  have many : ∀ (tg : List Nat) (es : List Expr), chkNms N okn tg es = true → ∀ i ∈ tg, i < N.length := by
    intro tg
    induction tg with
    | nil => intro es _ i hi; cases hi
    | cons j is ih =>
      intro es h i hi
      cases es with
      | nil => cases h
      | cons e es =>
        unfold chkNms at h
        rw [Bool.and_eq_true] at h
        rcases List.mem_cons.mp hi with rfl | hi
        · exact one _ _ h.1
        · exact ih es h.2 i hi
  have many' : ∀ tg : List Nat, (match asTup e with | some es => chkNms N okn tg es | none => false) = true → ∀ i ∈ tg, i < N.length := by
    intro tg h
    split at h
    · exact many _ _ h
    · cases h
  match tg, h with
  | [], h => exact many' [] h
  | [i], h => intro j hj; cases List.mem_singleton.mp hj; exact one _ _ h
  | i :: j :: is, h => exact many' (i :: j :: is) h
/-- the names of a block -/
theorem relS_lookup {x : Str} (sc scope : Scope) : ∀ (names : List (Str × NameKind)), (names.map fun (n, k) => if (k == .free && sc.kind == .function && sc.names.lookup n == some .cell) then (n, .cell) else (n, k)).lookup x = (names.lookup x).map fun k => if (k == .free && sc.kind == .function && sc.names.lookup x == some .cell) then .cell else k
  | [] => rfl
  | (n, k) :: r => by
    rw [List.map_cons]
    by_cases hx : x = n
    · subst hx
      rw [List.lookup_cons_self]
      dsimp only
      split <;> (rw [List.lookup_cons_self]; dsimp only [Option.map_some]; first | (rw [if_pos ‹_›]) | (rw [if_neg ‹_›]))
    · have hb : (x == n) = false := by simpa using hx
      have ih := relS_lookup (x := x) sc scope r
      rw [show List.lookup x ((n, k) :: r) = List.lookup x r by rw [List.lookup_cons, hb]]
      dsimp only
      split <;> (rw [List.lookup_cons, hb]; exact ih)
theorem own_nm {s : Shared} {H : Hp} {C : Addr} {cl : List (Str × Addr)} {fp : List Addr} (O : CxOk T Φ J lv N sc X) : OkNm (X.blk s H scope (compEnvC scope cl C X.env) fp) (ownB scope) := by
  intro x hx
  have e : (X.blk s H scope (compEnvC scope cl C X.env) fp).env.scope = relS scope X.env.scope := rfl
  unfold ownB at hx
  unfold L2.Loc
  rw [e]
  have l := relS_lookup (x := x) X.env.scope scope scope.names
  split at hx
  · rename_i h
    rw [h] at l
    have l' : (relS scope X.env.scope).names.lookup x = some .local := l
    exact ⟨.inl l', .inr l'⟩
  · rename_i h
    rw [h] at l
    have l' : (relS scope X.env.scope).names.lookup x = some .cell := l
    exact ⟨.inr l', .inl (by show (scope.names.lookup x == some .cell) = true; rw [h]; rfl)⟩
  · cases hx
def tyV (T : CT) : Ty → V
  | .cls c => V.ref (T.cls c)
  | .int => .ty "int"
  | .bool => .ty "bool"
  | .str => .ty "str"
  | .tuple => .ty "tuple"
  | .list => .ty "list"
/-- the second argument of isinstance -/
theorem ty_ok {t : Ty} (O : CxOk T Φ J lv N sc X) (h : chkTy J.st sc t e = true) : PE X e (tC (tyV T t)) ∧ (∀ c', t = Ty.cls c' → c' < J.nc) := by
  unfold chkTy at h
  cases hx : asName e with
  | some x =>
    rw [hx] at h
    dsimp only at h
    obtain ⟨p, rfl⟩ := asName_ok hx
    rw [Bool.and_eq_true] at h
    obtain ⟨hg, hd⟩ := glB_ok O h.1
    cases t with
    | int =>
      have h2 := of_decide_eq_true h.2
      subst h2
      exact ⟨pe_bltn hg (O.fs.bl .int) (boot_blt .int) rfl, fun _ z => nomatch z⟩
    | bool =>
      have h2 := of_decide_eq_true h.2
      subst h2
      exact ⟨pe_bltn hg O.fs.bol (u := .type "bool") (by decide +kernel) rfl, fun _ z => nomatch z⟩
    | str =>
      have h2 := of_decide_eq_true h.2
      subst h2
      exact ⟨pe_bltn hg (O.fs.bl .str) (boot_blt .str) rfl, fun _ z => nomatch z⟩
    | tuple =>
      have h2 := of_decide_eq_true h.2
      subst h2
      exact ⟨pe_bltn hg (O.fs.bl .tuple) (boot_blt .tuple) rfl, fun _ z => nomatch z⟩
    | list =>
      have h2 := of_decide_eq_true h.2
      subst h2
      exact ⟨pe_bltn hg (O.fs.bl .list) (boot_blt .list) rfl, fun _ z => nomatch z⟩
    | cls c =>
      have h2 := h.2
      rw [Bool.and_eq_true, decide_eq_true_eq, decide_eq_true_eq] at h2
      obtain ⟨h2, h3⟩ := h2
      subst h3
      obtain ⟨_, _, _, hm⟩ := O.fs.ini c h2
      exact ⟨pe_glob hg hm rfl hd, fun c' z => by cases z; exact h2⟩
  | none => rw [hx] at h; cases h
end
end EG

-- EngT
/-! Engine T: the checker of expressions is right. -/
theorem L2.PE.un {T : EG.CT} {W : L2.WX} {X : L2.Cx} {e : PySem.Expr} {fr : Bool} {f : EG.Env → EG.Cs → EG.R EG.IV} (h : L2.PE X e (EG.tE T W fr f)) : L2.PE X e (EG.tE T W false f) := EG.PE.un h
namespace EG
open PySem PySem.Spec L2 PyProof.Rows
section
variable {T : CT} {Φ : Fns} {lv : Nat} {K : CKx}
def PEok (T : CT) (Φ : Fns) (lv : Nat) (K : CKx) (c : CE) : Prop := ∀ (sc : Scope) (e : Expr), chk K.cs false sc c e = true → ∀ (X : Cx) (W : WX), CxOk T Φ K.J lv K.N sc X → Takes X W → PE X e (tE T W (frE K.J.ffr c) (ev Φ false c))
def PTok (T : CT) (Φ : Fns) (lv : Nat) (K : CKx) (c : CE) : Prop := ∀ (sc : Scope) (e : Expr), chk K.cs true sc c e = true → ∀ (X : Cx) (W : WX), CxOk T Φ K.J lv K.N sc X → Takes X W → PT X e (tT T W (ev Φ true c))
def PAok (T : CT) (Φ : Fns) (lv : Nat) (K : CKx) (c : CA) : Prop := ∀ (sc : Scope) (e : List Expr), chkA K.cs sc c e = true → ∀ (X : Cx) (W : WX), CxOk T Φ K.J lv K.N sc X → Takes X W → PA X e (tA T W (evs Φ c))
def PIok (T : CT) (Φ : Fns) (lv : Nat) (K : CKx) (c : CI) : Prop := ∀ (sc : Scope) (tg e : Expr), chkI K.cs sc c tg e = true → ∀ (X : Cx) (W : WX), CxOk T Φ K.J lv K.N sc X → Takes X W → PI X tg e (tI T W (evi Φ c))
def POok (T : CT) (Φ : Fns) (lv : Nat) (K : CKx) (c : CP) : Prop := ∀ (sc : Scope) (e : Option Expr), chkP K.cs sc c e = true → ∀ (X : Cx) (W : WX), CxOk T Φ K.J lv K.N sc X → Takes X W → PO X e (tP T W (evp Φ c))
def PCok (T : CT) (Φ : Fns) (lv : Nat) (K : CKx) (c : CP) : Prop := ∀ (sc : Scope) (e : List Expr), chkC K.cs sc c e = true → ∀ (X : Cx) (W : WX), CxOk T Φ K.J lv K.N sc X → Takes X W → PTs X e (tC' T W (evc Φ c))
theorem pt_gen {c : CE} (hc : isGen c = true) (h : PEok T Φ lv K c) : PTok T Φ lv K c := by
  intro sc e hk X W O tk
  have hl : isLog c = false := by cases c <;> first | rfl | cases hc
  rw [ev_tru hl]
  exact st_of O (h sc e (chk_k hc hk) X W O tk).un (plainE_ok (chk_plain hc hk))
theorem small_len {n : Nat} {xs : List IV} (h : xs.length = n) (hn : n < 1000) : xs.length ≤ sizeLine := by
  have := line6
  omega
theorem ok_stuck : PEok T Φ lv K .stuck ∧ PTok T Φ lv K .stuck := by
  constructor
  · intro sc e hk X W O tk
    exact se_stuck fun _ _ => rfl
  · intro sc e hk X W O tk
    exact ⟨fun pins s σ H Q I ⟨S, κ, env, cs, rs, re, w⟩ => w.elim⟩
theorem ok_var {i : Nat} : PEok T Φ lv K (.var i) := by
  intro sc e hk X W O tk
  unfold chk at hk
  split at hk
  · rename_i x hx
    obtain ⟨p, rfl⟩ := asName_ok hx
    rw [Bool.and_eq_true, Bool.and_eq_true, decide_eq_true_eq] at hk
    exact se_var (O.hN ▸ hk.1.1) (visB_X O hk.1.2) (okName_ok hk.2).1 (okName_ok hk.2).2
  · cases hk
theorem ok_non : PEok T Φ lv K .non := by
  intro sc e hk X W O tk
  unfold chk at hk
  split at hk
  · rename_i x hx
    obtain ⟨k, p, rfl⟩ := asConst_ok hx
    cases x <;> first | exact se_non | cases hk
  · cases hk
theorem ok_bl {b : Bool} : PEok T Φ lv K (.bl b) := by
  intro sc e hk X W O tk
  unfold chk at hk
  split at hk
  · rename_i x hx
    obtain ⟨k, p, rfl⟩ := asConst_ok hx
    cases x <;> first | (rw [show b = _ from eq_of_beq hk]; exact se_bl) | cases hk
  · cases hk
theorem ok_int {b : Int} : PEok T Φ lv K (.int b) := by
  intro sc e hk X W O tk
  unfold chk at hk
  split at hk
  · rename_i x hx
    obtain ⟨k, p, rfl⟩ := asConst_ok hx
    cases x <;> first | (rw [show b = _ from eq_of_beq hk]; exact se_int) | cases hk
  · cases hk
theorem ok_str {b : Str} : PEok T Φ lv K (.str b) := by
  intro sc e hk X W O tk
  unfold chk at hk
  split at hk
  · rename_i x hx
    obtain ⟨k, p, rfl⟩ := asConst_ok hx
    cases x <;> first | (rw [show b = _ from of_decide_eq_true hk]; exact se_str) | cases hk
  · cases hk
theorem ok_con {j : Nat} : PEok T Φ lv K (.con j) := by
  intro sc e hk X W O tk
  unfold chk at hk
  split at hk
  · rename_i x hx
    obtain ⟨p, rfl⟩ := asName_ok hx
    simp only [Bool.and_eq_true, decide_eq_true_eq] at hk
    obtain ⟨⟨h1, rfl⟩, h3⟩ := hk
    exact se_con O h1 (glB_ok O h3).1 (glB_ok O h3).2
  · cases hk
theorem ok_cval {c : Nat} {f : Str} {i : Int} : PEok T Φ lv K (.cval c f i) := by
  intro sc e hk X W O tk
  unfold chk at hk
  split at hk
  · rename_i oe x hx
    split at hk
    · rename_i y hy
      obtain ⟨p, rfl⟩ := asAttr_ok hx
      obtain ⟨p2, rfl⟩ := asName_ok hy
      simp only [Bool.and_eq_true, decide_eq_true_eq] at hk
      obtain ⟨⟨⟨h1, rfl⟩, rfl⟩, h4⟩ := hk
      exact se_cval O h1 (glB_ok O h4).1 (glB_ok O h4).2
    · cases hk
  · cases hk
theorem ok_tup {as : CA} (ih : PAok T Φ lv K as) : PEok T Φ lv K (.tup as) := by
  intro sc e hk X W O tk
  unfold chk at hk
  split at hk
  · rename_i x hx
    obtain ⟨k, p, rfl⟩ := asTup_ok hx
    simp only [Bool.and_eq_true, decide_eq_true_eq] at hk
    exact se_tup (ih sc _ hk.2 X W O tk) fun env cs xs cs' h => small_len (evs_len as env cs xs cs' h) hk.1.2
  · cases hk
theorem ok_lst {as : CA} (ih : PAok T Φ lv K as) : PEok T Φ lv K (.lst as) := by
  intro sc e hk X W O tk
  unfold chk at hk
  split at hk
  · rename_i x hx
    obtain ⟨p, rfl⟩ := asLst_ok hx
    simp only [Bool.and_eq_true, decide_eq_true_eq] at hk
    exact se_lst (ih sc _ hk.2 X W O tk) fun env cs xs cs' h => small_len (evs_len as env cs xs cs' h) hk.1.2
  · cases hk
theorem ok_clst {as : CA} (ih : PAok T Φ lv K as) : PEok T Φ lv K (.clst as) := by
  intro sc e hk X W O tk
  unfold chk at hk
  split at hk
  · rename_i x hx
    obtain ⟨p, rfl⟩ := asLst_ok hx
    simp only [Bool.and_eq_true, decide_eq_true_eq] at hk
    exact se_clst (ih sc _ hk.2 X W O tk) fun env cs xs cs' h => small_len (evs_len as env cs xs cs' h) hk.1.2
  · cases hk
theorem ok_bin {op : BO} {a b : CE} (iha : PEok T Φ lv K a) (ihb : PEok T Φ lv K b) : PEok T Φ lv K (.bin op a b) := by
  intro sc e hk X W O tk
  unfold chk at hk
  split at hk
  · rename_i op' x y hx
    obtain ⟨p, rfl⟩ := asBin_ok hx
    simp only [Bool.and_eq_true, decide_eq_true_eq] at hk
    obtain ⟨⟨rfl, h1⟩, h2⟩ := hk
    exact se_bin (ops_bin O tk op) (iha sc _ h1 X W O tk).un (ihb sc _ h2 X W O tk).un
  · cases hk
theorem ok_neg {a : CE} (iha : PEok T Φ lv K a) : PEok T Φ lv K (.neg a) := by
  intro sc e hk X W O tk
  unfold chk at hk
  split at hk
  · rename_i op' x hx
    obtain ⟨p, rfl⟩ := asUn_ok hx
    simp only [Bool.and_eq_true, decide_eq_true_eq] at hk
    obtain ⟨rfl, h1⟩ := hk
    exact se_neg O tk (iha sc _ h1 X W O tk).un
  · cases hk
theorem ok_cmp {op : CmpOp} {a b : CE} (iha : PEok T Φ lv K a) (ihb : PEok T Φ lv K b) : PEok T Φ lv K (.cmp op a b) ∧ PTok T Φ lv K (.cmp op a b) := by
  constructor
  · intro sc e hk X W O tk
    unfold chk at hk
    split at hk
    · rename_i op' x y hx
      obtain ⟨p, rfl⟩ := asCmp1_ok hx
      simp only [Bool.and_eq_true, decide_eq_true_eq, Bool.not_eq_true', decide_eq_false_iff_not] at hk
      obtain ⟨⟨⟨⟨⟨rfl, h1⟩, h2⟩, h3⟩, h4⟩, h5⟩ := hk
      exact se_cmp (ops_cmp O tk _ ⟨h1, h2⟩) (iha sc _ h4 X W O tk).un (ihb sc _ h5 X W O tk).un (notSet_in h3)
    · cases hk
  · intro sc e hk X W O tk
    unfold chk at hk
    split at hk
    · rename_i op' x y hx
      obtain ⟨p, rfl⟩ := asCmp1_ok hx
      simp only [Bool.and_eq_true, decide_eq_true_eq, Bool.not_eq_true', decide_eq_false_iff_not] at hk
      obtain ⟨⟨⟨⟨⟨rfl, h1⟩, h2⟩, h3⟩, h4⟩, h5⟩ := hk
      exact st_cmp O (ops_cmp O tk _ ⟨h1, h2⟩) (iha sc _ h4 X W O tk).un (ihb sc _ h5 X W O tk).un (notSet_in h3)
    · cases hk
theorem non_of {y : Expr} (h : (match asConst y with | some c => cNon c | none => false) = true) : ∃ k p, y = .Constant .none k p := by
  split at h
  · rename_i c hc
    obtain ⟨k, p, rfl⟩ := asConst_ok hc
    cases c <;> first | exact ⟨_, _, rfl⟩ | cases h
  · cases h
theorem ok_isN {a : CE} (iha : PEok T Φ lv K a) : PEok T Φ lv K (.isN a) ∧ PTok T Φ lv K (.isN a) := by
  constructor
  · intro sc e hk X W O tk
    unfold chk at hk
    split at hk
    · rename_i op' x y hx
      obtain ⟨p, rfl⟩ := asCmp1_ok hx
      simp only [Bool.and_eq_true, decide_eq_true_eq] at hk
      obtain ⟨⟨rfl, h1⟩, h2⟩ := hk
      obtain ⟨k, p2, rfl⟩ := non_of h1
      exact se_isN (iha sc _ h2 X W O tk).un
    · cases hk
  · intro sc e hk X W O tk
    unfold chk at hk
    split at hk
    · rename_i op' x y hx
      obtain ⟨p, rfl⟩ := asCmp1_ok hx
      simp only [Bool.and_eq_true, decide_eq_true_eq] at hk
      obtain ⟨⟨rfl, h1⟩, h2⟩ := hk
      obtain ⟨k, p2, rfl⟩ := non_of h1
      exact st_isN (iha sc _ h2 X W O tk).un
    · cases hk
theorem ok_notN {a : CE} (iha : PEok T Φ lv K a) : PEok T Φ lv K (.notN a) ∧ PTok T Φ lv K (.notN a) := by
  constructor
  · intro sc e hk X W O tk
    unfold chk at hk
    split at hk
    · rename_i op' x y hx
      obtain ⟨p, rfl⟩ := asCmp1_ok hx
      simp only [Bool.and_eq_true, decide_eq_true_eq] at hk
      obtain ⟨⟨rfl, h1⟩, h2⟩ := hk
      obtain ⟨k, p2, rfl⟩ := non_of h1
      exact se_notN (iha sc _ h2 X W O tk).un
    · cases hk
  · intro sc e hk X W O tk
    unfold chk at hk
    split at hk
    · rename_i op' x y hx
      obtain ⟨p, rfl⟩ := asCmp1_ok hx
      simp only [Bool.and_eq_true, decide_eq_true_eq] at hk
      obtain ⟨⟨rfl, h1⟩, h2⟩ := hk
      obtain ⟨k, p2, rfl⟩ := non_of h1
      exact st_notN (iha sc _ h2 X W O tk).un
    · cases hk
theorem ok_chain {o1 o2 : CmpOp} {a b c : CE} (iha : PEok T Φ lv K a) (ihb : PEok T Φ lv K b) (ihc : PEok T Φ lv K c) : PEok T Φ lv K (.chain o1 o2 a b c) ∧ PTok T Φ lv K (.chain o1 o2 a b c) := by
  constructor
  · intro sc e hk X W O tk
    unfold chk at hk
    split at hk
    · rename_i p1 p2 x y z hx
      obtain ⟨p, rfl⟩ := asCmp2_ok hx
      simp only [Bool.and_eq_true, decide_eq_true_eq, Bool.not_eq_true', decide_eq_false_iff_not] at hk
      obtain ⟨⟨⟨⟨⟨⟨⟨⟨⟨rfl, rfl⟩, h1⟩, h2⟩, h3⟩, h4⟩, h5⟩, h6⟩, h7⟩, h8⟩ := hk
      exact se_chain (ops_cmp O tk _ ⟨h1, h2⟩) (ops_cmp O tk _ ⟨h3, h4⟩) (iha sc _ h6 X W O tk).un (ihb sc _ h7 X W O tk).un (ihc sc _ h8 X W O tk).un (notSet_in h5)
    · cases hk
  · intro sc e hk X W O tk
    unfold chk at hk
    split at hk
    · rename_i p1 p2 x y z hx
      obtain ⟨p, rfl⟩ := asCmp2_ok hx
      simp only [Bool.and_eq_true, decide_eq_true_eq, Bool.not_eq_true', decide_eq_false_iff_not] at hk
      obtain ⟨⟨⟨⟨⟨⟨⟨⟨⟨rfl, rfl⟩, h1⟩, h2⟩, h3⟩, h4⟩, h5⟩, h6⟩, h7⟩, h8⟩ := hk
      exact st_chain O (ops_cmp O tk _ ⟨h1, h2⟩) (ops_cmp O tk _ ⟨h3, h4⟩) (iha sc _ h6 X W O tk).un (ihb sc _ h7 X W O tk).un (ihc sc _ h8 X W O tk).un (notSet_in h5)
    · cases hk
theorem ok_and {a b : CE} (iha : PEok T Φ lv K a ∧ PTok T Φ lv K a) (ihb : PEok T Φ lv K b ∧ PTok T Φ lv K b) : PEok T Φ lv K (.and a b) ∧ PTok T Φ lv K (.and a b) := by
  constructor
  · intro sc e hk X W O tk
    unfold chk at hk
    split at hk
    · rename_i op es p hx
      obtain rfl := asBo_ok hx
      rw [Bool.and_eq_true, decide_eq_true_eq] at hk
      obtain ⟨rfl, hk⟩ := hk
      split at hk
      · rw [Bool.and_eq_true] at hk
        exact se_and (iha.1 sc _ hk.1 X W O tk).un (pe_one (ihb.1 sc _ hk.2 X W O tk).un)
      · rw [Bool.and_eq_true] at hk
        exact se_and (iha.1 sc _ hk.1 X W O tk).un (ihb.1 sc _ hk.2 X W O tk).un
      · cases hk
    · cases hk
  · intro sc e hk X W O tk
    unfold chk at hk
    split at hk
    · rename_i op es p hx
      obtain rfl := asBo_ok hx
      rw [Bool.and_eq_true, decide_eq_true_eq] at hk
      obtain ⟨rfl, hk⟩ := hk
      split at hk
      · rw [Bool.and_eq_true] at hk
        exact (st_and (isB_ev a) (iha.2 sc _ hk.1 X W O tk) (st_and1 (.inl rfl) (ihb.2 sc _ hk.2 X W O tk))).pt
      · rw [Bool.and_eq_true] at hk
        exact (st_and (isB_ev a) (iha.2 sc _ hk.1 X W O tk) (PT.pw (ihb.2 sc _ hk.2 X W O tk))).pt
      · cases hk
    · cases hk
theorem ok_or {a b : CE} (iha : PEok T Φ lv K a ∧ PTok T Φ lv K a) (ihb : PEok T Φ lv K b ∧ PTok T Φ lv K b) : PEok T Φ lv K (.or a b) ∧ PTok T Φ lv K (.or a b) := by
  constructor
  · intro sc e hk X W O tk
    unfold chk at hk
    split at hk
    · rename_i op es p hx
      obtain rfl := asBo_ok hx
      rw [Bool.and_eq_true, decide_eq_true_eq] at hk
      obtain ⟨rfl, hk⟩ := hk
      split at hk
      · rw [Bool.and_eq_true] at hk
        exact se_or (iha.1 sc _ hk.1 X W O tk).un (pe_one (ihb.1 sc _ hk.2 X W O tk).un)
      · rw [Bool.and_eq_true] at hk
        exact se_or (iha.1 sc _ hk.1 X W O tk).un (ihb.1 sc _ hk.2 X W O tk).un
      · cases hk
    · cases hk
  · intro sc e hk X W O tk
    unfold chk at hk
    split at hk
    · rename_i op es p hx
      obtain rfl := asBo_ok hx
      rw [Bool.and_eq_true, decide_eq_true_eq] at hk
      obtain ⟨rfl, hk⟩ := hk
      split at hk
      · rw [Bool.and_eq_true] at hk
        exact (st_or (isB_ev a) (iha.2 sc _ hk.1 X W O tk) (st_and1 (.inr rfl) (ihb.2 sc _ hk.2 X W O tk))).pt
      · rw [Bool.and_eq_true] at hk
        exact (st_or (isB_ev a) (iha.2 sc _ hk.1 X W O tk) (PT.pw (ihb.2 sc _ hk.2 X W O tk))).pt
      · cases hk
    · cases hk
theorem ok_not {a : CE} (iha : PEok T Φ lv K a ∧ PTok T Φ lv K a) : PEok T Φ lv K (.not a) ∧ PTok T Φ lv K (.not a) := by
  constructor
  · intro sc e hk X W O tk
    unfold chk at hk
    split at hk
    · rename_i op' x hx
      obtain ⟨p, rfl⟩ := asUn_ok hx
      simp only [Bool.and_eq_true, decide_eq_true_eq] at hk
      obtain ⟨rfl, h1⟩ := hk
      exact se_not (iha.1 sc _ h1 X W O tk).un
    · cases hk
  · intro sc e hk X W O tk
    unfold chk at hk
    split at hk
    · rename_i op' x hx
      obtain ⟨p, rfl⟩ := asUn_ok hx
      simp only [Bool.and_eq_true, decide_eq_true_eq] at hk
      obtain ⟨rfl, h1⟩ := hk
      exact st_not (isB_ev a) (iha.2 sc _ h1 X W O tk)
    · cases hk
theorem ok_ite {t a b : CE} (iht : PTok T Φ lv K t) (iha : PEok T Φ lv K a ∧ PTok T Φ lv K a) (ihb : PEok T Φ lv K b ∧ PTok T Φ lv K b) : PEok T Φ lv K (.ite t a b) ∧ PTok T Φ lv K (.ite t a b) := by
  constructor
  · intro sc e hk X W O tk
    unfold chk at hk
    split at hk
    · rename_i x y z hx
      obtain ⟨p, rfl⟩ := asIf_ok hx
      simp only [Bool.and_eq_true] at hk
      exact se_ite (isB_ev t) (iht sc _ hk.1.1 X W O tk) (iha.1 sc _ hk.1.2 X W O tk).un (ihb.1 sc _ hk.2 X W O tk).un
    · cases hk
  · intro sc e hk X W O tk
    unfold chk at hk
    split at hk
    · rename_i x y z hx
      obtain ⟨p, rfl⟩ := asIf_ok hx
      simp only [Bool.and_eq_true] at hk
      exact st_ite (isB_ev t) (iht sc _ hk.1.1 X W O tk) (iha.2 sc _ hk.1.2 X W O tk) (ihb.2 sc _ hk.2 X W O tk)
    · cases hk
theorem ok_call {f : Nat} {as : CA} (ih : PAok T Φ lv K as) : PEok T Φ lv K (.call f as) := by
  intro sc e hk X W O tk
  unfold chk at hk
  split at hk
  · rename_i x es hx
    obtain ⟨p, pos, rfl⟩ := asCall_ok hx
    simp only [Bool.and_eq_true, decide_eq_true_eq, Bool.not_eq_true'] at hk
    obtain ⟨⟨⟨⟨⟨⟨h1, h2⟩, rfl⟩, h4⟩, h5⟩, h6⟩, h7⟩ := hk
    have hg := glB_ok O h4
    cases es with
    | nil =>
      cases as with
      | cons a as => unfold chkA at h7; cases h7
      | nil => exact se_call0 O tk h1 h2 hg.1 h6.symm hg.2
    | cons a es => exact se_call O tk h1 h2 hg.1 (ih sc _ h7 X W O tk) h5 (fun env cs xs cs' h => by rw [evs_len as env cs xs cs' h]; exact h6) hg.2
  · cases hk
theorem ok_mk {f : Nat} {as : CA} (ih : PAok T Φ lv K as) : PEok T Φ lv K (.mk f as) := by
  intro sc e hk X W O tk
  unfold chk at hk
  split at hk
  · rename_i x es hx
    obtain ⟨p, pos, rfl⟩ := asCall_ok hx
    simp only [Bool.and_eq_true, decide_eq_true_eq, Bool.not_eq_true'] at hk
    obtain ⟨⟨⟨⟨⟨⟨h1, rfl⟩, h4⟩, h5⟩, h0⟩, h6⟩, h7⟩ := hk
    have hg := glB_ok O h4
    cases es with
    | nil => cases h0
    | cons a es => exact se_mk O tk h1 hg.1 (ih sc _ h7 X W O tk) h5 (fun env cs xs cs' h => by rw [evs_len as env cs xs cs' h]; exact h6) hg.2
  · cases hk
theorem ok_meth {c f : Nat} {o : CE} {as : CA} (iho : PEok T Φ lv K o) (ih : PAok T Φ lv K as) : PEok T Φ lv K (.meth c f o as) := by
  intro sc e hk X W O tk
  unfold chk at hk
  split at hk
  · rename_i oe m es l hx
    obtain ⟨ap, pos, rfl, hl⟩ := asMeth_ok hx
    simp only [Bool.and_eq_true, decide_eq_true_eq] at hk
    obtain ⟨⟨⟨⟨⟨⟨⟨⟨⟨⟨h1, h2, hP⟩, rfl⟩, rfl⟩, h4⟩, rfl⟩, h6⟩, h7⟩, h8⟩, h9⟩, h10⟩ := hk
    have hm := meth_form (o := oe) (m := K.J.fnm f) (ap := ap) (pos := pos) (es := es) (env := X.env) h4 hl h6 (decide_eq_true h7)
    cases es with
    | nil =>
      cases as with
      | cons a as => unfold chkA at h10; cases h10
      | nil => exact se_meth0 O tk h1 h2 hP (iho sc _ h9 X W O tk).un h8.symm hm
    | cons a es => exact se_meth O tk h1 h2 hP (iho sc _ h9 X W O tk).un (ih sc _ h10 X W O tk) h6 (fun env cs xs cs' h => by rw [evs_len as env cs xs cs' h]; exact h8) hm
  · cases hk
theorem ok_attr (hf : T.fld = K.fld) {c j : Nat} {o : CE} (iho : PEok T Φ lv K o) : PEok T Φ lv K (.attr o c j) := by
  intro sc e hk X W O tk
  unfold chk at hk
  split at hk
  · rename_i oe x hx
    obtain ⟨p, rfl⟩ := asAttr_ok hx
    simp only [Bool.and_eq_true, decide_eq_true_eq] at hk
    obtain ⟨⟨⟨h1, h2⟩, h3⟩, h4⟩ := hk
    exact se_attr O h1 (by rw [hf]; exact h2) (iho sc _ h4 X W O tk).un (baseOk_ok h3)
  · cases hk
theorem ok_blt {b : Blt} {as : CA} (ih : PAok T Φ lv K as) : PEok T Φ lv K (.blt b as) := by
  intro sc e hk X W O tk
  unfold chk at hk
  split at hk
  · rename_i x es hx
    obtain ⟨p, pos, rfl⟩ := asCall_ok hx
    simp only [Bool.and_eq_true, decide_eq_true_eq, Bool.not_eq_true'] at hk
    obtain ⟨⟨⟨⟨rfl, h4⟩, h5⟩, h0⟩, h7⟩ := hk
    have hg := glB_ok O h4
    cases es with
    | nil => cases h0
    | cons a es => exact se_blt O b hg.1 (ih sc _ h7 X W O tk) h5
  · cases hk
theorem ok_lenm {c f : Nat} {as : CA} (ih : PAok T Φ lv K as) : PEok T Φ lv K (.lenm c f as) := by
  intro sc e hk X W O tk
  unfold chk at hk
  split at hk
  · rename_i x es hx
    obtain ⟨p, pos, rfl⟩ := asCall_ok hx
    simp only [Bool.and_eq_true, decide_eq_true_eq, Bool.not_eq_true'] at hk
    obtain ⟨⟨⟨⟨⟨⟨⟨⟨⟨⟨rfl, h4⟩, h5⟩, h0⟩, h1⟩, h2, hP⟩, h3⟩, h6⟩, h8⟩, h9⟩, h7⟩ := hk
    have hg := glB_ok O h4
    cases es with
    | nil => cases h0
    | cons a es => exact se_lenm O tk hg.1 h1 h2 hP h3 h6 h8 h9 (ih sc _ h7 X W O tk) h5
  · cases hk
theorem ok_strm {c f : Nat} {as : CA} (ih : PAok T Φ lv K as) : PEok T Φ lv K (.strm c f as) := by
  intro sc e hk X W O tk
  unfold chk at hk
  split at hk
  · rename_i x es hx
    obtain ⟨p, pos, rfl⟩ := asCall_ok hx
    simp only [Bool.and_eq_true, decide_eq_true_eq, Bool.not_eq_true'] at hk
    obtain ⟨⟨⟨⟨⟨⟨⟨⟨⟨⟨rfl, h4⟩, h5⟩, h0⟩, h1⟩, h2, hP⟩, h3⟩, h6⟩, h8⟩, h9⟩, h7⟩ := hk
    have hg := glB_ok O h4
    cases es with
    | nil => cases h0
    | cons a es => exact se_strm O tk hg.1 h1 h2 hP h3 h6 h8 h9 (ih sc _ h7 X W O tk) h5
  · cases hk
theorem ok_prp {c f : Nat} {o : CE} (iho : PEok T Φ lv K o) : PEok T Φ lv K (.prp c f o) := by
  intro sc e hk X W O tk
  unfold chk at hk
  split at hk
  · rename_i oe x hx
    obtain ⟨p, rfl⟩ := asAttr_ok hx
    simp only [Bool.and_eq_true, decide_eq_true_eq] at hk
    obtain ⟨⟨h1, h2⟩, h3⟩ := hk
    exact se_prp O tk h1 (iho sc _ h3 X W O tk).un (baseOk_ok h2)
  · cases hk
theorem ok_lsti {c f k : Nat} {as : CA} (ih : PAok T Φ lv K as) : PEok T Φ lv K (.lsti c f k as) := by
  intro sc e hk X W O tk
  unfold chk at hk
  split at hk
  · rename_i x es hx
    obtain ⟨p, pos, rfl⟩ := asCall_ok hx
    simp only [Bool.and_eq_true, decide_eq_true_eq, Bool.not_eq_true'] at hk
    obtain ⟨⟨⟨⟨⟨⟨⟨⟨⟨⟨⟨rfl, h4⟩, h5⟩, h0⟩, h1⟩, h2, hP⟩, h3⟩, h6⟩, h8⟩, h9⟩, h10⟩, h7⟩ := hk
    have hg := glB_ok O h4
    obtain ⟨⟨c', fi, k'⟩, hp, hq⟩ := List.any_eq_true.mp h10
    rw [Bool.and_eq_true] at hq
    have e1 : c' = c := eq_of_beq hq.1
    have e2 : k' = k := eq_of_beq hq.2
    subst e1 e2
    cases es with
    | nil => cases h0
    | cons a es => exact se_lsti O tk hg.1 hp h1 h2 hP h3 h6 h8 h9 (ih sc _ h7 X W O tk) h5
  · cases hk
theorem ok_join {a : CE} {s : Str} (iha : PEok T Φ lv K a) : PEok T Φ lv K (.join s a) := by
  intro sc e hk X W O tk
  unfold chk at hk
  split at hk
  · rename_i oe m ae l hx
    obtain ⟨ap, cp, rfl, hl⟩ := asMeth_ok hx
    simp only [Bool.and_eq_true, decide_eq_true_eq] at hk
    obtain ⟨⟨⟨⟨rfl, rfl⟩, h1⟩, h2⟩, h3⟩ := hk
    split at h2
    · rename_i z hz
      obtain ⟨k, p, rfl⟩ := asConst_ok hz
      obtain rfl : z = s := of_decide_eq_true h2
      exact se_join (iha sc _ h3 X W O tk).un h1 hl
    · cases h2
  · cases hk
theorem ok_fs2 {a b : CE} {s : Str} (iha : PEok T Φ lv K a) (ihb : PEok T Φ lv K b) : PEok T Φ lv K (.fs2 a s b) := by
  intro sc e hk X W O tk
  unfold chk at hk
  split at hk
  · rename_i x y z hx
    obtain ⟨p1, j, p2, p3, p, rfl⟩ := asFs2_ok hx
    simp only [Bool.and_eq_true, decide_eq_true_eq] at hk
    obtain ⟨⟨⟨rfl, h0⟩, h1⟩, h2⟩ := hk
    exact se_fs2 h0 (iha sc _ h1 X W O tk).un (ihb sc _ h2 X W O tk).un
  · cases hk
theorem ok_isi {a : CE} {t : Ty} (iha : PEok T Φ lv K a) : PEok T Φ lv K (.isi a t) := by
  intro sc e hk X W O tk
  unfold chk at hk
  split at hk
  · rename_i x ae te hx
    obtain ⟨p, pos, rfl⟩ := asCall_ok hx
    simp only [Bool.and_eq_true, decide_eq_true_eq] at hk
    obtain ⟨⟨⟨⟨⟨rfl, h1⟩, h2⟩, h3⟩, h4⟩, h5⟩ := hk
    obtain ⟨h6, h7⟩ := ty_ok O h4
    exact se_isi (tn := "int") O (glB_ok O h1).1 h6 h7 (iha sc _ h5 X W O tk).un h2 h3
  · cases hk
theorem ok_sub {a i : CE} (iha : PEok T Φ lv K a) (ihi : PEok T Φ lv K i) : PEok T Φ lv K (.sub a i) := by
  intro sc e hk X W O tk
  unfold chk at hk
  split at hk
  · rename_i x y hx
    obtain ⟨p, rfl⟩ := asSub_ok hx
    simp only [Bool.and_eq_true] at hk
    exact se_sub O (iha sc _ hk.1.2 X W O tk).un (ihi sc _ hk.2 X W O tk).un (plainIx_ok hk.1.1)
  · cases hk
theorem ok_rev {a : CE} (iha : PEok T Φ lv K a) : PEok T Φ lv K (.rev a) := by
  intro sc e hk X W O tk
  unfold chk at hk
  split at hk
  · rename_i x hx
    obtain ⟨k, p1, p2, p3, p, rfl⟩ := asRev_ok hx
    exact se_rev O (iha sc _ hk X W O tk).un
  · cases hk
theorem ok_sli {a : CE} {lo hi : CP} (iha : PEok T Φ lv K a) (ihl : POok T Φ lv K lo) (ihh : POok T Φ lv K hi) : PEok T Φ lv K (.sli a lo hi) := by
  intro sc e hk X W O tk
  unfold chk at hk
  split at hk
  · rename_i x l h hx
    obtain ⟨p, p2, rfl⟩ := asSli_ok hx
    simp only [Bool.and_eq_true] at hk
    exact se_sli O (iha sc _ hk.1.1 X W O tk).un (ihl sc _ hk.1.2 X W O tk) (ihh sc _ hk.2 X W O tk)
  · cases hk
theorem takes0 {X : Cx} : Takes X (fun _ _ _ _ => False) := fun u s' ⟨a, B, sI, pins, σ, H, cls, d, e, I, nb, up, sky, na, os, ag, w⟩ => w.elim
theorem ownL_snd {N : List Str} {own : List Nat} : (ownL N own).map (·.2) = own := by
  unfold ownL
  rw [List.map_map]
  exact List.map_id _
theorem ok_comp {elt : CE} {own tg : List Nat} {it : CI} {cond : CP} (ihe : PEok T Φ lv K elt) (ihi : PIok T Φ lv K it) (ihc : PCok T Φ lv K cond) : PEok T Φ lv K (.comp elt own tg it cond) := by
  intro sc e hk X W O tk
  unfold chk at hk
  split at hk
  · rename_i ee te ie ifs scope hx
    obtain ⟨p, rfl⟩ := asComp_ok hx
    simp only [Bool.and_eq_true] at hk
    obtain ⟨⟨⟨⟨⟨⟨⟨h1, h2⟩, h3⟩, h4⟩, h5⟩, h6⟩, h7⟩, h8⟩ := hk
    have hown : ∀ i ∈ tg, i ∈ (ownL K.N own).map (·.2) := fun i hi => by
      rw [ownL_snd]
      exact of_decide_eq_true (List.all_eq_true.mp h2 i hi)
    have hb := blkOk_by h1
    have r := se_comp (fr := frE K.J.ffr (.comp elt own tg it cond)) (pos := p) (own := ownL K.N own) (tgn := tg) (fi := evi Φ it) (fc := evc Φ cond) (fe := ev Φ false elt) O (ihi sc _ _ h6 X W O tk) (by rw [O.hN, O.sc]; exact hb) (fun i hi => by rw [O.hN]; exact tg_ix h4 i hi) hown
      (fun s H C cl fp => tg_ok (O.blk (s := s) (H := H) (C := C) (cl := cl) (fp := fp)) (own_nm O) h4)
      (fun s H C cl fp => ihc _ _ h7 _ _ (O.blk (s := s) (H := H) (C := C) (cl := cl) (fp := fp)) takes0)
      (fun s H C cl fp => (ihe _ _ h8 _ _ (O.blk (s := s) (H := H) (C := C) (cl := cl) (fp := fp)) takes0).un) (notSet_it h5)
    rw [ownL_snd] at r
    exact r
  · cases hk
theorem ok_comp2 {elt : CE} {own tg tg1 : List Nat} {it it1 : CI} {cond1 : CP} (ihe : PEok T Φ lv K elt) (ihi : PIok T Φ lv K it) (ihi1 : PIok T Φ lv K it1) (ihc : PCok T Φ lv K cond1) : PEok T Φ lv K (.comp2 elt own tg it tg1 it1 cond1) := by
  intro sc e hk X W O tk
  unfold chk at hk
  split at hk
  · rename_i ee te ie te1 ie1 ifs1 scope hx
    obtain ⟨p, rfl⟩ := asComp2_ok hx
    simp only [Bool.and_eq_true] at hk
    obtain ⟨⟨⟨⟨⟨⟨⟨⟨⟨⟨h1, h2⟩, h2'⟩, h4⟩, h4'⟩, h5⟩, h5'⟩, h6⟩, h6'⟩, h7⟩, h8⟩ := hk
    have hown : ∀ i ∈ tg, i ∈ (ownL K.N own).map (·.2) := fun i hi => by
      rw [ownL_snd]
      exact of_decide_eq_true (List.all_eq_true.mp h2 i hi)
    have hown1 : ∀ i ∈ tg1, i ∈ (ownL K.N own).map (·.2) := fun i hi => by
      rw [ownL_snd]
      exact of_decide_eq_true (List.all_eq_true.mp h2' i hi)
    have hb := blkOk_by h1
    have r := se_comp2 (fr := frE K.J.ffr (.comp2 elt own tg it tg1 it1 cond1)) (pos := p) (own := ownL K.N own) (tgn := tg) (tgn1 := tg1) (fi := evi Φ it) (fi1 := evi Φ it1) (fc := evc Φ cond1) (fe := ev Φ false elt) O (ihi sc _ _ h6 X W O tk) (by rw [O.hN, O.sc]; exact hb) (fun i hi => by rw [O.hN]; exact tg_ix h4 i hi) (fun i hi => by rw [O.hN]; exact tg_ix h4' i hi) hown hown1
      (fun s H C cl fp => tg_ok (O.blk (s := s) (H := H) (C := C) (cl := cl) (fp := fp)) (own_nm O) h4)
      (fun s H C cl fp => ihi1 _ _ _ h6' _ _ (O.blk (s := s) (H := H) (C := C) (cl := cl) (fp := fp)) takes0)
      (fun s H C cl fp => tg_ok (O.blk (s := s) (H := H) (C := C) (cl := cl) (fp := fp)) (own_nm O) h4')
      (fun s H C cl fp => ihc _ _ h7 _ _ (O.blk (s := s) (H := H) (C := C) (cl := cl) (fp := fp)) takes0)
      (fun s H C cl fp => (ihe _ _ h8 _ _ (O.blk (s := s) (H := H) (C := C) (cl := cl) (fp := fp)) takes0).un) (notSet_it h5) (fun _ => notSet_it h5')
    rw [ownL_snd] at r
    exact r
  · cases hk
mutual
theorem okE (hf : T.fld = K.fld) : ∀ c : CE, PEok T Φ lv K c ∧ PTok T Φ lv K c
  | .stuck => ok_stuck
  | .var i => ⟨ok_var, pt_gen rfl ok_var⟩
  | .non => ⟨ok_non, pt_gen rfl ok_non⟩
  | .bl b => ⟨ok_bl, pt_gen rfl ok_bl⟩
  | .int b => ⟨ok_int, pt_gen rfl ok_int⟩
  | .str b => ⟨ok_str, pt_gen rfl ok_str⟩
  | .con b => ⟨ok_con, pt_gen rfl ok_con⟩
  | .cval c f i => ⟨ok_cval, pt_gen rfl ok_cval⟩
  | .tup as => ⟨ok_tup (okA hf as), pt_gen rfl (ok_tup (okA hf as))⟩
  | .lst as => ⟨ok_lst (okA hf as), pt_gen rfl (ok_lst (okA hf as))⟩
  | .bin op a b => ⟨ok_bin (okE hf a).1 (okE hf b).1, pt_gen rfl (ok_bin (okE hf a).1 (okE hf b).1)⟩
  | .neg a => ⟨ok_neg (okE hf a).1, pt_gen rfl (ok_neg (okE hf a).1)⟩
  | .cmp op a b => ok_cmp (okE hf a).1 (okE hf b).1
  | .isN a => ok_isN (okE hf a).1
  | .notN a => ok_notN (okE hf a).1
  | .chain o1 o2 a b c => ok_chain (okE hf a).1 (okE hf b).1 (okE hf c).1
  | .and a b => ok_and (okE hf a) (okE hf b)
  | .or a b => ok_or (okE hf a) (okE hf b)
  | .not a => ok_not (okE hf a)
  | .ite t a b => ok_ite (okE hf t).2 (okE hf a) (okE hf b)
  | .call f as => ⟨ok_call (okA hf as), pt_gen rfl (ok_call (okA hf as))⟩
  | .mk f as => ⟨ok_mk (okA hf as), pt_gen rfl (ok_mk (okA hf as))⟩
  | .meth c f o as => ⟨ok_meth (okE hf o).1 (okA hf as), pt_gen rfl (ok_meth (okE hf o).1 (okA hf as))⟩
  | .attr o c j => ⟨ok_attr hf (okE hf o).1, pt_gen rfl (ok_attr hf (okE hf o).1)⟩
  | .blt b as => ⟨ok_blt (okA hf as), pt_gen rfl (ok_blt (okA hf as))⟩
  | .rev a => ⟨ok_rev (okE hf a).1, pt_gen rfl (ok_rev (okE hf a).1)⟩
  | .lenm c f as => ⟨ok_lenm (okA hf as), pt_gen rfl (ok_lenm (okA hf as))⟩
  | .strm c f as => ⟨ok_strm (okA hf as), pt_gen rfl (ok_strm (okA hf as))⟩
  | .prp c f o => ⟨ok_prp (okE hf o).1, pt_gen rfl (ok_prp (okE hf o).1)⟩
  | .lsti c f k as => ⟨ok_lsti (okA hf as), pt_gen rfl (ok_lsti (okA hf as))⟩
  | .isi a t => ⟨ok_isi (okE hf a).1, pt_gen rfl (ok_isi (okE hf a).1)⟩
  | .sub a i => ⟨ok_sub (okE hf a).1 (okE hf i).1, pt_gen rfl (ok_sub (okE hf a).1 (okE hf i).1)⟩
  | .sli a lo hi => ⟨ok_sli (okE hf a).1 (okP hf lo) (okP hf hi), pt_gen rfl (ok_sli (okE hf a).1 (okP hf lo) (okP hf hi))⟩
  | .comp elt own tg it cond => ⟨ok_comp (okE hf elt).1 (okI hf it) (okC hf cond), pt_gen rfl (ok_comp (okE hf elt).1 (okI hf it) (okC hf cond))⟩
  | .comp2 elt own tg it tg1 it1 cond1 => ⟨ok_comp2 (okE hf elt).1 (okI hf it) (okI hf it1) (okC hf cond1), pt_gen rfl (ok_comp2 (okE hf elt).1 (okI hf it) (okI hf it1) (okC hf cond1))⟩
  | .clst as => ⟨ok_clst (okA hf as), pt_gen rfl (ok_clst (okA hf as))⟩
  | .fs2 a s b => ⟨ok_fs2 (okE hf a).1 (okE hf b).1, pt_gen rfl (ok_fs2 (okE hf a).1 (okE hf b).1)⟩
  | .join s a => ⟨ok_join (okE hf a).1, pt_gen rfl (ok_join (okE hf a).1)⟩
theorem okA (hf : T.fld = K.fld) : ∀ c : CA, PAok T Φ lv K c
  | .nil => by
    intro sc es hk X W O tk
    cases es with
    | nil => exact sa_nil fun _ _ => rfl
    | cons e es => unfold chkA at hk; cases hk
  | .cons a as => by
    intro sc es hk X W O tk
    cases es with
    | nil => unfold chkA at hk; cases hk
    | cons e es =>
      unfold chkA at hk
      simp only [Bool.and_eq_true] at hk
      exact sa_cons ((okE hf a).1 sc _ hk.1.2 X W O tk).un (okA hf as sc _ hk.2 X W O tk) (star_cons hk.1.1)
theorem okI (hf : T.fld = K.fld) : ∀ c : CI, PIok T Φ lv K c
  | .ex a => by
    intro sc tg e hk X W O tk
    unfold chkI at hk
    exact pi_seq O.fs.K.symm ((okE hf a).1 sc _ hk X W O tk).un
  | .rng1 a => by
    intro sc tg e hk X W O tk
    unfold chkI at hk
    split at hk
    · rename_i x y hx
      obtain ⟨p, pos, rfl⟩ := asCall_ok hx
      simp only [Bool.and_eq_true, decide_eq_true_eq] at hk
      obtain ⟨⟨⟨rfl, h1⟩, h2⟩, h3⟩ := hk
      exact pi_r1 O (glB_ok O h1).1 ((okE hf a).1 sc _ h3 X W O tk).un h2
    · cases hk
  | .rng2 a b => by
    intro sc tg e hk X W O tk
    unfold chkI at hk
    split at hk
    · rename_i x y z hx
      obtain ⟨p, pos, rfl⟩ := asCall_ok hx
      simp only [Bool.and_eq_true, decide_eq_true_eq] at hk
      obtain ⟨⟨⟨⟨⟨rfl, h1⟩, h2⟩, h3⟩, h4⟩, h5⟩ := hk
      exact pi_r2 O (glB_ok O h1).1 ((okE hf a).1 sc _ h4 X W O tk).un ((okE hf b).1 sc _ h5 X W O tk).un h2 h3
    · cases hk
  | .enum a => by
    intro sc tg e hk X W O tk
    unfold chkI at hk
    split at hk
    · rename_i es0 x y hx0 hx
      obtain ⟨p, pos, rfl⟩ := asCall_ok hx
      obtain ⟨k, p0, rfl⟩ := asTup_ok hx0
      simp only [Bool.and_eq_true, decide_eq_true_eq] at hk
      obtain ⟨⟨⟨rfl, h1⟩, h2⟩, h4⟩ := hk
      exact pi_en O (glB_ok O h1).1 ((okE hf a).1 sc _ h4 X W O tk).un h2
    · cases hk
  | .zip a b => by
    intro sc tg e hk X W O tk
    unfold chkI at hk
    split at hk
    · rename_i es0 x y z hx0 hx
      obtain ⟨p, pos, rfl⟩ := asCall_ok hx
      obtain ⟨k, p0, rfl⟩ := asTup_ok hx0
      simp only [Bool.and_eq_true, decide_eq_true_eq] at hk
      obtain ⟨⟨⟨⟨⟨rfl, h1⟩, h2⟩, h3⟩, h4⟩, h5⟩ := hk
      exact pi_zp O (glB_ok O h1).1 ((okE hf a).1 sc _ h4 X W O tk).un ((okE hf b).1 sc _ h5 X W O tk).un h2 h3
    · cases hk
theorem okP (hf : T.fld = K.fld) : ∀ c : CP, POok T Φ lv K c
  | .no => by
    intro sc e hk X W O tk
    cases e with
    | none => exact sp_no fun _ _ => rfl
    | some e => unfold chkP at hk; cases hk
  | .some a => by
    intro sc e hk X W O tk
    cases e with
    | none => unfold chkP at hk; cases hk
    | some e => unfold chkP at hk; exact sp_some ((okE hf a).1 sc _ hk X W O tk).un
theorem okC (hf : T.fld = K.fld) : ∀ c : CP, PCok T Φ lv K c
  | .no => by
    intro sc es hk X W O tk
    cases es with
    | nil => exact sc_nil fun _ _ => rfl
    | cons e es => unfold chkC at hk; cases hk
  | .some a => by
    intro sc es hk X W O tk
    match es with
    | [] => unfold chkC at hk; cases hk
    | [e] => unfold chkC at hk; exact sc_one (isB_ev a) ((okE hf a).2 sc _ hk X W O tk)
    | _ :: _ :: _ => unfold chkC at hk; cases hk
end
end
end EG

-- EngU
/-! Engine U: the state of a body. -/
namespace EG
open PySem PySem.Spec L2 PyProof.Rows

/-- a name's slot: nothing, a value, a list of its own, the instance under construction -/
inductive SL where
  | no
  | val (x : IV)
  | own (xs : List IV)
  | slf (c : Nat) (fs : List IV)
  | lnt (xs : List IV)
abbrev SE := List SL

mutual
def varE : CE → List Nat
  | .stuck => []
  | .var i => [i]
  | .non => []
  | .bl _ => []
  | .int _ => []
  | .str _ => []
  | .con _ => []
  | .cval _ _ _ => []
  | .tup as => varA as
  | .lst as => varA as
  | .bin _ a b => varE a ++ varE b
  | .neg a => varE a
  | .cmp _ a b => varE a ++ varE b
  | .isN a => varE a
  | .notN a => varE a
  | .chain _ _ a b c => varE a ++ (varE b ++ varE c)
  | .and a b => varE a ++ varE b
  | .or a b => varE a ++ varE b
  | .not a => varE a
  | .ite t a b => varE t ++ (varE a ++ varE b)
  | .call _ as => varA as
  | .mk _ as => varA as
  | .meth _ _ o as => varE o ++ varA as
  | .attr o _ _ => varE o
  | .blt _ as => varA as
  | .lenm _ _ as => varA as
  | .strm _ _ as => varA as
  | .prp _ _ o => varE o
  | .lsti _ _ _ as => varA as
  | .rev a => varE a
  | .isi a _ => varE a
  | .sub a i => varE a ++ varE i
  | .sli a lo hi => varE a ++ (varP lo ++ varP hi)
  | .comp elt _ _ it cond => varE elt ++ (varI it ++ varP cond)
  | .comp2 elt _ _ it _ it1 cond1 => varE elt ++ (varI it ++ (varI it1 ++ varP cond1))
  | .fs2 a _ b => varE a ++ varE b
  | .join _ a => varE a
  | .clst as => varA as
def varA : CA → List Nat
  | .nil => []
  | .cons a as => varE a ++ varA as
def varI : CI → List Nat
  | .ex e => varE e
  | .rng1 a => varE a
  | .rng2 a b => varE a ++ varE b
  | .enum e => varE e
  | .zip a b => varE a ++ varE b
def varP : CP → List Nat
  | .no => []
  | .some e => varE e
end
def opn1 (b : Bool) : SL → Option IV
  | .no => none
  | .val x => some x
  | .own xs => if b then some (.lst xs) else none
  | .slf _ _ => none
  | .lnt xs => some (.lst xs)
def opnM (vs : List Nat) (s : SE) : Env := s.mapIdx fun i x => opn1 (vs.contains i) x
def uno1 (b : Bool) : SL → SL
  | .own xs => if b then .val (.lst xs) else .own xs
  | .no => .no
  | .val x => .val x
  | .slf c fs => .slf c fs
  | .lnt xs => .lnt xs
def unoM (vs : List Nat) (s : SE) : SE := s.mapIdx fun i x => uno1 (vs.contains i) x
def isOw : SL → Bool
  | .own _ => true
  | _ => false
def isOn : SL → Bool
  | .own _ => true
  | .slf _ _ => true
  | _ => false
/-- a list among the names -/
def hasO (vs : List Nat) (s : SE) : Bool := vs.any fun i => isOw (s.getD i .no)
mutual
def noL : IV → Bool
  | .tup xs => noLs xs
  | .lst _ => false
  | .obj _ fs => noLs fs
  | .non => true
  | .bl _ => true
  | .int _ => true
  | .str _ => true
  | .cell _ => true
  | .scr _ => true
def noLs : List IV → Bool
  | [] => true
  | x :: xs => noL x && noLs xs
end
def noLC : CO → Bool
  | .lst xs => noLs xs
  | .ins _ fs => noLs fs
/-- behind an expression: the lists that it may have handed on are no longer own ones -/
def keep (vs : List Nat) (s : SE) (b : Bool) (cs : Cs) : SE := if hasO vs s then (if b && cs.all noLC then s else unoM vs s) else s
def keepI (fr : Bool) : IV → Bool
  | .lst xs => fr && noLs xs
  | x => noL x

section
variable {T : CT} {S S' : Addr → Prop} {κ κ' κ0 : List Addr} {H H' H0 : Hp} {cs cs' : Cs} {σ : L2.St}
/-! ### no list in it: no matter which lists are forbidden -/
mutual
theorem RV.noL (h : ∀ a, S' a → S a ∨ ∃ l, H a = some (.lst l)) : ∀ (x : IV) (v : V), noL x = true → RV T S κ H x v → RV T S' κ H x v
  | .non, _, _, r => r
  | .bl _, _, _, r => r
  | .int _, _, _, r => r
  | .str _, _, _, r => r
  | .cell _, _, _, r => by unfold RV at r ⊢; exact r
  | .scr _, _, _, r => by unfold RV at r ⊢; exact r
  | .lst _, _, n, _ => by unfold EG.noL at n; cases n
  | .tup xs, v, n, r => by
    unfold EG.noL at n
    unfold RV at r ⊢
    obtain ⟨a, vs, e, q, r⟩ := r
    exact ⟨a, vs, e, q, RVs.noL h xs vs n r⟩
  | .obj c fs, v, n, r => by
    unfold EG.noL at n
    unfold RV at r ⊢
    obtain ⟨a, dx, vs, e, q, ⟨n1, n2⟩, l, r⟩ := r
    refine ⟨a, dx, vs, e, q, ⟨fun z => ?_, n2⟩, l, RVs.noL h fs vs n r⟩
    rcases h a z with z | ⟨l, z⟩
    · exact n1 z
    · rw [q] at z; cases z
theorem RVs.noL (h : ∀ a, S' a → S a ∨ ∃ l, H a = some (.lst l)) : ∀ (xs : List IV) (vs : List V), noLs xs = true → RVs T S κ H xs vs → RVs T S' κ H xs vs
  | [], _, _, r => by unfold RVs at r ⊢; exact r
  | x :: xs, vs, n, r => by
    unfold EG.noLs at n
    rw [Bool.and_eq_true] at n
    unfold RVs at r ⊢
    obtain ⟨v, t, e, q, r⟩ := r
    exact ⟨v, t, e, RV.noL h x v n.1 q, RVs.noL h xs t n.2 r⟩
end
theorem RS.up (rs : RS T S κ H cs) (h : ∀ a, S' a → S a ∨ ∃ l, H a = some (.lst l)) (hk : ∀ a ∈ κ, ¬ S' a) (hn : cs.all noLC = true) : RS T S' κ H cs := by
  refine ⟨rs.nd, rs.len, fun a s => ?_, fun n o a e1 e2 => ⟨?_, hk a (List.mem_of_getElem? e2)⟩⟩
  · rcases h a s with z | ⟨l, z⟩
    · exact rs.dom a z
    · rw [z]; intro q; cases q
  · have q := (rs.cel n o a e1 e2).1
    have n1 := List.all_eq_true.mp hn o (List.mem_of_getElem? e1)
    cases o with
    | lst xs =>
      obtain ⟨vs, q1, q2⟩ := q
      exact ⟨vs, q1, RVs.noL h xs vs n1 q2⟩
    | ins c fs =>
      obtain ⟨dx, vs, q1, q3, q2⟩ := q
      exact ⟨dx, vs, q1, q3, RVs.noL h fs vs n1 q2⟩

/-! ### the state of a body -/
def onAt (s : SE) (i : Nat) : Bool := match s[i]? with
  | some x => isOn x
  | none => false
/-- the forbidden places -/
def SS (Sc : Addr → Prop) (O : Nat → Addr) (s : SE) : Addr → Prop := fun a => Sc a ∨ ∃ i, onAt s i = true ∧ a = O i
structure RF (T : CT) (Sc : Addr → Prop) (x0 : Addr) (κ0 : List Addr) (H0 : Hp) (O : Nat → Addr) (s : SE) (κ : List Addr) (H : Hp) (cs : Cs) (σ : L2.St) : Prop where
  st : Stp κ0 H0 κ H
  d0 : ∀ a, Sc a → H0 a ≠ none
  rs : RS T (SS Sc O s) κ H cs
  own : ∀ (i : Nat) (xs : List IV), s[i]? = some (SL.own xs) → ∃ vs, σ[i]? = some (some (.ref (O i))) ∧ H (O i) = some (.lst vs) ∧ RVs T (SS Sc O s) κ H xs vs
  slf : ∀ (i c : Nat) (fs : List IV), s[i]? = some (SL.slf c fs) → ∃ dx vs, σ[i]? = some (some (.ref (O i))) ∧ H (O i) = some (.ins (T.cls c) dx ((T.fld c).zip vs)) ∧ fs.length ≤ (T.fld c).length ∧ RVs T (SS Sc O s) κ H fs vs
  fr : ∀ (i : Nat), onAt s i = true → H0 (O i) = none ∧ O i ∉ κ
  val : ∀ (i : Nat) (x : IV), s[i]? = some (SL.val x) → ∃ v, σ[i]? = some (some v) ∧ RV T (SS Sc O s) κ H x v
  inj : ∀ (i j : Nat), onAt s i = true → onAt s j = true → O i = O j → i = j
  len : s.length = σ.length
  sx : ∀ (i c : Nat) (fs : List IV), s[i]? = some (SL.slf c fs) → O i = x0
  lnt : ∀ (i : Nat) (xs : List IV), s[i]? = some (SL.lnt xs) → σ[i]? = some (some (.ref x0)) ∧ RV T (SS Sc O s) κ H (.lst xs) (.ref x0)
variable {x0 : Addr} {Sc : Addr → Prop} {O : Nat → Addr} {s : SE} {vs : List Nat}
theorem onAt_own {i : Nat} {xs : List IV} (h : s[i]? = some (.own xs)) : onAt s i = true := by unfold onAt; rw [h]; rfl
theorem onAt_slf {i : Nat} {c : Nat} {fs : List IV} (h : s[i]? = some (.slf c fs)) : onAt s i = true := by unfold onAt; rw [h]; rfl
theorem on_case {i : Nat} (h : onAt s i = true) : (∃ xs, s[i]? = some (.own xs)) ∨ ∃ c fs, s[i]? = some (.slf c fs) := by
  unfold onAt at h
  split at h
  · rename_i x hx
    cases x <;> first | (cases h; done) | skip
    · exact .inl ⟨_, hx⟩
    · exact .inr ⟨_, _, hx⟩
  · cases h
theorem opn_get {i : Nat} : (opnM vs s)[i]? = (s[i]?).map fun x => opn1 (vs.contains i) x := by unfold opnM; rw [List.getElem?_mapIdx]
theorem uno_get {i : Nat} : (unoM vs s)[i]? = (s[i]?).map fun x => uno1 (vs.contains i) x := by unfold unoM; rw [List.getElem?_mapIdx]
theorem uno_len : (unoM vs s).length = s.length := by unfold unoM; rw [List.length_mapIdx]
theorem uno_on {i : Nat} (h : onAt (unoM vs s) i = true) : onAt s i = true ∧ (unoM vs s)[i]? = s[i]? := by
  unfold onAt at h ⊢
  rw [uno_get] at h ⊢
  cases hs : s[i]? with
  | none => rw [hs] at h; cases h
  | some x =>
    rw [hs] at h
    cases x with
    | own xs =>
      refine ⟨rfl, ?_⟩
      show some (uno1 (vs.contains i) (.own xs)) = _
      cases hb : vs.contains i with
      | true => rw [hb] at h; cases h
      | false => rfl
    | no => cases h
    | val _ => cases h
    | slf _ _ => exact ⟨rfl, rfl⟩
    | lnt _ => cases h
theorem ss_uno {a : Addr} (h : SS Sc O (unoM vs s) a) : SS Sc O s a := h.imp id fun ⟨i, hi, e⟩ => ⟨i, (uno_on hi).1, e⟩
theorem RF.live (R : RF T Sc x0 κ0 H0 O s κ H cs σ) {i : Nat} (h : onAt s i = true) : H (O i) ≠ none := by
  rcases on_case h with ⟨xs, e⟩ | ⟨c, fs, e⟩
  · obtain ⟨_, _, q, _⟩ := R.own i xs e
    rw [q]; intro z; cases z
  · obtain ⟨_, _, _, q, _⟩ := R.slf i c fs e
    rw [q]; intro z; cases z
theorem RF.nSc (R : RF T Sc x0 κ0 H0 O s κ H cs σ) {i : Nat} (h : onAt s i = true) : ¬ Sc (O i) := fun z => R.d0 _ z (R.fr i h).1
/-- the names' values for an expression -/
theorem RF.opn (R : RF T Sc x0 κ0 H0 O s κ H cs σ) (vs : List Nat) : RS T (SS Sc O (unoM vs s)) κ H cs ∧ RE T (SS Sc O (unoM vs s)) κ H (opnM vs s) σ := by
  refine ⟨R.rs.sub fun a h => ss_uno h, fun i x e => ?_⟩
  rw [opn_get] at e
  cases hs : s[i]? with
  | none => rw [hs] at e; cases e
  | some y =>
    rw [hs] at e
    have e' : opn1 (vs.contains i) y = some x := by injection e
    cases y with
    | no => cases e'
    | slf _ _ => cases e'
    | lnt xs =>
      cases e'
      obtain ⟨q, r⟩ := R.lnt i xs hs
      exact ⟨_, q, (Mv.anti fun a h => ss_uno h).rv _ _ r⟩
    | val y =>
      cases e'
      obtain ⟨v, q, r⟩ := R.val i x hs
      exact ⟨v, q, (Mv.anti fun a h => ss_uno h).rv _ _ r⟩
    | own xs =>
      cases hb : vs.contains i with
      | false => rw [hb] at e'; cases e'
      | true =>
        rw [hb] at e'
        cases e'
        obtain ⟨ws, q, h, r⟩ := R.own i xs hs
        refine ⟨_, q, ?_⟩
        unfold RV
        refine ⟨O i, ws, rfl, ⟨h, ?_, (R.fr i (onAt_own hs)).2⟩, (Mv.anti fun a h => ss_uno h).rvs _ _ r⟩
        rintro (z | ⟨j, hj, ej⟩)
        · exact R.nSc (onAt_own hs) z
        · obtain ⟨h1, h2⟩ := uno_on hj
          have := R.inj i j (onAt_own hs) h1 ej
          subst this
          rw [uno_get, hs, Option.map_some, hb] at h2
          cases h2
theorem stp_on (R : RF T Sc x0 κ0 H0 O s κ H cs σ) (st : Stp κ H κ' H') {i : Nat} (h : onAt s i = true) : H' (O i) = H (O i) ∧ O i ∉ κ' := by
  cases hh : H (O i) with
  | none => exact absurd hh (R.live h)
  | some o => exact ⟨st.evo _ o hh (.inr (R.fr i h).2), st.notin hh (R.fr i h).2⟩
/-- a step that leaves the own lists alone -/
theorem RF.step (R : RF T Sc x0 κ0 H0 O s κ H cs σ) (st : Stp κ H κ' H') (rs' : RS T (SS Sc O s) κ' H' cs') : RF T Sc x0 κ0 H0 O s κ' H' cs' σ where
  st := R.st.trans st
  d0 := R.d0
  rs := rs'
  own := fun i xs e => by
    obtain ⟨vs, q, h, r⟩ := R.own i xs e
    exact ⟨vs, q, by rw [(stp_on R st (onAt_own e)).1]; exact h, st.mv.rvs _ _ r⟩
  slf := fun i c fs e => by
    obtain ⟨dx, vs, q, h, l, r⟩ := R.slf i c fs e
    exact ⟨dx, vs, q, by rw [(stp_on R st (onAt_slf e)).1]; exact h, l, st.mv.rvs _ _ r⟩
  fr := fun i h => ⟨(R.fr i h).1, (stp_on R st h).2⟩
  val := fun i x e => by
    obtain ⟨v, q, r⟩ := R.val i x e
    exact ⟨v, q, st.mv.rv _ _ r⟩
  inj := R.inj
  len := R.len
  sx := R.sx
  lnt := fun i xs e => ⟨(R.lnt i xs e).1, st.mv.rv _ _ (R.lnt i xs e).2⟩
/-- .. the lists given away -/
theorem RF.uno (R : RF T Sc x0 κ0 H0 O s κ H cs σ) (vs : List Nat) : RF T Sc x0 κ0 H0 O (unoM vs s) κ H cs σ where
  st := R.st
  d0 := R.d0
  rs := R.rs.sub fun a h => ss_uno h
  own := fun i xs e => by
    have h1 : onAt (unoM vs s) i = true := onAt_own e
    obtain ⟨h2, h3⟩ := uno_on h1
    obtain ⟨ws, q, h, r⟩ := R.own i xs (h3 ▸ e)
    exact ⟨ws, q, h, (Mv.anti fun a h => ss_uno h).rvs _ _ r⟩
  slf := fun i c fs e => by
    have h1 : onAt (unoM vs s) i = true := onAt_slf e
    obtain ⟨h2, h3⟩ := uno_on h1
    obtain ⟨dx, ws, q, h, l, r⟩ := R.slf i c fs (h3 ▸ e)
    exact ⟨dx, ws, q, h, l, (Mv.anti fun a h => ss_uno h).rvs _ _ r⟩
  fr := fun i h => R.fr i (uno_on h).1
  val := fun i x e => by
    rw [uno_get] at e
    cases hs : s[i]? with
    | none => rw [hs] at e; cases e
    | some y =>
      rw [hs] at e
      have e' : uno1 (vs.contains i) y = .val x := by injection e
      cases y with
      | no => cases e'
      | slf _ _ => cases e'
      | lnt _ => cases e'
      | val y =>
        cases e'
        obtain ⟨v, q, r⟩ := R.val i x hs
        exact ⟨v, q, (Mv.anti fun a h => ss_uno h).rv _ _ r⟩
      | own xs =>
        cases hb : vs.contains i with
        | false => rw [hb] at e'; cases e'
        | true =>
          rw [hb] at e'
          cases e'
          obtain ⟨v, ev, rv⟩ := (R.opn vs).2 i (.lst xs) (by rw [opn_get, hs, Option.map_some, hb]; rfl)
          exact ⟨v, ev, rv⟩
  inj := fun i j h1 h2 => R.inj i j (uno_on h1).1 (uno_on h2).1
  len := by rw [uno_len]; exact R.len
  sx := fun i c fs e => R.sx i c fs ((uno_on (onAt_slf e)).2 ▸ e)
  lnt := fun i xs e => by
    rw [uno_get] at e
    cases hs : s[i]? with
    | none => rw [hs] at e; cases e
    | some y =>
      rw [hs] at e
      have e' : uno1 (vs.contains i) y = .lnt xs := by injection e
      cases y with
      | lnt ys =>
        cases e'
        obtain ⟨q, r⟩ := R.lnt i xs hs
        exact ⟨q, (Mv.anti fun a h => ss_uno h).rv _ _ r⟩
      | own xs => cases hb : vs.contains i <;> (rw [hb] at e'; cases e')
      | no => cases e'
      | val _ => cases e'
      | slf _ _ => cases e'
theorem hasO_not (h : hasO vs s = false) : unoM vs s = s := by
  apply List.ext_getElem?
  intro i
  rw [uno_get]
  cases hs : s[i]? with
  | none => rfl
  | some x =>
    cases x with
    | own xs =>
      cases hb : vs.contains i with
      | false => rfl
      | true =>
        unfold hasO at h
        rw [List.any_eq_false] at h
        have := h i (List.contains_iff_mem.mp hb)
        rw [List.getD_eq_getElem?_getD, hs] at this
        exact absurd rfl this
    | _ => rfl
/-- behind an expression -/
theorem RF.keep (R : RF T Sc x0 κ0 H0 O s κ H cs σ) (st : Stp κ H κ' H') (rs' : RS T (SS Sc O (unoM vs s)) κ' H' cs') (b : Bool) :
    RF T Sc x0 κ0 H0 O (EG.keep vs s b cs') κ' H' cs' σ ∧ (∀ x v, (b = true → EG.noL x = true) → RV T (SS Sc O (unoM vs s)) κ' H' x v → RV T (SS Sc O (EG.keep vs s b cs')) κ' H' x v) := by
  have R1 := (R.uno vs).step st rs'
  unfold EG.keep
  by_cases h : hasO vs s = true
  · rw [if_pos h]
    by_cases h2 : (b && cs'.all noLC) = true
    · rw [if_pos h2]
      rw [Bool.and_eq_true] at h2
      have up : ∀ a, SS Sc O s a → SS Sc O (unoM vs s) a ∨ ∃ l, H' a = some (.lst l) := by
        rintro a (z | ⟨i, hi, rfl⟩)
        · exact .inl (.inl z)
        · rcases on_case hi with ⟨xs, e⟩ | ⟨c, fs, e⟩
          · obtain ⟨ws, q, hh, r⟩ := R.own i xs e
            exact .inr ⟨ws, by rw [(stp_on R st hi).1]; exact hh⟩
          · refine .inl (.inr ⟨i, ?_, rfl⟩)
            unfold onAt
            rw [uno_get, e]
            rfl
      have hk : ∀ a ∈ κ', ¬ SS Sc O s a := by
        rintro a ha (z | ⟨i, hi, rfl⟩)
        · obtain ⟨_, _, _, _, _, n⟩ := rs'.at ha
          exact n (.inl z)
        · exact (stp_on R st hi).2 ha
      have rs2 := rs'.up up hk h2.2
      exact ⟨R.step st rs2, fun x v n r => RV.noL up x v (n h2.1) r⟩
    · rw [if_neg h2]
      exact ⟨R1, fun x v _ r => r⟩
  · rw [if_neg h]
    have e := hasO_not (Bool.eq_false_iff.mpr h)
    rw [e] at R1 ⊢
    exact ⟨R1, fun x v _ r => r⟩
end
end EG

-- EngV
/-! Engine V: statements, what they compute. -/
namespace EG
open PySem PySem.Spec L2 PyProof.Rows

mutual
/-- what a clause hands back: plain things, isinstance(e, ..) -/
inductive QE where
  | non | bl (b : Bool) | str (x : Str) | isx (z : Nat) | isxv (z : Nat) | tup (as : QA) | lst (as : QA) | var (i : Nat) | idx (as : QA)
inductive QA where
  | nil | cons (e : QE) (as : QA)
end
mutual
def qv (f : Nat → Bool) : QE → IV
  | .non => .non
  | .bl b => .bl b
  | .str x => .str x
  | .isx z => .bl (f z)
  | .isxv z => .bl (f z)
  | .tup as => .tup (qvs f as)
  | .lst as => .lst (qvs f as)
  | .var _ => .non
  | .idx _ => .non
def qvs (f : Nat → Bool) : QA → List IV
  | .nil => []
  | .cons e as => qv f e :: qvs f as
end
/-- where the first True stands -/
def ixT : List IV → Option Nat
  | .bl true :: _ => some 0
  | .bl false :: xs => (ixT xs).map (· + 1)
  | _ => none
mutual
/-- the same, where g tells the numbers among the names -/
def qx (f : Nat → Bool) (g : Nat → Option Int) : QE → Option IV
  | .non => some .non
  | .bl b => some (.bl b)
  | .str x => some (.str x)
  | .isx z => some (.bl (f z))
  | .isxv z => some (.bl (f z))
  | .tup as => (qxs f g as).map .tup
  | .lst as => (qxs f g as).map .lst
  | .var i => (g i).map .int
  | .idx as => (qxs f g as).bind fun xs => if xs.all (fun x => match x with | .bl _ => true | _ => false) then (ixT xs).map fun n => .int n else none
def qxs (f : Nat → Bool) (g : Nat → Option Int) : QA → Option (List IV)
  | .nil => some []
  | .cons e as => (qx f g e).bind fun x => (qxs f g as).map (x :: ·)
end
def inL : Option Nat → Nat → Bool
  | none, _ => true
  | some i, n => decide (i < n)
mutual
/-- a statement -/
inductive CS where
  | stuck
  | pass
  | brk
  | set (w : Bool) (i : Nat) (e : CE)
  | tup (is : List Nat) (e : CE)
  | par (is : List Nat) (as : CA)
  | fset (i c k : Nat) (e : CE)
  | cfld (o : CE) (c k : Nat) (e : CE)
  | cidx (o ix e : CE)
  | oidx (i : Nat) (ix e : CE)
  | app (i : Nat) (e : CE)
  | capp (o e : CE)
  | ext (i : Nat) (e : CE)
  | rev (i : Nat)
  | expr (e : CE)
  | ret (e : CE)
  | retN
  | ite (t : CE) (a b : CB)
  | for (tg : List Nat) (it : CI) (b : CB)
  | fro (i : Nat) (tg : List Nat) (it : CI) (b : CB)
  | whl (t : CE) (b : CB)
  | raise (c : Nat) (p : CP)
  | try (b : CB) (c : Nat) (nm : Option Nat) (q : QE)
  | tryI (b : CB) (c i : Nat)
  | tryM (b : CB) (hs : List (Nat × Option Nat × QE))
  | aug (i : Nat) (e : CE)
  | ctup (i c : Nat) (ks : List Nat) (e : CE)
  /-- x.f += n, x a cell -/
  | caug (i c k : Nat) (n : Int)
  | wth (c fe fx : Nat) (e : CE) (i : Nat) (b : CB)
  | pop (i j : Nat)
inductive CB where
  | nil
  | cons (s : CS) (b : CB)
end
/-- what a statement leaves -/
inductive RR where
  | nx (s : SE) (cs : Cs)
  | bk (s : SE) (cs : Cs)
  | rt (v : IV) (cs : Cs)
  | ex (c : Nat) (pl : List IV) (s : SE) (cs : Cs)
  | stuck
def RR.andThen (r : RR) (g : SE → Cs → RR) : RR := match r with
  | .nx s cs => g s cs
  | .bk s cs => .bk s cs
  | .rt v cs => .rt v cs
  | .ex c pl s cs => .ex c pl s cs
  | .stuck => .stuck
@[simp] theorem RR.andThen_nx (s : SE) (cs : Cs) (g : SE → Cs → RR) : (RR.nx s cs).andThen g = g s cs := rfl
@[simp] theorem RR.andThen_bk (s : SE) (cs : Cs) (g : SE → Cs → RR) : (RR.bk s cs).andThen g = .bk s cs := rfl
@[simp] theorem RR.andThen_rt (v : IV) (cs : Cs) (g : SE → Cs → RR) : (RR.rt v cs).andThen g = .rt v cs := rfl
@[simp] theorem RR.andThen_ex (c : Nat) (pl : List IV) (s : SE) (cs : Cs) (g : SE → Cs → RR) : (RR.ex c pl s cs).andThen g = .ex c pl s cs := rfl
@[simp] theorem RR.andThen_stuck (g : SE → Cs → RR) : RR.stuck.andThen g = .stuck := rfl
/-- an expression's part of a statement: vs its names, b what its value may bear -/
def RR.of {α : Type} (vs : List Nat) (b : α → Bool) (s : SE) (r : R α) (k : α → SE → Cs → RR) : RR := match r with
  | .ok v cs => k v (keep vs s (b v) cs) cs
  | .exc c pl cs => .ex c pl (keep vs s (noLs pl) cs) cs
  | .stuck => .stuck
@[simp] theorem RR.of_ok {α : Type} (vs : List Nat) (b : α → Bool) (s : SE) (v : α) (cs : Cs) (k : α → SE → Cs → RR) : RR.of vs b s (.ok v cs) k = k v (keep vs s (b v) cs) cs := rfl
@[simp] theorem RR.of_exc {α : Type} (vs : List Nat) (b : α → Bool) (s : SE) (c : Nat) (pl : List IV) (cs : Cs) (k : α → SE → Cs → RR) : RR.of vs b s (.exc c pl cs) k = .ex c pl (keep vs s (noLs pl) cs) cs := rfl
@[simp] theorem RR.of_stuck {α : Type} (vs : List Nat) (b : α → Bool) (s : SE) (k : α → SE → Cs → RR) : RR.of vs b s .stuck k = .stuck := rfl
def evK (J : Nat → Bool) (Φ : Fns) (e : CE) (s : SE) (cs : Cs) (k : IV → SE → Cs → RR) : RR := RR.of (varE e) (keepI (frE J e)) s (ev Φ false e (opnM (varE e) s) cs) k
def evT (Φ : Fns) (e : CE) (s : SE) (cs : Cs) (k : Bool → SE → Cs → RR) : RR := RR.of (varE e) (fun _ => true) s (ev Φ true e (opnM (varE e) s) cs) fun v s cs => match v with
  | .bl b => k b s cs
  | _ => .stuck
def evL (Φ : Fns) (as : CA) (s : SE) (cs : Cs) (k : List IV → SE → Cs → RR) : RR := RR.of (varA as) noLs s (evs Φ as (opnM (varA as) s) cs) k
/-- a new list is an own one -/
def newS (fr : Bool) : IV → SL
  | .lst xs => if fr then .own xs else .val (.lst xs)
  | x => .val x
def setVals (s : SE) : List Nat → List IV → Option SE
  | [], [] => some s
  | i :: is, x :: xs => setVals (s.set i (.val x)) is xs
  | _, _ => none
def setTS (s : SE) (tg : List Nat) (x : IV) : Option SE := match tg with
  | [i] => some (s.set i (.val x))
  | tg => (match x with
    | .tup xs => setVals s tg xs
    | _ => none)
def RR.ofO {α : Type} (o : Option α) (k : α → RR) : RR := match o with
  | some x => k x
  | none => .stuck
@[simp] theorem RR.ofO_some {α : Type} (x : α) (k : α → RR) : RR.ofO (some x) k = k x := rfl
@[simp] theorem RR.ofO_none {α : Type} (k : α → RR) : RR.ofO none k = .stuck := rfl
def ownOf (s : SE) (i : Nat) : Option (List IV) := match s[i]? with
  | some (.own xs) => some xs
  | _ => none
def slfOf (s : SE) (i : Nat) : Option (Nat × List IV) := match s[i]? with
  | some (.slf c fs) => some (c, fs)
  | _ => none
def intO : IV → Option Int
  | .int i => some i
  | _ => none
def lstO : IV → Option (List IV)
  | .lst xs => some xs
  | _ => none
def celL (cs : Cs) : IV → Option (Nat × List IV)
  | .cell n => (match cs[n]? with
    | some (.lst xs) => some (n, xs)
    | _ => none)
  | _ => none
def celI (cs : Cs) : IV → Option (Nat × Nat × List IV)
  | .cell n => (match cs[n]? with
    | some (.ins c fs) => some (n, c, fs)
    | _ => none)
  | _ => none
def isRng : CI → Bool
  | .rng1 _ => true
  | .rng2 _ _ => true
  | _ => false
/-- a loop's turns -/
def forGo (tg : List Nat) (body : SE → Cs → RR) : List IV → SE → Cs → RR
  | [], s, cs => .nx s cs
  | x :: xs, s, cs => RR.ofO (setTS s tg x) fun s => match body s cs with
    | .nx s cs => forGo tg body xs s cs
    | .bk s cs => .nx s cs
    | .rt v cs => .rt v cs
    | .ex c pl s cs => .ex c pl s cs
    | .stuck => .stuck
def whlGo (t : SE → Cs → (Bool → SE → Cs → RR) → RR) (body : SE → Cs → RR) : Nat → SE → Cs → RR
  | 0, _, _ => .stuck
  | n + 1, s, cs => t s cs fun b s cs => if b then (match body s cs with
    | .nx s cs => whlGo t body n s cs
    | .bk s cs => .nx s cs
    | .rt v cs => .rt v cs
    | .ex c pl s cs => .ex c pl s cs
    | .stuck => .stuck) else .nx s cs
def fuel : Nat := 1000000
/-! a loop over an own list that stays own: lent, and taken back -/
def noP (s : SE) : Bool := s.all fun x => match x with
  | .slf _ _ => false
  | .lnt _ => false
  | _ => true
def okL : SL → Bool
  | .no => true
  | .val x => noL x
  | .own ys => noLs ys
  | .slf _ _ => false
  | .lnt _ => false
def lntOf (s : SE) (i : Nat) : Option (List IV) := match s[i]? with
  | some (.lnt xs) => some xs
  | _ => none
def froT (i : Nat) : RR → RR
  | .nx s cs => RR.ofO (lntOf s i) fun xs => if (noLs xs && (s.set i .no).all okL && cs.all noLC) = true then .nx (s.set i (.own xs)) cs else .stuck
  | .bk _ _ => .stuck
  | .rt v cs => .rt v cs
  | .ex _ _ _ _ => .stuck
  | .stuck => .stuck
/-- behind a try's body -/
def tryD (Φ : Fns) (fr : Bool) (c : Nat) (nm : Option Nat) (q : QE) : RR → RR
  | .nx s cs => .nx s cs
  | .bk s cs => .bk s cs
  | .rt v cs => .rt v cs
  | .ex c' pl s cs => if (Φ.xok c' && pl.isEmpty && inL nm s.length) = true then (if Φ.xsub c' c then (if fr then .stuck else .rt (qv (Φ.xsub c') q) cs) else .ex c' pl s cs) else .stuck
  | .stuck => .stuck
/-- behind a try's body whose clause counts -/
def intOf (s : SE) (i : Nat) : Option Int := match s[i]? with
  | some (.val (.int n)) => some n
  | _ => none
def tryDI (Φ : Fns) (c i : Nat) : RR → RR
  | .nx s cs => .nx s cs
  | .bk s cs => .bk s cs
  | .rt v cs => .rt v cs
  | .ex c' pl s cs => if (Φ.xok c' && pl.isEmpty) = true then (if Φ.xsub c' c then RR.ofO (intOf s i) fun n => .nx (s.set i (.val (.int (n + 1)))) cs else .ex c' pl s cs) else .stuck
  | .stuck => .stuck
/-- behind a try's body with several clauses -/
def gNm (nm : Option Nat) (s : SE) (i : Nat) : Option Int := if nm = some i then none else intOf s i
def pickM (Φ : Fns) (c' : Nat) (s : SE) (cs : Cs) : List (Nat × Option Nat × QE) → RR
  | [] => .ex c' [] s cs
  | p :: r => if inL p.2.1 s.length = true then (if Φ.xsub c' p.1 = true then RR.ofO (qx (Φ.xsub c') (gNm p.2.1 s) p.2.2) fun v => .rt v cs else pickM Φ c' s cs r) else .stuck
def tryDM (Φ : Fns) (fr : Bool) (hs : List (Nat × Option Nat × QE)) : RR → RR
  | .nx s cs => .nx s cs
  | .bk s cs => .bk s cs
  | .rt v cs => .rt v cs
  | .ex c' pl s cs => if (Φ.xok c' && pl.isEmpty && !fr) = true then pickM Φ c' s cs hs else .stuck
  | .stuck => .stuck
/-- no own lists -/
def noO (s : SE) : Bool := s.all fun x => match x with
  | .no => true
  | .val _ => true
  | _ => false
/-- behind with's body: what __exit__ does -/
def wthX (Φ : Fns) (fx : Nat) (v : IV) : RR → RR
  | .rt u cs => (match (Φ.fn fx [v, .non, .non, .non] cs).noexc with
    | .ok _ cs => .rt u cs
    | _ => .stuck)
  | _ => .stuck
/-- the cell that a name holds -/
def celAt (s : SE) (cs : Cs) (i : Nat) : Option (Nat × Nat × List IV) := match s[i]? with
  | some (.val x) => celI cs x
  | _ => none
def intF (fs : List IV) (k : Nat) : Option Int := match fs[k]? with
  | some (.int a) => some a
  | _ => none
/-- several fields of it are set -/
def setFl (c i : Nat) : List Nat → List IV → SE → Cs → Option Cs
  | [], [], _, cs => some cs
  | k :: ks, x :: xs, s, cs => (match celAt s cs i with
    | some p => if p.2.1 = c ∧ k < p.2.2.length then setFl c i ks xs s (cs.set p.1 (.ins c (p.2.2.set k x))) else none
    | none => none)
  | _, _, _, _ => none
def lastO (xs : List IV) : Option IV := xs[xs.length - 1]?
mutual
def exS (J : Nat → Bool) (Φ : Fns) (fr : Bool) : CS → SE → Cs → RR
  | .stuck, _, _ => .stuck
  | .pass, s, cs => .nx s cs
  | .brk, s, cs => .bk s cs
  | .set w i e, s, cs => evK J Φ e s cs fun v s cs => .nx (s.set i (newS (w && frE J e) v)) cs
  | .tup is e, s, cs => evK J Φ e s cs fun v s cs => RR.ofO (seqI v) fun xs => RR.ofO (setVals s is xs) fun s => .nx s cs
  | .par is as, s, cs => evL Φ as s cs fun xs s cs => RR.ofO (setVals s is xs) fun s => .nx s cs
  | .fset i c k e, s, cs => evK J Φ e s cs fun v s cs => RR.ofO (slfOf s i) fun p => if p.1 = c ∧ p.2.length = k then .nx (s.set i (.slf c (p.2 ++ [v]))) cs else .stuck
  | .cfld o c k e, s, cs => evK J Φ e s cs fun v s cs => evK J Φ o s cs fun u s cs => RR.ofO (celI cs u) fun p => if p.2.1 = c ∧ k < p.2.2.length then .nx s (cs.set p.1 (.ins c (p.2.2.set k v))) else .stuck
  | .cidx o ix e, s, cs => evK J Φ e s cs fun v s cs => evK J Φ o s cs fun u s cs => evK J Φ ix s cs fun j s cs => RR.ofO (celL cs u) fun p => RR.ofO (intO j) fun j => RR.ofO (ixN p.2.length j) fun m => .nx s (cs.set p.1 (.lst (p.2.set m v)))
  | .oidx i ix e, s, cs => evK J Φ e s cs fun v s cs => RR.ofO (ownOf s i) fun _ => evK J Φ ix s cs fun j s cs => RR.ofO (ownOf s i) fun xs => RR.ofO (intO j) fun j => RR.ofO (ixN xs.length j) fun m => .nx (s.set i (.own (xs.set m v))) cs
  | .app i e, s, cs => RR.ofO (ownOf s i) fun _ => evK J Φ e s cs fun v s cs => RR.ofO (ownOf s i) fun xs => if xs.length < 1000000 then .nx (s.set i (.own (xs ++ [v]))) cs else .stuck
  | .capp o e, s, cs => evK J Φ o s cs fun u s cs => RR.ofO (celL cs u) fun _ => evK J Φ e s cs fun v s cs => RR.ofO (celL cs u) fun p => if p.2.length < 1000000 then .nx s (cs.set p.1 (.lst (p.2 ++ [v]))) else .stuck
  | .ext i e, s, cs => RR.ofO (ownOf s i) fun _ => evK J Φ e s cs fun v s cs => RR.ofO (ownOf s i) fun xs => RR.ofO (lstO v) fun ys => if xs.length + ys.length < 1000000 then .nx (s.set i (.own (xs ++ ys))) cs else .stuck
  | .rev i, s, cs => RR.ofO (ownOf s i) fun xs => .nx (s.set i (.own xs.reverse)) cs
  | .expr e, s, cs => evK J Φ e s cs fun _ s cs => .nx s cs
  | .ret e, s, cs => if fr then (match e with
      | .var i => RR.ofO (ownOf s i) fun xs => .rt (.lst xs) cs
      | e => if frE J e then evK J Φ e s cs fun v _ cs => .rt v cs else .stuck) else evK J Φ e s cs fun v _ cs => .rt v cs
  | .retN, s, cs => if fr then .stuck else .rt .non cs
  | .ite t a b, s, cs => evT Φ t s cs fun k s cs => if k then exB J Φ fr a s cs else exB J Φ fr b s cs
  | .for tg it b, s, cs => (match evi Φ it (opnM (varI it) s) cs with
      | .ok xs cs => forGo tg (exB J Φ fr b) xs (if isRng it then keep (varI it) s true cs else unoM (varI it) s) cs
      | .exc c pl cs => .ex c pl (keep (varI it) s (noLs pl) cs) cs
      | .stuck => .stuck)
  | .fro i tg it b, s, cs => RR.ofO (ownOf s i) fun xs => if noP s = true then froT i (match evi Φ it (opnM (varI it) (s.set i (.lnt xs))) cs with
      | .ok ys cs => forGo tg (exB J Φ fr b) ys (if isRng it then keep (varI it) (s.set i (.lnt xs)) true cs else unoM (varI it) (s.set i (.lnt xs))) cs
      | .exc c pl cs => .ex c pl (keep (varI it) (s.set i (.lnt xs)) (noLs pl) cs) cs
      | .stuck => .stuck) else .stuck
  | .whl t b, s, cs => whlGo (evT Φ t) (exB J Φ fr b) fuel s cs
  | .raise c p, s, cs => (match p with
      | .no => .ex c [] s cs
      | .some _ => .stuck)
  | .try b c nm q, s, cs => tryD Φ fr c nm q (exB J Φ fr b s cs)
  | .tryI b c i, s, cs => tryDI Φ c i (exB J Φ fr b s cs)
  | .tryM b hs, s, cs => tryDM Φ fr hs (exB J Φ fr b s cs)
  | .aug i e, s, cs => RR.ofO (intOf s i) fun n => evK J Φ e s cs fun v s cs => RR.ofO (intO v) fun m => .nx (s.set i (.val (.int (n + m)))) cs
  | .caug i c k n, s, cs => RR.ofO (celAt s cs i) fun p => if p.2.1 = c then RR.ofO (intF p.2.2 k) fun a => .nx s (cs.set p.1 (.ins c (p.2.2.set k (.int (a + n))))) else .stuck
  | .ctup i c ks e, s, cs => evK J Φ e s cs fun v s cs => RR.ofO (tupO v) fun xs => RR.ofO (setFl c i ks xs s cs) fun cs => .nx s cs
  | .wth c fe fx e i b, s, cs => evK J Φ e s cs fun v s cs => if (isOf c v cs && noO s && !fr) = true then (match (Φ.fn fe [v] cs).noexc with
      | .ok y cs => wthX Φ fx v (exB J Φ fr b (s.set i (.val y)) cs)
      | _ => .stuck) else .stuck
  | .pop i j, s, cs => RR.ofO (ownOf s j) fun xs => RR.ofO (lastO xs) fun y => .nx ((s.set j (.own xs.dropLast)).set i (.val y)) cs
def exB (J : Nat → Bool) (Φ : Fns) (fr : Bool) : CB → SE → Cs → RR
  | .nil, s, cs => .nx s cs
  | .cons a b, s, cs => (exS J Φ fr a s cs).andThen (exB J Φ fr b)
end

/-! ### readings -/
section
variable {T : CT} {W : WX} {x0 : Addr} {Sc : Addr → Prop} {κ0 κ κ' : List Addr} {H0 H H' : Hp} {fr : Bool} {D : Ends} {O : Nat → Addr} {s : SE} {cs cs' : Cs} {σ : L2.St}
/-- what is wanted behind a statement -/
def Fin (T : CT) (W : WX) (Sc : Addr → Prop) (x0 : Addr) (κ0 : List Addr) (H0 : Hp) (fr : Bool) (D : Ends) : RR → Prop
  | .nx s cs => ∀ O κ H σ, RF T Sc x0 κ0 H0 O s κ H cs σ → D.nx σ H
  | .bk s cs => ∀ O κ H σ, RF T Sc x0 κ0 H0 O s κ H cs σ → D.bk σ H
  | .rt v cs => ∀ κ H u, Stp κ0 H0 κ H → RS T Sc κ H cs → RV T Sc κ H v u → (fr = true → FrL T Sc H0 κ H v u cs) → D.rt u H
  | .ex c pl s cs => ∀ O κ H σ d, RF T Sc x0 κ0 H0 O s κ H cs σ → ExcP T (SS Sc O s) κ H pl d → W (.ref (T.cls c)) d σ H
  | .stuck => False
def tS (T : CT) (W : WX) (fr : Bool) (f : SE → Cs → RR) : TS := fun D σ H => ∃ Sc x0 κ0 H0 O s κ cs, RF T Sc x0 κ0 H0 O s κ H cs σ ∧ Fin T W Sc x0 κ0 H0 fr D (f s cs)
/-- an expression of a statement is run: its value, then the rest -/
theorem RF.run {α : Type} {vs : List Nat} {b : α → Bool} {r : R α} {k : α → SE → Cs → RR} (R : RF T Sc x0 κ0 H0 O s κ H cs σ) (w : Fin T W Sc x0 κ0 H0 fr D (RR.of vs b s r k)) :
    Wk T (SS Sc O (unoM vs s)) (fun c d H' => W c d σ H') κ H r fun v cs' κ' H' => Stp κ H κ' H' ∧ RS T (SS Sc O (unoM vs s)) κ' H' cs' ∧ Fin T W Sc x0 κ0 H0 fr D (k v (EG.keep vs s (b v) cs') cs') := by
  cases r with
  | ok v cs1 => exact fun κ' H' st rs => ⟨st, rs, w⟩
  | exc c pl cs1 =>
    intro κ' H' d st rs x
    obtain ⟨R1, up⟩ := R.keep st rs (noLs pl)
    refine w O κ' H' σ d R1 ?_
    rcases x with x | ⟨y, v, f, dd, h1, h2, h3, h4⟩
    · exact .inl x
    · subst h1
      exact .inr ⟨y, v, f, dd, rfl, h2, h3, up y v (fun z => by
        unfold noLs at z
        rw [Bool.and_eq_true] at z
        exact z.1) h4⟩
  | stuck => exact w
theorem tE.run {J : Nat → Bool} {Φ : Fns} {e : CE} {k : IV → SE → Cs → RR} {Z : VK} (R : RF T Sc x0 κ0 H0 O s κ H cs σ) (w : Fin T W Sc x0 κ0 H0 fr D (evK J Φ e s cs k))
    (h : ∀ v H1 x cs1 κ1, Stp κ H κ1 H1 → RF T Sc x0 κ0 H0 O (EG.keep (varE e) s (keepI (frE J e) x) cs1) κ1 H1 cs1 σ → RV T (SS Sc O (unoM (varE e) s)) κ1 H1 x v → (frE J e = true → FrL T (SS Sc O (unoM (varE e) s)) H κ1 H1 x v cs1) →
      (frE J e = false → RV T (SS Sc O (EG.keep (varE e) s (keepI (frE J e) x) cs1)) κ1 H1 x v) → Fin T W Sc x0 κ0 H0 fr D (k x (EG.keep (varE e) s (keepI (frE J e) x) cs1) cs1) → Z v H1) : tE T W (frE J e) (ev Φ false e) σ H Z := by
  obtain ⟨rs, re⟩ := R.opn (varE e)
  refine ⟨_, κ, _, cs, rs, re, ?_⟩
  have w2 := R.run (b := keepI (frE J e)) w
  revert w2
  cases ev Φ false e (opnM (varE e) s) cs with
  | ok x cs1 =>
    intro w2 κ1 H1 v st1 rs1 rv1 hf
    obtain ⟨_, _, w3⟩ := w2 κ1 H1 st1 rs1
    obtain ⟨R1, up⟩ := R.keep st1 rs1 (keepI (frE J e) x)
    refine h v H1 x cs1 κ1 st1 R1 rv1 hf (fun hfr => up x v (fun z => ?_) rv1) w3
    rw [hfr] at z
    cases x <;> first | exact z | (unfold keepI at z; cases z)
  | exc c pl cs1 => exact fun w2 => w2
  | stuck => exact fun w2 => w2
theorem tT.run {Φ : Fns} {e : CE} {k : Bool → SE → Cs → RR} {Z : Bool → Hp → Prop} (R : RF T Sc x0 κ0 H0 O s κ H cs σ) (w : Fin T W Sc x0 κ0 H0 fr D (evT Φ e s cs k))
    (h : ∀ b H1 cs1 κ1, RF T Sc x0 κ0 H0 O (EG.keep (varE e) s true cs1) κ1 H1 cs1 σ → Fin T W Sc x0 κ0 H0 fr D (k b (EG.keep (varE e) s true cs1) cs1) → Z b H1) : tT T W (ev Φ true e) σ H Z := by
  obtain ⟨rs, re⟩ := R.opn (varE e)
  refine ⟨_, κ, _, cs, rs, re, ?_⟩
  have w2 := R.run (b := fun _ => true) w
  have hb := isB_ev (Φ := Φ) e (opnM (varE e) s) cs
  revert w2 hb
  cases ev Φ true e (opnM (varE e) s) cs with
  | ok x cs1 =>
    intro w2 hb κ1 H1 v st1 rs1 rv1 _
    obtain ⟨b, rfl⟩ := hb x cs1 rfl
    obtain ⟨_, _, w3⟩ := w2 κ1 H1 st1 rs1
    obtain ⟨R1, up⟩ := R.keep st1 rs1 true
    unfold RV at rv1
    exact ⟨b, rv1, h b H1 cs1 κ1 R1 w3⟩
  | exc c pl cs1 => exact fun w2 _ => w2
  | stuck => exact fun w2 _ => w2
theorem tA.run {Φ : Fns} {as : CA} {k : List IV → SE → Cs → RR} {Z : List V → Hp → Prop} (R : RF T Sc x0 κ0 H0 O s κ H cs σ) (w : Fin T W Sc x0 κ0 H0 fr D (evL Φ as s cs k))
    (h : ∀ vs H1 xs cs1 κ1, RF T Sc x0 κ0 H0 O (EG.keep (varA as) s (noLs xs) cs1) κ1 H1 cs1 σ → RVs T (SS Sc O (EG.keep (varA as) s (noLs xs) cs1)) κ1 H1 xs vs → xs.length = caLen as → Fin T W Sc x0 κ0 H0 fr D (k xs (EG.keep (varA as) s (noLs xs) cs1) cs1) → Z vs H1) : tA T W (evs Φ as) σ H Z := by
  obtain ⟨rs, re⟩ := R.opn (varA as)
  refine ⟨_, κ, _, cs, rs, re, ?_⟩
  have w2 := R.run (b := noLs) w
  have hl := evs_len (Φ := Φ) as (opnM (varA as) s) cs
  revert w2 hl
  cases evs Φ as (opnM (varA as) s) cs with
  | ok xs cs1 =>
    intro w2 hl κ1 H1 st1 rs1 vs rvs
    obtain ⟨_, _, w3⟩ := w2 κ1 H1 st1 rs1
    obtain ⟨R1, up⟩ := R.keep st1 rs1 (noLs xs)
    refine h vs H1 xs cs1 κ1 R1 ?_ (hl _ _ rfl) w3
    clear w3 w2 hl
    have gen : ∀ (ys : List IV) (ws : List V), (noLs xs = true → noLs ys = true) → RVs T (SS Sc O (unoM (varA as) s)) κ1 H1 ys ws → RVs T (SS Sc O (EG.keep (varA as) s (noLs xs) cs1)) κ1 H1 ys ws := by
      intro ys
      induction ys with
      | nil => intro ws _ r; unfold RVs at r ⊢; exact r
      | cons y ys ih =>
        intro ws n r
        unfold RVs at r ⊢
        obtain ⟨v, t, e, q, r⟩ := r
        have n2 : noLs xs = true → noL y = true ∧ noLs ys = true := fun z => by
          have := n z
          unfold noLs at this
          rwa [Bool.and_eq_true] at this
        exact ⟨v, t, e, up y v (fun z => (n2 z).1) q, ih t (fun z => (n2 z).2) r⟩
    exact gen xs vs id rvs
  | exc c pl cs1 => exact fun w2 _ => w2
  | stuck => exact fun w2 _ => w2
end
end EG

-- EngW
/-! Engine W: statements, one by one. -/
namespace EG
open PySem PySem.Spec L2 PyProof.Rows
section
variable {T : CT} {Φ : Fns} {lv : Nat} {K : CKx} {W : WX} {X : Cx} {x0 : Addr} {Sc : Addr → Prop} {κ0 κ κ' : List Addr} {H0 H H' : Hp} {fr : Bool} {D : Ends} {O : Nat → Addr} {s : SE} {cs cs' : Cs} {σ : L2.St} {i : Nat} {x : IV} {v : V} {sc : Scope} {vs : List Nat}
theorem set_on {y : SL} {j : Nat} (hy : isOn y = false) (h : onAt (s.set i y) j = true) : j ≠ i ∧ onAt s j = true := by
  unfold onAt at h ⊢
  by_cases hj : i = j
  · subst hj
    by_cases hl : i < s.length
    · rw [List.getElem?_set_self hl] at h
      rw [show isOn y = true from h] at hy
      cases hy
    · rw [List.getElem?_eq_none (by simpa using hl)] at h; cases h
  · rw [List.getElem?_set_ne hj] at h
    exact ⟨fun z => hj z.symm, h⟩
theorem set_on' {y : SL} {j : Nat} (hj : j ≠ i) : onAt (s.set i y) j = onAt s j := by
  unfold onAt
  rw [List.getElem?_set_ne fun z => hj z.symm]
theorem ss_set {y : SL} {a : Addr} (hy : isOn y = false) (h : SS Sc O (s.set i y) a) : SS Sc O s a := h.imp id fun ⟨j, hj, e⟩ => ⟨j, (set_on hy hj).2, e⟩
theorem get_set {y z : SL} {j : Nat} (h : (s.set i y)[j]? = some z) : (j = i ∧ y = z ∧ i < s.length) ∨ (j ≠ i ∧ s[j]? = some z) := by
  by_cases hj : i = j
  · subst hj
    by_cases hl : i < s.length
    · rw [List.getElem?_set_self hl] at h
      exact .inl ⟨rfl, Option.some.inj h, hl⟩
    · rw [List.getElem?_eq_none (by simpa using hl)] at h; cases h
  · rw [List.getElem?_set_ne hj] at h
    exact .inr ⟨fun z => hj z.symm, h⟩
/-- a value into a slot -/
theorem RF.setv (R : RF T Sc x0 κ0 H0 O s κ H cs σ) (rv : RV T (SS Sc O s) κ H x v) : RF T Sc x0 κ0 H0 O (s.set i (.val x)) κ H cs (σ.set i (some v)) where
  st := R.st
  d0 := R.d0
  rs := R.rs.sub fun a h => ss_set rfl h
  own := fun j xs e => by
    rcases get_set e with ⟨_, z, _⟩ | ⟨hj, e⟩
    · cases z
    · obtain ⟨ws, q, h, r⟩ := R.own j xs e
      exact ⟨ws, by rw [List.getElem?_set_ne fun z => hj z.symm]; exact q, h, (Mv.anti fun a h => ss_set rfl h).rvs _ _ r⟩
  slf := fun j c fs e => by
    rcases get_set e with ⟨_, z, _⟩ | ⟨hj, e⟩
    · cases z
    · obtain ⟨dx, ws, q, h, l, r⟩ := R.slf j c fs e
      exact ⟨dx, ws, by rw [List.getElem?_set_ne fun z => hj z.symm]; exact q, h, l, (Mv.anti fun a h => ss_set rfl h).rvs _ _ r⟩
  fr := fun j h => R.fr j (set_on rfl h).2
  val := fun j y e => by
    rcases get_set e with ⟨rfl, z, hi⟩ | ⟨hj, e⟩
    · cases z
      exact ⟨v, List.getElem?_set_self (R.len ▸ hi), (Mv.anti fun a h => ss_set rfl h).rv _ _ rv⟩
    · obtain ⟨u, q, r⟩ := R.val j y e
      exact ⟨u, by rw [List.getElem?_set_ne fun z => hj z.symm]; exact q, (Mv.anti fun a h => ss_set rfl h).rv _ _ r⟩
  inj := fun j k h1 h2 => R.inj j k (set_on rfl h1).2 (set_on rfl h2).2
  len := by rw [List.length_set, List.length_set]; exact R.len
  sx := fun j c fs e => by
    rcases get_set e with ⟨_, z, _⟩ | ⟨hj, e⟩
    · cases z
    · exact R.sx j c fs e
  lnt := fun j ys e => by
    rcases get_set e with ⟨_, z, _⟩ | ⟨hj, e⟩
    · cases z
    · obtain ⟨q, r⟩ := R.lnt j ys e
      exact ⟨by rw [List.getElem?_set_ne fun z => hj z.symm]; exact q, (Mv.anti fun a h => ss_set rfl h).rv _ _ r⟩
/-- where a new list stands -/
def atO (O : Nat → Addr) (i : Nat) (a : Addr) : Nat → Addr := fun j => if j = i then a else O j
theorem ss_seto {xs : List IV} {a b : Addr} (h : SS Sc (atO O i a) (s.set i (.own xs)) b) : SS Sc O s b ∨ b = a := by
  rcases h with h | ⟨j, hj, e⟩
  · exact .inl (.inl h)
  · by_cases z : j = i
    · subst z
      right
      rw [e]; unfold atO; rw [if_pos rfl]
    · left; right
      rw [set_on' z] at hj
      refine ⟨j, hj, ?_⟩
      rw [e]; unfold atO; rw [if_neg z]
/-- a new list into a slot -/
theorem RF.seto {xs : List IV} {ws : List V} {a : Addr} (R : RF T Sc x0 κ0 H0 O s κ H cs σ) (st : Stp κ H κ' H') (hn : H a = none) (ha : H' a = some (.lst ws)) (hk : a ∉ κ') (rs' : RS T (fun b => SS Sc O s b ∨ b = a) κ' H' cs') (rv : RVs T (fun b => SS Sc O s b ∨ b = a) κ' H' xs ws) :
    RF T Sc x0 κ0 H0 (atO O i a) (s.set i (.own xs)) κ' H' cs' (σ.set i (some (.ref a))) := by
  have mv : Mv T (SS Sc O s) κ H (SS Sc (atO O i a) (s.set i (.own xs))) κ' H' := ((Mv.add hn).trans st.mv).trans (Mv.anti fun b h => ss_seto h)
  have an : Mv T (fun b => SS Sc O s b ∨ b = a) κ' H' (SS Sc (atO O i a) (s.set i (.own xs))) κ' H' := Mv.anti fun b h => ss_seto h
  have oj : ∀ j, j ≠ i → atO O i a j = O j := fun j h => by unfold atO; rw [if_neg h]
  have oi : atO O i a i = a := by unfold atO; rw [if_pos rfl]
  refine ⟨R.st.trans st, R.d0, rs'.sub fun b h => ss_seto h, fun j ys e => ?_, fun j c fs e => ?_, fun j h => ?_, fun j y e => ?_, fun j k h1 h2 e => ?_, by rw [List.length_set, List.length_set]; exact R.len, fun j c fs e => ?_, fun j ys e => ?_⟩
  · rcases get_set e with ⟨rfl, z, hi⟩ | ⟨hj, e⟩
    · cases z
      exact ⟨ws, by rw [oi]; exact List.getElem?_set_self (R.len ▸ hi), by rw [oi]; exact ha, an.rvs _ _ rv⟩
    · obtain ⟨us, q, h, r⟩ := R.own j ys e
      rw [oj j hj]
      exact ⟨us, by rw [List.getElem?_set_ne fun z => hj z.symm]; exact q, by rw [(stp_on R st (onAt_own e)).1]; exact h, mv.rvs _ _ r⟩
  · rcases get_set e with ⟨_, z, _⟩ | ⟨hj, e⟩
    · cases z
    · obtain ⟨dx, us, q, h, l, r⟩ := R.slf j c fs e
      rw [oj j hj]
      exact ⟨dx, us, by rw [List.getElem?_set_ne fun z => hj z.symm]; exact q, by rw [(stp_on R st (onAt_slf e)).1]; exact h, l, mv.rvs _ _ r⟩
  · by_cases z : j = i
    · subst z
      rw [oi]
      exact ⟨R.st.dom a hn, hk⟩
    · rw [oj j z]
      rw [set_on' z] at h
      exact ⟨(R.fr j h).1, (stp_on R st h).2⟩
  · rcases get_set e with ⟨rfl, z, hi⟩ | ⟨hj, e⟩
    · cases z
    · obtain ⟨u, q, r⟩ := R.val j y e
      exact ⟨u, by rw [List.getElem?_set_ne fun z => hj z.symm]; exact q, mv.rv _ _ r⟩
  · by_cases zj : j = i
    · subst zj
      by_cases zk : k = j
      · exact zk.symm
      · rw [set_on' zk] at h2
        rw [oi, oj k zk] at e
        exact absurd hn (e ▸ R.live h2)
    · rw [set_on' zj] at h1
      by_cases zk : k = i
      · subst zk
        rw [oi, oj j zj] at e
        exact absurd hn (e ▸ R.live h1)
      · rw [set_on' zk] at h2
        rw [oj j zj, oj k zk] at e
        exact R.inj j k h1 h2 e
  · rcases get_set e with ⟨_, z, _⟩ | ⟨hj, e⟩
    · cases z
    · rw [oj j hj]
      exact R.sx j c fs e
  · rcases get_set e with ⟨_, z, _⟩ | ⟨hj, e⟩
    · cases z
    · obtain ⟨q, r⟩ := R.lnt j ys e
      exact ⟨by rw [List.getElem?_set_ne fun z => hj z.symm]; exact q, mv.rv _ _ r⟩
/-- a new list that an expression made -/
theorem RF.keepF (R : RF T Sc x0 κ0 H0 O s κ H cs σ) (st : Stp κ H κ' H') (hf : FrL T (SS Sc O (unoM vs s)) H κ' H' x v cs') :
    ∃ a xs, v = .ref a ∧ x = .lst xs ∧ RF T Sc x0 κ0 H0 (atO O i a) ((EG.keep vs s (keepI true x) cs').set i (.own xs)) κ' H' cs' (σ.set i (some (.ref a))) := by
  obtain ⟨a, xs, ws, rfl, rfl, ha, hn, nS, nk, rv, rs⟩ := hf
  refine ⟨a, xs, rfl, rfl, ?_⟩
  unfold EG.keep
  by_cases h : hasO vs s = true
  · rw [if_pos h]
    by_cases h2 : (keepI true (.lst xs) && cs'.all noLC) = true
    · rw [if_pos h2]
      rw [Bool.and_eq_true] at h2
      have nx : noLs xs = true := by
        exact h2.1
      have up : ∀ b, (SS Sc O s b ∨ b = a) → (SS Sc O (unoM vs s) b ∨ b = a) ∨ ∃ l, H' b = some (.lst l) := by
        rintro b ((z | ⟨j, hj, rfl⟩) | z)
        · exact .inl (.inl (.inl z))
        · rcases on_case hj with ⟨ys, e⟩ | ⟨c, fs, e⟩
          · obtain ⟨us, q, hh, r⟩ := R.own j ys e
            exact .inr ⟨us, by rw [(stp_on R st hj).1]; exact hh⟩
          · refine .inl (.inl (.inr ⟨j, ?_, rfl⟩))
            unfold onAt
            rw [uno_get, e]
            rfl
        · exact .inl (.inr z)
      have hk : ∀ b ∈ κ', ¬ (SS Sc O s b ∨ b = a) := by
        rintro b hb ((z | ⟨j, hj, rfl⟩) | rfl)
        · obtain ⟨_, _, _, _, _, n⟩ := rs.at hb
          exact n (.inl (.inl z))
        · exact (stp_on R st hj).2 hb
        · exact nk hb
      exact R.seto st hn ha nk (rs.up up hk h2.2) (RVs.noL up _ _ nx rv)
    · rw [if_neg h2]
      exact (R.uno vs).seto st hn ha nk rs rv
  · rw [if_neg h]
    have e := hasO_not (Bool.eq_false_iff.mpr h)
    rw [e] at rs rv
    exact R.seto st hn ha nk rs rv
/-- an own list is written -/
theorem RF.wro {xs ys : List IV} {us : List V} (R : RF T Sc x0 κ0 H0 O s κ H cs σ) (e : s[i]? = some (.own xs)) (rv : RVs T (SS Sc O s) κ H ys us) : RF T Sc x0 κ0 H0 O (s.set i (.own ys)) κ (upd H (O i) (.lst us)) cs σ := by
  have hon := onAt_own e
  obtain ⟨ws, q, ha, r⟩ := R.own i xs e
  have ns : ¬ Sealed (.lst ws) := fun z => z
  have hl : i < s.length := (List.getElem?_eq_some_iff.mp e).1
  have son : ∀ j, onAt (s.set i (.own ys)) j = onAt s j := fun j => by
    by_cases z : j = i
    · subst z
      unfold onAt
      rw [List.getElem?_set_self hl, e]
      rfl
    · exact set_on' z
  have sseq : SS Sc O (s.set i (.own ys)) = SS Sc O s := by
    funext a
    unfold SS
    congr 1
    simp only [son]
  have mv : Mv T (SS Sc O s) κ H (SS Sc O s) κ (upd H (O i) (.lst us)) := Mv.wr ha ns (.inl (.inr ⟨i, hon, rfl⟩))
  refine ⟨?_, R.d0, by rw [sseq]; exact R.rs.wr ha ns (.inr ⟨i, hon, rfl⟩), fun j zs e2 => ?_, fun j c fs e2 => ?_, fun j h => ?_, fun j y e2 => ?_, fun j k h1 h2 => ?_, by rw [List.length_set]; exact R.len, fun j c fs e2 => ?_, fun j ys e2 => ?_⟩
  · exact R.st.wr (R.fr i hon).1 (by rw [ha]; intro z; cases z)
  · rw [sseq]
    rcases get_set e2 with ⟨rfl, z, hi⟩ | ⟨hj, e2⟩
    · cases z
      exact ⟨us, q, upd_same, mv.rvs _ _ rv⟩
    · obtain ⟨vs', q', h', r'⟩ := R.own j zs e2
      exact ⟨vs', q', by rw [upd_ne fun z => hj (R.inj j i (onAt_own e2) hon z)]; exact h', mv.rvs _ _ r'⟩
  · rw [sseq]
    rcases get_set e2 with ⟨rfl, z, hi⟩ | ⟨hj, e2⟩
    · cases z
    · obtain ⟨dx, vs', q', h', l, r'⟩ := R.slf j c fs e2
      exact ⟨dx, vs', q', by rw [upd_ne fun z => hj (R.inj j i (onAt_slf e2) hon z)]; exact h', l, mv.rvs _ _ r'⟩
  · rw [son] at h
    exact R.fr j h
  · rw [sseq]
    rcases get_set e2 with ⟨rfl, z, hi⟩ | ⟨hj, e2⟩
    · cases z
    · obtain ⟨u, q', r'⟩ := R.val j y e2
      exact ⟨u, q', mv.rv _ _ r'⟩
  · rw [son] at h1 h2
    exact R.inj j k h1 h2
  · rcases get_set e2 with ⟨_, z, _⟩ | ⟨hj, e2⟩
    · cases z
    · exact R.sx j c fs e2
  · rw [sseq]
    rcases get_set e2 with ⟨_, z, _⟩ | ⟨hj, e2⟩
    · cases z
    · obtain ⟨q', r'⟩ := R.lnt j ys e2
      exact ⟨q', mv.rv _ _ r'⟩
end
end EG

-- EngX
/-! Engine X: the rules of statements. -/
namespace EG
open PySem PySem.Spec L2 PyProof.Rows
structure SxOk (T : CT) (Φ : Fns) (lv : Nat) (K : CKx) (sc : Scope) (X : Cx) (W : WX) : Prop where
  O : CxOk T Φ K.J lv K.N sc X
  tk : Takes X W
  hp : PassesOwn (model X.prog X.w) X.A X.env X.xe
  fn : ∀ x, X.fn x = true
  hs : X.stack = X.env :: X.outer
  hf : X.env.frame = some X.env.locals
  xm : ∀ c ∈ K.exs, X.mg (K.J.cnm c) = some (.ref (T.cls c))
  xv : ∀ c, Φ.xok c = true → X.mg "ValueError" = none ∧ PySem.W.kitOne X.K (.ref (T.cls c)) (.type "ValueError") = some true
  xc : ∀ c, Φ.xok c = true → ExcC X.K (T.cls c) ∧ ∀ z ∈ K.exs, PySem.W.exmOne X.K (.ref (T.cls c)) (.ref (T.cls z)) = some (Φ.xsub c z) ∧ PySem.W.kitOne X.K (.ref (T.cls c)) (.ref (T.cls z)) = some (Φ.xsub c z)
  ex : ∀ c ∈ K.exs, (∃ (B newId initId : String) (bmB : List Value), ExcBaseFacts B newId initId bmB ∧ PySem.W.excIn X.K (T.cls c) bmB newId = true) ∧ X.mg (K.J.cnm c) = some (.ref (T.cls c)) ∧ PySem.W.keepIn X.K (.ref (T.cls c)) = true ∧ Raises X (.ref (T.cls c))
section
variable {T : CT} {Φ : Fns} {lv : Nat} {K : CKx} {W : WX} {X : Cx} {x0 : Addr} {Sc : Addr → Prop} {κ0 κ κ' : List Addr} {H0 H H' : Hp} {fr : Bool} {D : Ends} {O : Nat → Addr} {s : SE} {cs cs' : Cs} {σ : L2.St} {i j k : Nat} {x y z : Str} {v : V} {sc : Scope} {vs : List Nat} {st : Stmt} {e ix o a b c : CE} {ee oe xe : Expr} {pos px : Pos} {f g : SE → Cs → RR} {rest : List Stmt}
theorem PS.by' {t : TS} (h : PS X st t) (q : ∀ D σ H, σ.length = X.N.length → tS T W fr f D σ H → t D σ H) : PS X st (tS T W fr f) := ⟨fun pins s σ H D I w => h.run pins s σ H D I (q D σ H I.len w)⟩
theorem sr_stuck (hf : ∀ s cs, f s cs = .stuck) : PS X st (tS T W fr f) := PS.by' ps_never fun D σ H _ ⟨Sc, x0, κ0, H0, O, s, κ, cs, R, w⟩ => by rw [hf] at w; exact w.elim
theorem sr_pass (hf : ∀ s cs, f s cs = .nx s cs) : PS X (.Pass pos) (tS T W fr f) := PS.by' ps_pass fun D σ H _ ⟨Sc, x0, κ0, H0, O, s, κ, cs, R, w⟩ => by rw [hf] at w; exact w O κ H σ R
theorem sr_brk (hf : ∀ s cs, f s cs = .bk s cs) : PS X (.Break pos) (tS T W fr f) := PS.by' ps_break fun D σ H _ ⟨Sc, x0, κ0, H0, O, s, κ, cs, R, w⟩ => by rw [hf] at w; exact w O κ H σ R
theorem sss_nil (hf : ∀ s cs, f s cs = .nx s cs) : PSs X [] (tS T W fr f) := ⟨fun pins s σ H D I ⟨Sc, x0, κ0, H0, O, se, κ, cs, R, w⟩ => by rw [hf] at w; exact pss_nil.run pins s σ H D I (w O κ H σ R)⟩
theorem Fin.andThen {r : RR} (w : Fin T W Sc x0 κ0 H0 fr D (r.andThen g)) : Fin T W Sc x0 κ0 H0 fr { D with nx := fun σ H => tS T W fr g D σ H } r := by
  cases r with
  | nx s cs => exact fun O κ H σ R => ⟨Sc, x0, κ0, H0, O, s, κ, cs, R, w⟩
  | bk s cs => exact w
  | rt v cs => exact w
  | ex c pl s cs => exact w
  | stuck => exact w
theorem sss_cons (h1 : PS X st (tS T W fr f)) (h2 : PSs X rest (tS T W fr g)) : PSs X (st :: rest) (tS T W fr fun s cs => (f s cs).andThen g) :=
  ⟨fun pins s σ H D I ⟨Sc, x0, κ0, H0, O, se, κ, cs, R, w⟩ => (pss_cons h1 h2).run pins s σ H D I ⟨Sc, x0, κ0, H0, O, se, κ, cs, R, w.andThen⟩⟩
theorem len_N {N : List Str} (hi : N[i]? = some x) (h : σ.length = N.length) : i < σ.length := by
  rw [h]; exact (List.getElem?_eq_some_iff.mp hi).1
/-- several values into slots -/
theorem RF.vals : ∀ {is : List Nat} {xs : List IV} {ws : List V} {s s' : SE} {σ : L2.St}, RF T Sc x0 κ0 H0 O s κ H cs σ → RVs T (SS Sc O s) κ H xs ws → setVals s is xs = some s' → ∀ {Z : L2.St → Hp → Prop}, (∀ σ', RF T Sc x0 κ0 H0 O s' κ H cs σ' → Z σ' H) → gNames is ws σ H Z
  | [], [], ws, s, s', σ, R, r, e, Z, q => by
    unfold RVs at r
    cases e
    exact ⟨r, q σ R⟩
  | [], _ :: _, _, _, _, _, _, _, e, _, _ => by cases e
  | _ :: _, [], _, _, _, _, _, _, e, _, _ => by cases e
  | i :: is, x :: xs, ws, s, s', σ, R, r, e, Z, q => by
    unfold RVs at r
    obtain ⟨v, t, rfl, r1, r2⟩ := r
    refine ⟨v, t, rfl, ?_⟩
    refine RF.vals (is := is) (R.setv r1) ((Mv.anti fun a h => ss_set rfl h).rvs _ _ r2) e q
theorem setVals_len : ∀ {is : List Nat} {xs : List IV} {s s' : SE}, setVals s is xs = some s' → is.length = xs.length
  | [], [], _, _, _ => rfl
  | [], _ :: _, _, _, e => by cases e
  | _ :: _, [], _, _, e => by cases e
  | _ :: is, _ :: xs, s, s', e => by rw [List.length_cons, List.length_cons, setVals_len (is := is) (xs := xs) e]
theorem Fin.ofO {α : Type} {o : Option α} {k : α → RR} (w : Fin T W Sc x0 κ0 H0 fr D (RR.ofO o k)) : ∃ x, o = some x ∧ Fin T W Sc x0 κ0 H0 fr D (k x) := by
  cases o with
  | none => exact w.elim
  | some x => exact ⟨x, rfl, w⟩
/-- the parts of a list -/
theorem RF.keepL (R : RF T Sc x0 κ0 H0 O s κ H cs σ) (st : Stp κ H κ' H') (rs' : RS T (SS Sc O (unoM vs s)) κ' H' cs') (b : Bool) : ∀ (xs : List IV) (ws : List V), (b = true → noLs xs = true) → RVs T (SS Sc O (unoM vs s)) κ' H' xs ws → RVs T (SS Sc O (EG.keep vs s b cs')) κ' H' xs ws
  | [], ws, _, r => by unfold RVs at r ⊢; exact r
  | x :: xs, ws, n, r => by
    unfold RVs at r ⊢
    obtain ⟨v, t, e, q, r⟩ := r
    have n2 : b = true → noL x = true ∧ noLs xs = true := fun z => by
      have := n z
      unfold noLs at this
      rwa [Bool.and_eq_true] at this
    exact ⟨v, t, e, (R.keep st rs' b).2 x v (fun z => (n2 z).1) q, R.keepL st rs' b xs t (fun z => (n2 z).2) r⟩
/-- an expression of a statement, with its parts -/
theorem tE.runL {k : IV → SE → Cs → RR} {Z : VK} (R : RF T Sc x0 κ0 H0 O s κ H cs σ) (w : Fin T W Sc x0 κ0 H0 fr D (evK K.J.ffr Φ e s cs k))
    (h : ∀ v H1 x cs1 κ1, Stp κ H κ1 H1 → RF T Sc x0 κ0 H0 O (EG.keep (varE e) s (keepI (frE K.J.ffr e) x) cs1) κ1 H1 cs1 σ → RV T (SS Sc O (unoM (varE e) s)) κ1 H1 x v →
      (∀ xs ws, seqI x = some xs → RVs T (SS Sc O (unoM (varE e) s)) κ1 H1 xs ws → RVs T (SS Sc O (EG.keep (varE e) s (keepI (frE K.J.ffr e) x) cs1)) κ1 H1 xs ws) → Fin T W Sc x0 κ0 H0 fr D (k x (EG.keep (varE e) s (keepI (frE K.J.ffr e) x) cs1) cs1) → Z v H1) : tE T W (frE K.J.ffr e) (ev Φ false e) σ H Z := by
  obtain ⟨rs, re⟩ := R.opn (varE e)
  refine ⟨_, κ, _, cs, rs, re, ?_⟩
  have w2 := R.run (b := keepI (frE K.J.ffr e)) w
  revert w2
  cases ev Φ false e (opnM (varE e) s) cs with
  | ok x cs1 =>
    intro w2 κ1 H1 v st1 rs1 rv1 hf
    obtain ⟨_, _, w3⟩ := w2 κ1 H1 st1 rs1
    obtain ⟨R1, up⟩ := R.keep st1 rs1 (keepI (frE K.J.ffr e) x)
    refine h v H1 x cs1 κ1 st1 R1 rv1 (fun xs ws hx r => R.keepL st1 rs1 _ xs ws (fun z => ?_) r) w3
    cases x <;> first | (cases hx; done) | skip
    · cases hx
      unfold keepI noL at z
      exact z
    · cases hx
      unfold keepI at z
      rw [Bool.and_eq_true] at z
      exact z.2
  | exc c pl cs1 => exact fun w2 => w2
  | stuck => exact fun w2 => w2
/-- a, b = e -/
theorem sr_tup {is : List Nat} (hT : T.K = X.K) (h : PS X st (tAsg (tE T W (frE K.J.ffr e) (ev Φ false e)) fun v σ H Q => gTup X.K is.length (gNames is) v σ H Q ∨ gLst X.K is.length (gNames is) v σ H Q)) :
    PS X st (tS T W fr fun s cs => evK K.J.ffr Φ e s cs fun v s cs => RR.ofO (seqI v) fun xs => RR.ofO (setVals s is xs) fun s => .nx s cs) := by
  refine PS.by' h fun D σ H hl ⟨Sc, x0, κ0, H0, O, s, κ, cs, R, w⟩ => ?_
  refine tE.runL R w fun v H1 x cs1 κ1 st1 R1 rv up w1 => ?_
  obtain ⟨xs, ex, w2⟩ := w1.ofO
  obtain ⟨s', es, w3⟩ := w2.ofO
  cases x <;> first | (cases ex; done) | skip
  · cases ex
    obtain ⟨p, ws, rfl, q, r⟩ := rv_ref_tup rv
    exact .inl ⟨p, ws, rfl, hT ▸ q, by rw [← r.len]; exact (setVals_len es).symm, R1.vals (up _ _ rfl r) es fun σ' R2 => w3 O κ1 H1 σ' R2⟩
  · cases ex
    obtain ⟨p, ws, rfl, q, r⟩ := rv_ref_lst rv
    exact .inr ⟨p, ws, rfl, q.sql, by rw [← r.len]; exact (setVals_len es).symm, R1.vals (up _ _ rfl r) es fun σ' R2 => w3 O κ1 H1 σ' R2⟩
/-- a, b = x, y -/
theorem sr_par2 {as : CA} (h : PS X st (tPar i j (tA T W (evs Φ as)))) :
    PS X st (tS T W fr fun s cs => evL Φ as s cs fun xs s cs => RR.ofO (setVals s [i, j] xs) fun s => .nx s cs) := by
  refine PS.by' h fun D σ H hl ⟨Sc, x0, κ0, H0, O, s, κ, cs, R, w⟩ => ?_
  refine tA.run R w fun ws H1 xs cs1 κ1 R1 rvs hlen w1 => ?_
  obtain ⟨s', es, w2⟩ := w1.ofO
  have := R1.vals (Z := D.nx) rvs es fun σ' R2 => w2 O κ1 H1 σ' R2
  obtain ⟨v, t, rfl, u, t', rfl, rfl, q⟩ := this
  exact ⟨v, u, rfl, q⟩
theorem sr_par3 {as : CA} (h : PS X st (tPar3 i j k (tA T W (evs Φ as)))) :
    PS X st (tS T W fr fun s cs => evL Φ as s cs fun xs s cs => RR.ofO (setVals s [i, j, k] xs) fun s => .nx s cs) := by
  refine PS.by' h fun D σ H hl ⟨Sc, x0, κ0, H0, O, s, κ, cs, R, w⟩ => ?_
  refine tA.run R w fun ws H1 xs cs1 κ1 R1 rvs hlen w1 => ?_
  obtain ⟨s', es, w2⟩ := w1.ofO
  have := R1.vals (Z := D.nx) rvs es fun σ' R2 => w2 O κ1 H1 σ' R2
  obtain ⟨v, t, rfl, u, t', rfl, u2, t2, rfl, rfl, q⟩ := this
  exact ⟨v, u, u2, rfl, q⟩
/-- an expression alone -/
theorem sr_expr (h : PS X st (tDrop (tE T W (frE K.J.ffr e) (ev Φ false e)))) : PS X st (tS T W fr fun s cs => evK K.J.ffr Φ e s cs fun _ s cs => .nx s cs) := by
  refine PS.by' h fun D σ H hl ⟨Sc, x0, κ0, H0, O, s, κ, cs, R, w⟩ => ?_
  exact tE.run R w fun v H1 x cs1 κ1 st1 R1 rv hf hnf w1 => w1 O κ1 H1 σ R1
/-- return e -/
theorem sr_ret (h : PS X st (tRet (tE T W (frE K.J.ffr e) (ev Φ false e)))) (hfr : fr = true → frE K.J.ffr e = true) : PS X st (tS T W fr fun s cs => evK K.J.ffr Φ e s cs fun v _ cs => .rt v cs) := by
  refine PS.by' h fun D σ H hl ⟨Sc, x0, κ0, H0, O, s, κ, cs, R, w⟩ => ?_
  have sub : ∀ a, Sc a → SS Sc O (unoM (varE e) s) a := fun a h => .inl h
  refine tE.run R w fun v H1 x cs1 κ1 st1 R1 rv hf hnf w1 => ?_
  refine w1 κ1 H1 v R1.st (R1.rs.sub fun a h => .inl h) ((Mv.anti sub).rv _ _ rv) fun z => ?_
  obtain ⟨a, xs, ws, e1, e2, ha, hn, nS, nk, r, rs⟩ := hf (hfr z)
  exact ⟨a, xs, ws, e1, e2, ha, R.st.dom a hn, fun z => nS (.inl z), nk, (Mv.anti fun b h => h.imp (sub b) id).rvs _ _ r, rs.sub fun b h => h.imp (sub b) id⟩
/-- return x, an own list -/
theorem sr_retO (h : PS X st (tRet (tVar i))) : PS X st (tS T W fr fun s cs => RR.ofO (ownOf s i) fun xs => .rt (.lst xs) cs) := by
  refine PS.by' h fun D σ H hl ⟨Sc, x0, κ0, H0, O, s, κ, cs, R, w⟩ => ?_
  obtain ⟨xs, ex, w⟩ := w.ofO
  have e : s[i]? = some (.own xs) := by
    unfold ownOf at ex
    split at ex
    · cases ex; assumption
    · cases ex
  obtain ⟨ws, q, ha, r⟩ := R.own i xs e
  have hon := onAt_own e
  have h1 : ∀ a, (Sc a ∨ a = O i) → SS Sc O s a := fun a h => h.imp id fun z => ⟨i, hon, z⟩
  refine ⟨_, q, w κ H _ R.st (R.rs.sub fun a h => .inl h) ?_ fun _ => ⟨O i, xs, ws, rfl, rfl, ha, (R.fr i hon).1, R.nSc hon, (R.fr i hon).2, (Mv.anti h1).rvs _ _ r, R.rs.sub h1⟩⟩
  unfold RV
  exact ⟨O i, ws, rfl, ⟨ha, R.nSc hon, (R.fr i hon).2⟩, (Mv.anti fun a h => .inl h).rvs _ _ r⟩
theorem sr_retN (hfr : fr = false) : PS X (.Return none pos) (tS T W fr fun _ cs => .rt .non cs) :=
  PS.by' ps_retN fun D σ H hl ⟨Sc, x0, κ0, H0, O, s, κ, cs, R, w⟩ => w κ H _ R.st (R.rs.sub fun a h => .inl h) (by unfold RV; rfl) fun z => by rw [hfr] at z; cases z
/-- if -/
theorem sr_if {A B : List Stmt} (hc : PT X ee (tT T W (ev Φ true e))) (ha : PSs X A (tS T W fr f)) (hb : PSs X B (tS T W fr g)) : PS X (.If ee A B pos) (tS T W fr fun s cs => evT Φ e s cs fun k s cs => if k then f s cs else g s cs) := by
  refine PS.by' (ps_if hc ha hb) fun D σ H hl ⟨Sc, x0, κ0, H0, O, s, κ, cs, R, w⟩ => ?_
  refine tT.run R w fun b H1 cs1 κ1 R1 w1 => ?_
  cases b with
  | true => exact ⟨Sc, x0, κ0, H0, O, _, κ1, cs1, R1, w1⟩
  | false => exact ⟨Sc, x0, κ0, H0, O, _, κ1, cs1, R1, w1⟩
theorem uQ {xs : List IV} (ex : ownOf s i = some xs) : s[i]? = some (.own xs) := by
  unfold ownOf at ex
  split at ex
  · cases ex; assumption
  · cases ex
/-- behind an expression, an own list's place -/
theorem keep_own {b : Bool} {xs : List IV} (h : (EG.keep vs s b cs)[i]? = some (.own xs)) : s[i]? = some (.own xs) := by
  unfold EG.keep at h
  split at h
  · split at h
    · exact h
    · have := uno_on (onAt_own h)
      rw [this.2] at h
      exact h
  · exact h
theorem keep_on {b : Bool} (h : onAt (EG.keep vs s b cs) i = true) : onAt s i = true := by
  unfold EG.keep at h
  split at h
  · split at h
    · exact h
    · exact (uno_on h).1
  · exact h
/-- the value behind an expression -/
theorem RF.rvK {x : IV} {b fr' : Bool} (R : RF T Sc x0 κ0 H0 O s κ H cs σ) (st : Stp κ H κ' H') (rs : RS T (SS Sc O (unoM vs s)) κ' H' cs') (hf : fr' = true → FrL T (SS Sc O (unoM vs s)) H κ' H' x v cs') (hb : keepI fr' x = b) (rv : RV T (SS Sc O (unoM vs s)) κ' H' x v) : RV T (SS Sc O (EG.keep vs s b cs')) κ' H' x v := by
  have gen : (b = true → noL x = true) → RV T (SS Sc O (EG.keep vs s b cs')) κ' H' x v := fun h => (R.keep st rs b).2 x v h rv
  cases x <;> first | exact gen fun z => hb.trans z | skip
  rename_i ys
  cases fr' with
  | false => exact gen fun z => by rw [← hb] at z; cases z
  | true =>
    obtain ⟨a, ys', ws, e1, rfl, ha, hn, nS, nk, r, rs2⟩ := hf rfl
    cases e1
    have up := R.keepL st rs b ys ws (fun z => hb.trans z) ((Mv.anti fun a h => .inl h).rvs _ _ r)
    unfold RV
    refine ⟨a, ws, rfl, ⟨ha, fun z => ?_, nk⟩, up⟩
    rcases z with z | ⟨j, hj, rfl⟩
    · exact nS (.inl z)
    · exact absurd hn (R.live (keep_on hj))
theorem tE.runV {k : IV → SE → Cs → RR} {Z : VK} (R : RF T Sc x0 κ0 H0 O s κ H cs σ) (w : Fin T W Sc x0 κ0 H0 fr D (evK K.J.ffr Φ e s cs k))
    (h : ∀ v H1 x cs1 κ1, Stp κ H κ1 H1 → RF T Sc x0 κ0 H0 O (EG.keep (varE e) s (keepI (frE K.J.ffr e) x) cs1) κ1 H1 cs1 σ → RV T (SS Sc O (EG.keep (varE e) s (keepI (frE K.J.ffr e) x) cs1)) κ1 H1 x v → Fin T W Sc x0 κ0 H0 fr D (k x (EG.keep (varE e) s (keepI (frE K.J.ffr e) x) cs1) cs1) → Z v H1) : tE T W (frE K.J.ffr e) (ev Φ false e) σ H Z := by
  obtain ⟨rs, re⟩ := R.opn (varE e)
  refine ⟨_, κ, _, cs, rs, re, ?_⟩
  have w2 := R.run (b := keepI (frE K.J.ffr e)) w
  revert w2
  cases ev Φ false e (opnM (varE e) s) cs with
  | ok x cs1 =>
    intro w2 κ1 H1 v st1 rs1 rv1 hf
    obtain ⟨_, _, w3⟩ := w2 κ1 H1 st1 rs1
    obtain ⟨R1, up⟩ := R.keep st1 rs1 (keepI (frE K.J.ffr e) x)
    exact h v H1 x cs1 κ1 st1 R1 (R.rvK st1 rs1 hf rfl rv1) w3
  | exc c pl cs1 => exact fun w2 => w2
  | stuck => exact fun w2 => w2
/-- x = e -/
theorem sr_set {wb : Bool} (h : PS X st (tAsg (tE T W (frE K.J.ffr e) (ev Φ false e)) (gName i))) : PS X st (tS T W fr fun s cs => evK K.J.ffr Φ e s cs fun v s cs => .nx (s.set i (newS (wb && frE K.J.ffr e) v)) cs) := by
  refine PS.by' h fun D σ H hl ⟨Sc, x0, κ0, H0, O, s, κ, cs, R, w⟩ => ?_
  cases hfr : (wb && frE K.J.ffr e) with
  | false =>
    rw [hfr] at w
    refine tE.runV R w fun v H1 x cs1 κ1 st1 R1 rv w1 => ?_
    have e1 : newS false x = .val x := by cases x <;> rfl
    rw [e1] at w1
    exact w1 O κ1 H1 _ (R1.setv rv)
  | true =>
    rw [hfr] at w
    rw [Bool.and_eq_true] at hfr
    refine tE.run R w fun v H1 x cs1 κ1 st1 R1 rv hf hnf w1 => ?_
    obtain ⟨a, xs, rfl, rfl, R2⟩ := R.keepF st1 (hf hfr.2) (i := i)
    rw [hfr.2] at w1
    exact w1 _ κ1 H1 _ R2
/-- x.append(e) -/
theorem sr_app (hl : PE X oe (tVar i)) (he : PE X ee (tE T W (frE K.J.ffr e) (ev Φ false e))) (hs : notStar ee = true) {apos cpos : Pos} (hb : attributeBase oe "append" X.env (eval oe X.env) = eval oe X.env) (hline : (apos.endLine == cpos.line) = true) :
    PS X (.Expr (.Call (.Attribute oe "append" apos) [ee] [] cpos) pos) (tS T W fr fun s cs => RR.ofO (ownOf s i) fun _ => evK K.J.ffr Φ e s cs fun v s cs => RR.ofO (ownOf s i) fun xs => if xs.length < 1000000 then .nx (s.set i (.own (xs ++ [v]))) cs else .stuck) := by
  have hp := ps_expr (pos := pos) (pe_bm (cpos := cpos) (apos := apos) PySem.F.plainAttrs_list PySem.F.slot_list_append PySem.F.type_list_append mt_append hl (pa_cons he pa_nil (star_cons hs)) hb (by rw [star_one hs]; rfl) hline (star_cons hs) rfl)
  refine PS.by' hp fun D σ H hl2 ⟨Sc, x0, κ0, H0, O, s, κ, cs, R, w⟩ => ?_
  obtain ⟨xs0, ex0, w⟩ := w.ofO
  obtain ⟨us, q, ha, r⟩ := R.own i xs0 (uQ ex0)
  refine ⟨_, q, .inl ⟨rfl, us, SqL.of ha⟩, ?_⟩
  refine tE.runV R w fun v H1 x cs1 κ1 st1 R1 rv1 w1 => ?_
  obtain ⟨xs, ex, w2⟩ := w1.ofO
  split at w2
  · rename_i hlen
    have e1 := uQ ex
    obtain ⟨us1, q1, ha1, r1⟩ := R1.own i xs e1
    refine ⟨O i, us1, v, rfl, rfl, ha1, ?_, ?_⟩
    · have := r1.len
      have := line6
      omega
    · exact w2 O κ1 _ σ (R1.wro e1 (r1.append (RVs.cons rv1 RVs.nil)))
  · exact w2.elim
/-- x.extend(e) -/
theorem sr_ext (hl : PE X oe (tVar i)) (he : PE X ee (tE T W (frE K.J.ffr e) (ev Φ false e))) (hs : notStar ee = true) {apos cpos : Pos} (hb : attributeBase oe "extend" X.env (eval oe X.env) = eval oe X.env) (hline : (apos.endLine == cpos.line) = true) :
    PS X (.Expr (.Call (.Attribute oe "extend" apos) [ee] [] cpos) pos) (tS T W fr fun s cs => RR.ofO (ownOf s i) fun _ => evK K.J.ffr Φ e s cs fun v s cs => RR.ofO (ownOf s i) fun xs => RR.ofO (lstO v) fun ys => if xs.length + ys.length < 1000000 then .nx (s.set i (.own (xs ++ ys))) cs else .stuck) := by
  have hp := ps_expr (pos := pos) (pe_bm (cpos := cpos) (apos := apos) PySem.F.plainAttrs_list PySem.F.slot_list_extend PySem.F.type_list_extend mt_extend hl (pa_cons he pa_nil (star_cons hs)) hb (by rw [star_one hs]; rfl) hline (star_cons hs) rfl)
  refine PS.by' hp fun D σ H hl2 ⟨Sc, x0, κ0, H0, O, s, κ, cs, R, w⟩ => ?_
  obtain ⟨xs0, ex0, w⟩ := w.ofO
  obtain ⟨us, q, ha, r⟩ := R.own i xs0 (uQ ex0)
  refine ⟨_, q, .inl ⟨rfl, us, SqL.of ha⟩, ?_⟩
  refine tE.runV R w fun v H1 x cs1 κ1 st1 R1 rv1 w1 => ?_
  obtain ⟨xs, ex, w2⟩ := w1.ofO
  obtain ⟨ys, ey, w2⟩ := w2.ofO
  cases x <;> first | (cases ey; done) | skip
  cases ey
  split at w2
  · rename_i hlen
    have e1 := uQ ex
    obtain ⟨us1, q1, ha1, r1⟩ := R1.own i xs e1
    obtain ⟨p, ws, rfl, q2, r2⟩ := rv_ref_lst rv1
    refine ⟨O i, p, us1, ws, rfl, rfl, ha1, q2.1, ?_, ?_⟩
    · have := r1.len
      have := r2.len
      have := line6
      omega
    · exact w2 O κ1 _ σ (R1.wro e1 (r1.append r2))
  · exact w2.elim
theorem RVs.reverse {S : Addr → Prop} : ∀ {xs : List IV} {ws : List V}, RVs T S κ H xs ws → RVs T S κ H xs.reverse ws.reverse
  | [], ws, r => by unfold RVs at r; subst r; exact RVs.nil
  | x :: xs, ws, r => by
    unfold RVs at r
    obtain ⟨v, t, rfl, q, r⟩ := r
    rw [List.reverse_cons, List.reverse_cons]
    exact (RVs.reverse r).append (RVs.cons q RVs.nil)
/-- x.reverse() -/
theorem sr_rev (hl : PE X oe (tVar i)) {apos cpos : Pos} (hb : attributeBase oe "reverse" X.env (eval oe X.env) = eval oe X.env) (hline : (apos.endLine == cpos.line) = true) :
    PS X (.Expr (.Call (.Attribute oe "reverse" apos) [] [] cpos) pos) (tS T W fr fun s cs => RR.ofO (ownOf s i) fun xs => .nx (s.set i (.own xs.reverse)) cs) := by
  have hp := ps_expr (pos := pos) (pe_bm0 (cpos := cpos) (apos := apos) PySem.F.plainAttrs_list PySem.F.slot_list_reverse PySem.F.type_list_reverse mt_reverse hl hb hline)
  refine PS.by' hp fun D σ H hl2 ⟨Sc, x0, κ0, H0, O, s, κ, cs, R, w⟩ => ?_
  obtain ⟨xs, ex, w⟩ := w.ofO
  obtain ⟨us, q, ha, r⟩ := R.own i xs (uQ ex)
  exact ⟨_, q, .inl ⟨rfl, us, SqL.of ha⟩, O i, us, rfl, rfl, ha, w O κ _ σ (R.wro (uQ ex) r.reverse)⟩
end
end EG

-- EngY
/-! Engine Y: loops. -/
namespace EG
open PySem PySem.Spec L2 PyProof.Rows
section
variable {T : CT} {Φ : Fns} {lv : Nat} {K : CKx} {W : WX} {X : Cx} {x0 : Addr} {Sc : Addr → Prop} {κ0 κ κ' κ1 : List Addr} {H0 H H' H1 : Hp} {fr : Bool} {D : Ends} {O O' : Nat → Addr} {s s1 s' : SE} {cs cs' cs1 : Cs} {σ σ' : L2.St} {i j k : Nat} {x y z : Str} {v : V} {sc : Scope} {vs : List Nat} {st : Stmt} {e ix o a b c : CE} {ee oe xe : Expr} {pos px : Pos} {f g : SE → Cs → RR} {rest : List Stmt}
/-- the heap without the own lists -/
noncomputable def offO (H : Hp) (O : Nat → Addr) (s : SE) : Hp := fun a => open Classical in if ∃ j, onAt s j = true ∧ a = O j then none else H a
theorem offO_none {a : Addr} (h : offO H O s a = none) : (∃ j, onAt s j = true ∧ a = O j) ∨ H a = none := by
  unfold offO at h
  split at h
  · exact .inl ‹_›
  · exact .inr h
theorem offO_some {a : Addr} {o : HO} (h : offO H O s a = some o) : (¬ ∃ j, onAt s j = true ∧ a = O j) ∧ H a = some o := by
  unfold offO at h
  split at h
  · cases h
  · exact ⟨‹_›, h⟩
theorem offO_on {a : Addr} (h : ∃ j, onAt s j = true ∧ a = O j) : offO H O s a = none := by unfold offO; rw [if_pos h]
theorem offO_off {a : Addr} (h : ¬ ∃ j, onAt s j = true ∧ a = O j) : offO H O s a = H a := by unfold offO; rw [if_neg h]
/-- the state seen from here -/
theorem RF.base (R : RF T Sc x0 κ0 H0 O s κ H cs σ) : RF T Sc x0 κ (offO H O s) O s κ H cs σ where
  st := ⟨⟨[], by simp⟩, fun a h => .inl h, fun a o e _ => (offO_some e).2, fun a e => by
    by_cases h : ∃ j, onAt s j = true ∧ a = O j
    · exact offO_on h
    · rw [offO_off h]; exact e⟩
  d0 := fun a h => by
    rw [offO_off]
    · exact R.rs.dom a (.inl h)
    · rintro ⟨j, hj, rfl⟩
      exact R.nSc hj h
  rs := R.rs
  own := R.own
  slf := R.slf
  fr := fun j h => ⟨offO_on ⟨j, h, rfl⟩, (R.fr j h).2⟩
  val := R.val
  inj := R.inj
  len := R.len
  sx := R.sx
  lnt := R.lnt
theorem RF.baseS (R : RF T Sc x0 κ0 H0 O s κ H cs σ) : Stp κ0 H0 κ (offO H O s) := by
  refine ⟨R.st.pre, R.st.fresh, fun a o e q => ?_, fun a e => ?_⟩
  · rw [offO_off]
    · exact R.st.evo a o e q
    · rintro ⟨j, hj, rfl⟩
      rw [(R.fr j hj).1] at e; cases e
  · rcases offO_none e with ⟨j, hj, rfl⟩ | e
    · exact (R.fr j hj).1
    · exact R.st.dom a e
theorem RF.unbase (R : RF T Sc x0 κ0 H0 O s κ H cs σ) (R2 : RF T Sc x0 κ (offO H O s) O' s' κ' H' cs' σ') : RF T Sc x0 κ0 H0 O' s' κ' H' cs' σ' where
  st := R.baseS.trans R2.st
  d0 := R.d0
  rs := R2.rs
  own := R2.own
  slf := R2.slf
  fr := fun j h => ⟨R.baseS.dom _ (R2.fr j h).1, (R2.fr j h).2⟩
  val := R2.val
  inj := R2.inj
  len := R2.len
  sx := R2.sx
  lnt := R2.lnt
theorem RF.loose (R : RF T Sc x0 κ0 H0 O s κ H cs σ) (R2 : RF T Sc x0 κ (offO H O s) O' s' κ' H' cs' σ') : StpO (SS Sc O s) κ H κ' H' ∧ ∀ a, SS Sc O' s' a → SS Sc O s a ∨ H a = none := by
  refine ⟨⟨R2.st.pre, fun a h => ?_, fun a o e q => ?_⟩, fun a h => ?_⟩
  · rcases R2.st.fresh a h with z | z
    · exact .inl z
    · rcases offO_none z with z | z
      · exact .inr (.inr (.inr z))
      · exact .inr (.inl z)
  · by_cases h : ∃ j, onAt s j = true ∧ a = O j
    · rcases q with q | q
      · obtain ⟨j, hj, rfl⟩ := h
        rcases on_case hj with ⟨ys, e2⟩ | ⟨c, fs, e2⟩
        · obtain ⟨us, _, hh, _⟩ := R.own j ys e2
          rw [hh] at e; cases e; exact q.elim
        · obtain ⟨dx, us, _, hh, _⟩ := R.slf j c fs e2
          rw [hh] at e; cases e; exact q.elim
      · exact absurd (.inr h) q.2
    · exact R2.st.evo a o (by rw [offO_off h]; exact e) (q.imp id And.left)
  · rcases h with h | ⟨j, hj, rfl⟩
    · exact .inl (.inl h)
    · rcases offO_none (R2.fr j hj).1 with z | z
      · exact .inl (.inr z)
      · exact .inr z
theorem Fin.rebase {D' : Ends} {r : RR} (R : RF T Sc x0 κ0 H0 O s κ H cs σ) (hnx : ∀ s2 cs2, r = .nx s2 cs2 → ∀ O2 κ2 H2 σ2, RF T Sc x0 κ (offO H O s) O2 s2 κ2 H2 cs2 σ2 → D'.nx σ2 H2) (hbk : ∀ s2 cs2, r = .bk s2 cs2 → ∀ O2 κ2 H2 σ2, RF T Sc x0 κ (offO H O s) O2 s2 κ2 H2 cs2 σ2 → D'.bk σ2 H2)
    (hrt : ∀ v2 cs2, r = .rt v2 cs2 → Fin T W Sc x0 κ0 H0 fr D (.rt v2 cs2)) (hrt' : D'.rt = D.rt) (hex : ∀ c pl s2 cs2, r = .ex c pl s2 cs2 → Fin T W Sc x0 κ0 H0 fr D (.ex c pl s2 cs2)) (hst : r ≠ .stuck) : Fin T W Sc x0 κ (offO H O s) fr D' r := by
  cases r with
  | nx s2 cs2 => exact fun O2 κ2 H2 σ2 R2 => hnx s2 cs2 rfl O2 κ2 H2 σ2 R2
  | bk s2 cs2 => exact fun O2 κ2 H2 σ2 R2 => hbk s2 cs2 rfl O2 κ2 H2 σ2 R2
  | rt v2 cs2 =>
    intro κ2 H2 u st2 rs2 rv2 hf
    rw [hrt']
    refine hrt v2 cs2 rfl κ2 H2 u (R.baseS.trans st2) rs2 rv2 fun z => ?_
    obtain ⟨a, xs, ws, e1, e2, ha, hn, nS, nk, r, rs⟩ := hf z
    exact ⟨a, xs, ws, e1, e2, ha, R.baseS.dom a hn, nS, nk, r, rs⟩
  | ex c pl s2 cs2 => exact fun O2 κ2 H2 σ2 d R2 x => hex c pl s2 cs2 rfl O2 κ2 H2 σ2 d (R.unbase R2) x
  | stuck => exact absurd rfl hst
/-- a value into a target -/
theorem RF.tg {tg : List Nat} {x : IV} (hT : T.K = X.K) (R : RF T Sc x0 κ0 H0 O s κ H cs σ) (rv : RV T (SS Sc O s) κ H x v) (e : setTS s tg x = some s') {Z : L2.St → Hp → Prop} (q : ∀ σ', RF T Sc x0 κ0 H0 O s' κ H cs σ' → Z σ' H) : gTg X.K tg v σ H Z := by
  have many : ∀ tg : List Nat, ∀ y, y = x → (match y with | .tup xs => setVals s tg xs | _ => none) = some s' → gTup X.K tg.length (gNames tg) v σ H Z := by
    intro tg y hy e0
    cases y with
    | tup xs =>
      subst hy
      obtain ⟨a, ws, rfl, q2, r⟩ := rv_ref_tup rv
      exact ⟨a, ws, rfl, hT ▸ q2, by rw [← r.len]; exact (setVals_len (is := tg) (xs := xs) e0).symm, R.vals r e0 q⟩
    | _ => cases e0
  match tg, e with
  | [], e => exact many [] x rfl e
  | [i], e =>
    have e' : s.set i (.val x) = s' := Option.some.inj e
    subst e'
    exact q _ (R.setv rv)
  | i :: j :: is, e => exact many (i :: j :: is) x rfl e
/-- the turns of a loop -/
theorem for_go {tg : List Nat} {xs : List IV} {Jt : It} (hT : T.K = X.K) (R : RF T Sc x0 κ0 H0 O s κ H cs σ) (walk : Walk T (SS Sc O s) κ H Jt xs) (w : Fin T W Sc x0 κ0 H0 fr D (forGo tg f xs s cs)) :
    ∃ Wl : Nat → Nat → L2.St → Hp → Prop, (∃ m, Wl 0 m σ H) ∧ ∀ i m σ H, Wl i m σ H →
      (Jt.stop i H ∧ D.nx σ H) ∨ (Jt.go i H ∧ ∃ Nx : L2.St → Hp → Prop, (∀ σ' H', Nx σ' H' → ∃ m', m' < m ∧ Wl (i + 1) m' σ' H') ∧ ∀ x H', Jt.yld i H x H' → gTg X.K tg x σ H' fun σ2 H2 => tS T W fr f { D with nx := Nx, ct := Nx, bk := D.nx } σ2 H2) := by
  refine ⟨fun i m σ1 H1 => m = xs.length - i ∧ i ≤ xs.length ∧ ∃ O1 s1 κ1 cs1, RF T Sc x0 κ (offO H O s) O1 s1 κ1 H1 cs1 σ1 ∧ Fin T W Sc x0 κ0 H0 fr D (forGo tg f (xs.drop i) s1 cs1), ⟨xs.length, by simp, Nat.zero_le _, O, s, κ, cs, R.base, w⟩, ?_⟩
  rintro i m σ1 H1 ⟨rfl, hi, O1, s1, κ1, cs1, R1, w1⟩
  obtain ⟨lo, hS⟩ := R.loose R1
  by_cases hlt : i < xs.length
  · right
    have hx : xs[i]? = some xs[i] := List.getElem?_eq_getElem hlt
    obtain ⟨hgo, hy⟩ := (walk i κ1 H1 (SS Sc O1 s1) cs1 lo hS R1.rs).1 _ hx
    refine ⟨hgo, fun σ2 H2 => ∃ O1 s1 κ1 cs1, RF T Sc x0 κ (offO H O s) O1 s1 κ1 H2 cs1 σ2 ∧ Fin T W Sc x0 κ0 H0 fr D (forGo tg f (xs.drop (i + 1)) s1 cs1), fun σ' H' h2 => ⟨xs.length - (i + 1), by omega, rfl, hlt, h2⟩, fun v H2 yl => ?_⟩
    obtain ⟨st2, rs2, rv2⟩ := hy v H2 yl
    have hd : xs.drop i = xs[i] :: xs.drop (i + 1) := List.drop_eq_getElem_cons hlt
    rw [hd] at w1
    obtain ⟨s2, es, w2⟩ := Fin.ofO (o := setTS s1 tg xs[i]) w1
    refine (R1.step st2 rs2).tg hT rv2 es fun σ3 R3 => ?_
    refine ⟨Sc, x0, κ, _, O1, s2, κ1, cs1, R3, ?_⟩
    cases hf : f s2 cs1 with
    | stuck => rw [hf] at w2; exact w2.elim
    | nx s4 cs4 =>
      rw [hf] at w2
      refine Fin.rebase (D := D) R (fun s5 cs5 e O5 κ5 H5 σ5 R5 => ?_) (fun _ _ e => by cases e) (fun _ _ e => by cases e) rfl (fun _ _ _ _ e => by cases e) (fun e => by cases e)
      cases e
      exact ⟨O5, s4, κ5, cs4, R5, w2⟩
    | bk s4 cs4 =>
      rw [hf] at w2
      refine Fin.rebase (D := D) R (fun _ _ e => by cases e) (fun s5 cs5 e O5 κ5 H5 σ5 R5 => ?_) (fun _ _ e => by cases e) rfl (fun _ _ _ _ e => by cases e) (fun e => by cases e)
      cases e
      exact w2 O5 κ5 H5 σ5 (R.unbase R5)
    | rt v4 cs4 =>
      rw [hf] at w2
      exact Fin.rebase (D := D) R (fun _ _ e => by cases e) (fun _ _ e => by cases e) (fun _ _ e => by cases e; exact w2) rfl (fun _ _ _ _ e => by cases e) (fun e => by cases e)
    | ex c pl s4 cs4 =>
      rw [hf] at w2
      exact Fin.rebase (D := D) R (fun _ _ e => by cases e) (fun _ _ e => by cases e) (fun _ _ e => by cases e) rfl (fun _ _ _ _ e => by cases e; exact w2) (fun e => by cases e)
  · left
    have e : i = xs.length := by omega
    subst e
    refine ⟨(walk _ κ1 H1 (SS Sc O1 s1) cs1 lo hS R1.rs).2 (Nat.le_refl _), ?_⟩
    rw [List.drop_length] at w1
    exact w1 O1 κ1 H1 σ1 (R.unbase R1)
theorem nx_ct {N : L2.St → Hp → Prop} {D : Ends} : ({ D with nx := N, ct := N, bk := D.nx } : Ends).rt = D.rt := rfl
/-- for, over values -/
theorem sr_for {tg : List Nat} {it : CI} {tge ite : Expr} {body : List Stmt} (hT : T.K = X.K) (hp : PassesOwn (model X.prog X.w) X.A X.env X.xe) (hc : X.calm = true) (hi : PI X tge ite (tI T W (evi Φ it))) (hg : PG X tge (gTg X.K tg)) (hb : PSs X body (tS T W fr f)) (hs : ∀ x, foldedSetIterable ite X.env x = pure x) (hr : isRng it = false) :
    PS X (.For tge ite body [] pos) (tS T W fr fun s cs => match evi Φ it (opnM (varI it) s) cs with
      | .ok xs cs => forGo tg f xs (if isRng it then keep (varI it) s true cs else unoM (varI it) s) cs
      | .exc c pl cs => .ex c pl (keep (varI it) s (noLs pl) cs) cs
      | .stuck => .stuck) := by
  refine PS.by' (ps_for hp hc hi hg hb hs) fun D σ H hl ⟨Sc, x0, κ0, H0, O, s, κ, cs, R, w⟩ => ?_
  obtain ⟨rs, re⟩ := R.opn (varI it)
  refine ⟨_, κ, _, cs, rs, re, ?_⟩
  revert w
  dsimp only
  cases evi Φ it (opnM (varI it) s) cs with
  | stuck => exact fun w => w
  | exc c pl cs1 =>
    intro w κ1 H1 d st1 rs1 x
    obtain ⟨R1, up⟩ := R.keep st1 rs1 (noLs pl)
    refine w O κ1 H1 σ d R1 ?_
    rcases x with x | ⟨y, v, f, dd, h1, h2, h3, h4⟩
    · exact .inl x
    · subst h1
      exact .inr ⟨y, v, f, dd, rfl, h2, h3, up y v (fun z => by
        unfold noLs at z
        rw [Bool.and_eq_true] at z
        exact z.1) h4⟩
  | ok xs cs1 =>
    intro w κ1 H1 st1 rs1 Jt walk
    simp only [hr, if_neg Bool.false_ne_true] at w
    exact for_go hT ((R.uno _).step st1 rs1) walk w
/-- for, over a range -/
theorem sr_forR {tg : List Nat} {it : CI} {tge ite : Expr} {body : List Stmt} (hT : T.K = X.K) (hp : PassesOwn (model X.prog X.w) X.A X.env X.xe) (hc : X.calm = true) (hi : PI X tge ite (tIr T W (evi Φ it))) (hg : PG X tge (gTg X.K tg)) (hb : PSs X body (tS T W fr f)) (hs : ∀ x, foldedSetIterable ite X.env x = pure x) (hr : isRng it = true) :
    PS X (.For tge ite body [] pos) (tS T W fr fun s cs => match evi Φ it (opnM (varI it) s) cs with
      | .ok xs cs => forGo tg f xs (if isRng it then keep (varI it) s true cs else unoM (varI it) s) cs
      | .exc c pl cs => .ex c pl (keep (varI it) s (noLs pl) cs) cs
      | .stuck => .stuck) := by
  refine PS.by' (ps_for hp hc hi hg hb hs) fun D σ H hl ⟨Sc, x0, κ0, H0, O, s, κ, cs, R, w⟩ => ?_
  obtain ⟨rs, re⟩ := R.opn (varI it)
  refine ⟨_, κ, _, cs, rs, re, ?_⟩
  revert w
  dsimp only
  cases evi Φ it (opnM (varI it) s) cs with
  | stuck => exact fun w => w
  | exc c pl cs1 =>
    intro w κ1 H1 d st1 rs1 x
    obtain ⟨R1, up⟩ := R.keep st1 rs1 (noLs pl)
    refine w O κ1 H1 σ d R1 ?_
    rcases x with x | ⟨y, v, f, dd, h1, h2, h3, h4⟩
    · exact .inl x
    · subst h1
      exact .inr ⟨y, v, f, dd, rfl, h2, h3, up y v (fun z => by
        unfold noLs at z
        rw [Bool.and_eq_true] at z
        exact z.1) h4⟩
  | ok xs cs1 =>
    intro w κ1 H1 st1 rs1 Jt walk
    simp only [hr, if_pos] at w
    exact for_go hT (R.keep st1 rs1 true).1 (walk _) w
/-! a loop over an own list that stays own -/
theorem noP_at (h : noP s = true) {x : SL} (e : s[i]? = some x) : (∀ c fs, x ≠ .slf c fs) ∧ ∀ xs, x ≠ .lnt xs := by
  have := List.all_eq_true.mp h x (List.mem_of_getElem? e)
  constructor
  · rintro c fs rfl; cases this
  · rintro xs rfl; cases this
theorem RF.lend {xs : List IV} (R : RF T Sc x0 κ0 H0 O s κ H cs σ) (e : s[i]? = some (.own xs)) (hp : noP s = true) : RF T Sc (O i) κ0 H0 O (s.set i (.lnt xs)) κ H cs σ where
  st := R.st
  d0 := R.d0
  rs := R.rs.sub fun a h => ss_set rfl h
  own := fun j ys e2 => by
    rcases get_set e2 with ⟨_, z, _⟩ | ⟨hj, e2⟩
    · cases z
    · obtain ⟨ws, q, h, r⟩ := R.own j ys e2
      exact ⟨ws, q, h, (Mv.anti fun a h => ss_set rfl h).rvs _ _ r⟩
  slf := fun j c fs e2 => by
    rcases get_set e2 with ⟨_, z, _⟩ | ⟨hj, e2⟩
    · cases z
    · exact absurd rfl ((noP_at hp e2).1 c fs)
  fr := fun j h => R.fr j (set_on rfl h).2
  val := fun j y e2 => by
    rcases get_set e2 with ⟨_, z, _⟩ | ⟨hj, e2⟩
    · cases z
    · obtain ⟨u, q, r⟩ := R.val j y e2
      exact ⟨u, q, (Mv.anti fun a h => ss_set rfl h).rv _ _ r⟩
  inj := fun j k h1 h2 => R.inj j k (set_on rfl h1).2 (set_on rfl h2).2
  len := by rw [List.length_set]; exact R.len
  sx := fun j c fs e2 => by
    rcases get_set e2 with ⟨_, z, _⟩ | ⟨hj, e2⟩
    · cases z
    · exact absurd rfl ((noP_at hp e2).1 c fs)
  lnt := fun j ys e2 => by
    rcases get_set e2 with ⟨rfl, z, _⟩ | ⟨hj, e2⟩
    · cases z
      obtain ⟨ws, q, h, r⟩ := R.own j xs e
      refine ⟨q, ?_⟩
      unfold RV
      refine ⟨O j, ws, rfl, ⟨h, ?_, (R.fr j (onAt_own e)).2⟩, (Mv.anti fun a h => ss_set rfl h).rvs _ _ r⟩
      rintro (z | ⟨k, hk, ek⟩)
      · exact R.nSc (onAt_own e) z
      · obtain ⟨h1, h2⟩ := set_on rfl hk
        exact h1 (R.inj j k (onAt_own e) h2 ek).symm
    · exact absurd rfl ((noP_at hp e2).2 ys)
theorem RF.reown {xs ys : List IV} (R : RF T Sc x0 κ0 H0 O s κ H cs σ) (e : s[i]? = some (.own xs)) (R1 : RF T Sc (O i) κ0 H0 O (s.set i (.lnt xs)) κ H cs σ) (R2 : RF T Sc (O i) κ (offO H O (s.set i (.lnt xs))) O' s' κ' H' cs' σ') (el : s'[i]? = some (.lnt ys)) (hn : noLs ys = true) (ho : (s'.set i .no).all okL = true) (hc : cs'.all noLC = true) : RF T Sc x0 κ0 H0 (atO O' i (O i)) (s'.set i (.own ys)) κ' H' cs' σ' := by
  obtain ⟨q, r⟩ := R2.lnt i ys el
  unfold RV at r
  obtain ⟨a, vs, ea, ⟨ha, nS, nk⟩, rv⟩ := r
  cases ea
  have old : ∀ j x, j ≠ i → s'[j]? = some x → okL x = true := fun j x hj ex => by
    refine List.all_eq_true.mp ho x (List.mem_of_getElem? (i := j) ?_)
    rw [List.getElem?_set_ne fun z => hj z.symm]
    exact ex
  have oj : ∀ j, j ≠ i → atO O' i (O i) j = O' j := fun j h => by unfold atO; rw [if_neg h]
  have oi : atO O' i (O i) i = O i := by unfold atO; rw [if_pos rfl]
  have up : ∀ b, SS Sc (atO O' i (O i)) (s'.set i (.own ys)) b → SS Sc O' s' b ∨ ∃ l, H' b = some (.lst l) := fun b h => by
    rcases ss_seto h with h | h
    · exact .inl h
    · subst h; exact .inr ⟨vs, ha⟩
  have hk : ∀ b ∈ κ', ¬ SS Sc (atO O' i (O i)) (s'.set i (.own ys)) b := fun b hb h => by
    rcases ss_seto h with h | h
    · obtain ⟨_, _, _, _, _, n⟩ := R2.rs.at hb
      exact n h
    · subst h; exact nk hb
  refine ⟨R1.baseS.trans R2.st, R.d0, R2.rs.up up hk hc, fun j zs e2 => ?_, fun j c fs e2 => ?_, fun j h => ?_, fun j y e2 => ?_, fun j k h1 h2 e2 => ?_, by rw [List.length_set]; exact R2.len, fun j c fs e2 => ?_, fun j zs e2 => ?_⟩
  · rcases get_set e2 with ⟨rfl, z, _⟩ | ⟨hj, e2⟩
    · cases z
      rw [oi]
      exact ⟨vs, q, ha, RVs.noL up _ _ hn rv⟩
    · obtain ⟨us, q', h', r'⟩ := R2.own j zs e2
      rw [oj j hj]
      exact ⟨us, q', h', RVs.noL up _ _ (old j _ hj e2) r'⟩
  · rcases get_set e2 with ⟨_, z, _⟩ | ⟨hj, e2⟩
    · cases z
    · cases old j _ hj e2
  · by_cases z : j = i
    · subst z
      rw [oi]
      exact ⟨(R.fr j (onAt_own e)).1, nk⟩
    · rw [oj j z]
      rw [set_on' z] at h
      exact ⟨R1.baseS.dom _ (R2.fr j h).1, (R2.fr j h).2⟩
  · rcases get_set e2 with ⟨_, z, _⟩ | ⟨hj, e2⟩
    · cases z
    · obtain ⟨u, q', r'⟩ := R2.val j y e2
      exact ⟨u, q', RV.noL up _ _ (old j _ hj e2) r'⟩
  · by_cases zj : j = i
    · subst zj
      by_cases zk : k = j
      · exact zk.symm
      · rw [set_on' zk] at h2
        rw [oi, oj k zk] at e2
        exact absurd (.inr ⟨k, h2, e2⟩) nS
    · rw [set_on' zj] at h1
      by_cases zk : k = i
      · subst zk
        rw [oi, oj j zj] at e2
        exact absurd (.inr ⟨j, h1, e2.symm⟩) nS
      · rw [set_on' zk] at h2
        rw [oj j zj, oj k zk] at e2
        exact R2.inj j k h1 h2 e2
  · rcases get_set e2 with ⟨_, z, _⟩ | ⟨hj, e2⟩
    · cases z
    · cases old j _ hj e2
  · rcases get_set e2 with ⟨_, z, _⟩ | ⟨hj, e2⟩
    · cases z
    · cases old j _ hj e2
theorem lnt_of {xs : List IV} (h : lntOf s i = some xs) : s[i]? = some (.lnt xs) := by
  unfold lntOf at h
  split at h
  · cases h; assumption
  · cases h
theorem sr_fro {F : SE → Cs → RR} (h : PS X st (tS T W fr F)) : PS X st (tS T W fr fun s cs => RR.ofO (ownOf s i) fun xs => if noP s = true then froT i (F (s.set i (.lnt xs)) cs) else .stuck) := by
  refine PS.by' h fun D σ H hl ⟨Sc, x0, κ0, H0, O, s, κ, cs, R, w⟩ => ?_
  obtain ⟨xs, ex, w⟩ := w.ofO
  have e := uQ ex
  by_cases hp : noP s = true
  · rw [if_pos hp] at w
    have R1 := R.lend e hp
    refine ⟨Sc, O i, κ, offO H O (s.set i (.lnt xs)), O, s.set i (.lnt xs), κ, cs, R1.base, ?_⟩
    cases hF : F (s.set i (.lnt xs)) cs with
    | stuck => rw [hF] at w; exact w.elim
    | bk s2 cs2 => rw [hF] at w; exact w.elim
    | ex c pl s2 cs2 => rw [hF] at w; exact w.elim
    | rt v2 cs2 =>
      rw [hF] at w
      exact Fin.rebase (D := D) R1 (fun _ _ e => by cases e) (fun _ _ e => by cases e) (fun _ _ e => by cases e; exact w) rfl (fun _ _ _ _ e => by cases e) (fun e => by cases e)
    | nx s2 cs2 =>
      rw [hF] at w
      obtain ⟨ys, ey, w⟩ := Fin.ofO w
      refine Fin.rebase (D := D) R1 (fun s5 cs5 e5 O5 κ5 H5 σ5 R5 => ?_) (fun _ _ e => by cases e) (fun _ _ e => by cases e) rfl (fun _ _ _ _ e => by cases e) (fun e => by cases e)
      cases e5
      by_cases hq : (noLs ys && (s2.set i .no).all okL && cs2.all noLC) = true
      · rw [if_pos hq] at w
        rw [Bool.and_eq_true, Bool.and_eq_true] at hq
        exact w _ κ5 H5 σ5 (R.reown e R1 R5 (lnt_of ey) hq.1.1 hq.1.2 hq.2)
      · rw [if_neg hq] at w; exact w.elim
  · rw [if_neg hp] at w; exact w.elim
/-- while -/
theorem sr_whl {t : CE} {n : Nat} {body : List Stmt} (hp : PassesOwn (model X.prog X.w) X.A X.env X.xe) (hc : PT X ee (tT T W (ev Φ true t))) (hb : PSs X body (tS T W fr f)) : PS X (.While ee body [] pos) (tS T W fr fun s cs => whlGo (evT Φ t) f n s cs) := by
  refine PS.by' (ps_while hp hc hb) fun D σ H hl ⟨Sc, x0, κ0, H0, O, s, κ, cs, R, w⟩ => ?_
  refine ⟨fun m σ H => ∃ O s κ cs, RF T Sc x0 κ0 H0 O s κ H cs σ ∧ Fin T W Sc x0 κ0 H0 fr D (whlGo (evT Φ t) f m s cs), ⟨n, O, s, κ, cs, R, w⟩, ?_⟩
  rintro m σ1 H1 ⟨O1, s1, κ1, cs1, R1, w1⟩
  cases m with
  | zero => exact w1.elim
  | succ m =>
    refine tT.run R1 (k := fun b s cs => if b then (match f s cs with
      | .nx s cs => whlGo (evT Φ t) f m s cs
      | .bk s cs => .nx s cs
      | .rt v cs => .rt v cs
      | .ex c pl s cs => .ex c pl s cs
      | .stuck => .stuck) else .nx s cs) w1 fun b H2 cs2 κ2 R2 w2 => ?_
    cases b with
    | false => exact w2 O1 κ2 H2 σ1 R2
    | true =>
      rw [if_pos rfl] at w2
      rw [if_pos rfl]
      refine ⟨fun σ H => ∃ O s κ cs, RF T Sc x0 κ0 H0 O s κ H cs σ ∧ Fin T W Sc x0 κ0 H0 fr D (whlGo (evT Φ t) f m s cs), fun σ' H' h => ⟨m, Nat.lt_succ_self m, h⟩, Sc, x0, κ0, H0, O1, _, κ2, cs2, R2, ?_⟩
      revert w2
      cases f (EG.keep (varE t) s1 true cs2) cs2 with
      | stuck => exact fun w => w
      | nx s4 cs4 => exact fun w O5 κ5 H5 σ5 R5 => ⟨O5, s4, κ5, cs4, R5, w⟩
      | bk s4 cs4 => exact fun w => w
      | rt v4 cs4 => exact fun w => w
      | ex c pl s4 cs4 => exact fun w => w
end
end EG

-- EngZ
/-! Engine Z: fields, items, raise, pairs. -/
namespace EG
open PySem PySem.Spec L2 PyProof.Rows
section
variable {T : CT} {Φ : Fns} {lv : Nat} {K : CKx} {W : WX} {X : Cx} {x0 : Addr} {Sc : Addr → Prop} {κ0 κ κ' κ1 : List Addr} {H0 H H' H1 : Hp} {fr : Bool} {D : Ends} {O O' : Nat → Addr} {s s1 s' : SE} {cs cs' cs1 : Cs} {σ σ' : L2.St} {i j k : Nat} {x y z : Str} {v : V} {sc : Scope} {vs : List Nat} {st : Stmt} {e ix o a b : CE} {ee oe xe : Expr} {pos px : Pos} {f g : SE → Cs → RR} {rest : List Stmt}
theorem putF_zip : ∀ {fld : List Str} {ws : List V} {x : Str} {v : V}, fld.Nodup → fld[ws.length]? = some x → putF x v (fld.zip ws) = fld.zip (ws ++ [v])
  | [], ws, x, v, _, h => by simp at h
  | y :: fld, [], x, v, _, h => by
    have : y = x := by simpa using h
    subst this
    simp [putF]
  | y :: fld, w :: ws, x, v, nd, h => by
    have h2 : fld[ws.length]? = some x := by simpa using h
    have hne : ¬ y = x := by
      rintro rfl
      exact (List.nodup_cons.mp nd).1 (List.mem_of_getElem? h2)
    rw [List.zip_cons_cons, List.cons_append, List.zip_cons_cons]
    show (if y = x then _ else _) = _
    rw [if_neg hne, putF_zip (List.nodup_cons.mp nd).2 h2]
theorem putF_set : ∀ {fld : List Str} {ws : List V} {x : Str} {v : V} {k : Nat}, fld.Nodup → fld[k]? = some x → k < ws.length → putF x v (fld.zip ws) = fld.zip (ws.set k v)
  | [], ws, x, v, k, _, h, _ => by simp at h
  | y :: fld, [], x, v, k, _, h, h2 => by simp at h2
  | y :: fld, w :: ws, x, v, 0, nd, h, _ => by
    have : y = x := by simpa using h
    subst this
    simp [putF]
  | y :: fld, w :: ws, x, v, k + 1, nd, h, h3 => by
    have h2 : fld[k]? = some x := by simpa using h
    have hne : ¬ y = x := by
      rintro rfl
      exact (List.nodup_cons.mp nd).1 (List.mem_of_getElem? h2)
    rw [List.zip_cons_cons, List.set_cons_succ, List.zip_cons_cons]
    show (if y = x then _ else _) = _
    rw [if_neg hne, putF_set (List.nodup_cons.mp nd).2 h2 (by simpa using h3)]
theorem zip_len (n : Nat) {fld : List Str} {ws : List V} (h : fld.length < n) : (fld.zip ws).length < n := by
  rw [List.length_zip]; omega
/-- the instance under construction is written -/
theorem RF.wrs {c c' : Nat} {fs gs : List IV} {us : List V} {dx : Addr} (R : RF T Sc x0 κ0 H0 O s κ H cs σ) (e : s[i]? = some (.slf c fs)) (rv : RVs T (SS Sc O s) κ H gs us) (hg : gs.length ≤ (T.fld c).length) : RF T Sc x0 κ0 H0 O (s.set i (.slf c gs)) κ (upd H (O i) (.ins (T.cls c) dx ((T.fld c).zip us))) cs σ := by
  have hon := onAt_slf e
  obtain ⟨dx0, ws, q, ha, hle, r⟩ := R.slf i c fs e
  have ns : ¬ Sealed (.ins (T.cls c) dx0 ((T.fld c).zip ws)) := fun z => z
  have hl : i < s.length := (List.getElem?_eq_some_iff.mp e).1
  have son : ∀ j, onAt (s.set i (.slf c gs)) j = onAt s j := fun j => by
    by_cases z : j = i
    · subst z
      unfold onAt
      rw [List.getElem?_set_self hl, e]
      rfl
    · exact set_on' z
  have sseq : SS Sc O (s.set i (.slf c gs)) = SS Sc O s := by
    funext a
    unfold SS
    congr 1
    simp only [son]
  have mv : Mv T (SS Sc O s) κ H (SS Sc O s) κ (upd H (O i) (.ins (T.cls c) dx ((T.fld c).zip us))) := Mv.wr ha ns (.inl (.inr ⟨i, hon, rfl⟩))
  refine ⟨?_, R.d0, by rw [sseq]; exact R.rs.wr ha ns (.inr ⟨i, hon, rfl⟩), fun j zs e2 => ?_, fun j c fs e2 => ?_, fun j h => ?_, fun j y e2 => ?_, fun j k h1 h2 => ?_, by rw [List.length_set]; exact R.len, fun j c2 fs2 e2 => ?_, fun j ys e2 => ?_⟩
  · exact R.st.wr (R.fr i hon).1 (by rw [ha]; intro z; cases z)
  · rw [sseq]
    rcases get_set e2 with ⟨rfl, z, _⟩ | ⟨hj, e2⟩
    · cases z
    · obtain ⟨vs', q', h', r'⟩ := R.own j zs e2
      exact ⟨vs', q', by rw [upd_ne fun z => hj (R.inj j i (onAt_own e2) hon z)]; exact h', mv.rvs _ _ r'⟩
  · rw [sseq]
    rcases get_set e2 with ⟨rfl, z, _⟩ | ⟨hj, e2⟩
    · cases z
      exact ⟨dx, us, q, upd_same, hg, mv.rvs _ _ rv⟩
    · obtain ⟨dx, vs', q', h', l, r'⟩ := R.slf j c fs e2
      exact ⟨dx, vs', q', by rw [upd_ne fun z => hj (R.inj j i (onAt_slf e2) hon z)]; exact h', l, mv.rvs _ _ r'⟩
  · rw [son] at h
    exact R.fr j h
  · rw [sseq]
    rcases get_set e2 with ⟨rfl, z, _⟩ | ⟨hj, e2⟩
    · cases z
    · obtain ⟨u, q', r'⟩ := R.val j y e2
      exact ⟨u, q', mv.rv _ _ r'⟩
  · rw [son] at h1 h2
    exact R.inj j k h1 h2
  · rcases get_set e2 with ⟨rfl, z, _⟩ | ⟨hj, e2⟩
    · exact R.sx j c fs e
    · exact R.sx j c2 fs2 e2
  · rw [sseq]
    rcases get_set e2 with ⟨rfl, z, _⟩ | ⟨hj, e2⟩
    · cases z
    · obtain ⟨q', r'⟩ := R.lnt j ys e2
      exact ⟨q', mv.rv _ _ r'⟩
/-- self.f = e -/
theorem sr_fset {c : Nat} {fs : List IV} (O1 : CxOk T Φ K.J lv K.N sc X) (hc : c < K.J.nc) (hx : (T.fld c)[k]? = some x) (h : PS X st (sFld X.K (tVar i) (tE T W (frE K.J.ffr e) (ev Φ false e)) x)) :
    PS X st (tS T W fr fun s cs => evK K.J.ffr Φ e s cs fun v s cs => RR.ofO (slfOf s i) fun p => if p.1 = c ∧ p.2.length = k then .nx (s.set i (.slf c (p.2 ++ [v]))) cs else .stuck) := by
  refine PS.by' h fun D σ H hl ⟨Sc, x0, κ0, H0, O, s, κ, cs, R, w⟩ => ?_
  refine tE.runV R w fun v H1 y cs1 κ1 st1 R1 rv1 w1 => ?_
  obtain ⟨⟨c', fs⟩, ex, w2⟩ := w1.ofO
  split at w2
  · rename_i hcc
    obtain ⟨hc1, hk⟩ := hcc
    dsimp only at hc1 hk
    subst hc1
    have e1 : (EG.keep (varE e) s (keepI (frE K.J.ffr e) y) cs1)[i]? = some (.slf c' fs) := by
      unfold slfOf at ex
      split at ex
      · cases ex; assumption
      · cases ex
    obtain ⟨dx, ws, q, ha, hle, r⟩ := R1.slf i c' fs e1
    obtain ⟨hcl, hna, hnd, hlt⟩ := O1.fs.cl c' hc
    have hwl : ws.length = k := by rw [← r.len]; exact hk
    refine ⟨_, q, O i, T.cls c', dx, _, rfl, ha, hcl, hna x (List.mem_of_getElem? hx), zip_len _ hlt, ?_⟩
    rw [putF_zip hnd (by rw [hwl]; exact hx)]
    refine w2 O κ1 _ σ (R1.wrs (c' := 0) e1 (r.append (RVs.cons rv1 RVs.nil)) ?_)
    rw [List.length_append, hk]
    exact (List.getElem?_eq_some_iff.mp hx).1
  · exact w2.elim
theorem RVs.set' {S : Addr → Prop} {xs : List IV} {ws : List V} {m : Nat} {x : IV} {v : V} (r : RVs T S κ H xs ws) (q : RV T S κ H x v) : RVs T S κ H (xs.set m x) (ws.set m v) := r.set m q
theorem ixN_len {xs : List IV} {ws : List V} {S : Addr → Prop} {j : Int} {m : Nat} (r : RVs T S κ H xs ws) (h : ixN xs.length j = some m) : ixN ws.length j = some m := by rw [← r.len]; exact h
theorem ss_keep {bb : Bool} {p : Addr} (h : SS Sc O (EG.keep vs s bb cs) p) : SS Sc O s p := h.imp id fun ⟨j, hj, e⟩ => ⟨j, keep_on hj, e⟩
theorem keepRV {bb : Bool} {y : IV} (h : RV T (SS Sc O s) κ H y v) : RV T (SS Sc O (EG.keep vs s bb cs)) κ H y v := (Mv.anti fun a h => ss_keep h).rv _ _ h
/-- x[i] = e, an own list -/
theorem sr_oidx (h : PS X st (tAsg (tE T W (frE K.J.ffr e) (ev Φ false e)) (gSub (tVar i) (tE T W (frE K.J.ffr ix) (ev Φ false ix)) rSetL))) :
    PS X st (tS T W fr fun s cs => evK K.J.ffr Φ e s cs fun v s cs => RR.ofO (ownOf s i) fun _ => evK K.J.ffr Φ ix s cs fun j s cs => RR.ofO (ownOf s i) fun xs => RR.ofO (intO j) fun j => RR.ofO (ixN xs.length j) fun m => .nx (s.set i (.own (xs.set m v))) cs) := by
  refine PS.by' h fun D σ H hl ⟨Sc, x0, κ0, H0, O, s, κ, cs, R, w⟩ => ?_
  refine tE.runV R w fun v H1 y cs1 κ1 st1 R1 rv1 w1 => ?_
  obtain ⟨xs0, ex0, w1⟩ := w1.ofO
  obtain ⟨us0, q0, ha0, r0⟩ := R1.own i xs0 (uQ ex0)
  refine ⟨_, q0, ?_⟩
  refine tE.runV R1 w1 fun u H2 jv cs2 κ2 st2 R2 rv2 w2 => ?_
  obtain ⟨xs, ex, w2⟩ := w2.ofO
  obtain ⟨j, ej, w2⟩ := w2.ofO
  obtain ⟨m, em, w2⟩ := w2.ofO
  obtain ⟨us, q, ha, r⟩ := R2.own i xs (uQ ex)
  cases jv <;> first | (cases ej; done) | skip
  cases ej
  unfold RV at rv2
  subst rv2
  exact ⟨O i, us, j, m, rfl, rfl, ha, ixN_len r em, w2 O κ2 _ σ (R2.wro (uQ ex) (r.set m (keepRV (st2.mv.rv _ _ rv1))))⟩
/-! ### cells -/
/-- a cell is written -/
theorem RF.wrc {n : Nat} {p : Addr} {u u' : HO} {co : CO} (R : RF T Sc x0 κ0 H0 O s κ H cs σ) (hp : κ[n]? = some p) (ho : H p = some u) (hs : ¬ Sealed u) (hn : n < cs.length) (hc : ∀ m : Mv T (SS Sc O s) κ H (SS Sc O s) κ (upd H p u'), RC T (SS Sc O s) κ (upd H p u') p co) : RF T Sc x0 κ0 H0 O s κ (upd H p u') (cs.set n co) σ := by
  have hm : p ∈ κ := List.mem_of_getElem? hp
  have mv : Mv T (SS Sc O s) κ H (SS Sc O s) κ (upd H p u') := Mv.wr ho hs (.inr hm)
  have nS : ∀ q ∈ κ, ¬ SS Sc O s q := fun q hq => by
    obtain ⟨_, _, _, _, _, n⟩ := R.rs.at hq
    exact n
  have ne : ∀ j, onAt s j = true → O j ≠ p := fun j hj e => (R.fr j hj).2 (e ▸ hm)
  refine ⟨⟨R.st.pre, R.st.fresh, fun a o e q => ?_, fun a e => ?_⟩, R.d0, ⟨R.rs.nd, by rw [List.length_set]; exact R.rs.len, fun a h => ?_, fun i o a e1 e2 => ?_⟩, fun j ys e => ?_, fun j c fs e => ?_, R.fr, fun j y e => ?_, R.inj, R.len, R.sx, fun j ys e => ⟨(R.lnt j ys e).1, mv.rv _ _ (R.lnt j ys e).2⟩⟩
  · have h2 := R.st.evo a o e q
    by_cases z : a = p
    · subst z
      rw [ho] at h2
      cases h2
      rcases q with q | q
      · exact absurd q hs
      · rcases R.st.fresh a hm with z | z
        · exact absurd z q
        · rw [e] at z; cases z
    · rw [upd_ne z]; exact h2
  · by_cases z : a = p
    · subst z; rw [upd_same] at e; cases e
    · rw [upd_ne z] at e; exact R.st.dom a e
  · by_cases z : a = p
    · subst z; rw [upd_same]; intro q; cases q
    · rw [upd_ne z]; exact R.rs.dom a h
  · by_cases hi : n = i
    · subst hi
      rw [hp] at e2
      cases e2
      rw [List.getElem?_set_self hn] at e1
      cases e1
      exact ⟨hc mv, nS p hm⟩
    · rw [List.getElem?_set_ne hi] at e1
      have hne : a ≠ p := fun z => by
        subst z
        have h1 := (List.getElem?_eq_some_iff.mp hp)
        have h2 := (List.getElem?_eq_some_iff.mp e2)
        exact hi ((List.getElem?_inj h1.1 R.rs.nd).mp (hp.trans e2.symm))
      obtain ⟨q1, q2⟩ := R.rs.cel i o a e1 e2
      exact ⟨q1.mv mv (upd_ne hne), q2⟩
  · obtain ⟨us, q, h, r⟩ := R.own j ys e
    exact ⟨us, q, by rw [upd_ne (ne j (onAt_own e))]; exact h, mv.rvs _ _ r⟩
  · obtain ⟨dx, us, q, h, l, r⟩ := R.slf j c fs e
    exact ⟨dx, us, q, by rw [upd_ne (ne j (onAt_slf e))]; exact h, l, mv.rvs _ _ r⟩
  · obtain ⟨u, q, r⟩ := R.val j y e
    exact ⟨u, q, mv.rv _ _ r⟩
/-- o[i] = e, a cell -/
theorem sr_cidx (h : PS X st (tAsg (tE T W (frE K.J.ffr e) (ev Φ false e)) (gSub (tE T W (frE K.J.ffr o) (ev Φ false o)) (tE T W (frE K.J.ffr ix) (ev Φ false ix)) rSetL))) :
    PS X st (tS T W fr fun s cs => evK K.J.ffr Φ e s cs fun v s cs => evK K.J.ffr Φ o s cs fun u s cs => evK K.J.ffr Φ ix s cs fun j s cs => RR.ofO (celL cs u) fun p => RR.ofO (intO j) fun j => RR.ofO (ixN p.2.length j) fun m => .nx s (cs.set p.1 (.lst (p.2.set m v)))) := by
  refine PS.by' h fun D σ H hl ⟨Sc, x0, κ0, H0, O, s, κ, cs, R, w⟩ => ?_
  refine tE.runV R w fun v H1 y cs1 κ1 st1 R1 rv1 w1 => ?_
  refine tE.runV R1 w1 fun u H2 uo cs2 κ2 st2 R2 rv2 w2 => ?_
  refine tE.runV R2 w2 fun w' H3 jv cs3 κ3 st3 R3 rv3 w3 => ?_
  obtain ⟨⟨n, xs⟩, ex, w3⟩ := w3.ofO
  obtain ⟨j, ej, w3⟩ := w3.ofO
  obtain ⟨m, em, w3⟩ := w3.ofO
  have rvu := st3.mv.rv _ _ rv2
  cases jv <;> first | (cases ej; done) | skip
  cases ej
  unfold RV at rv3
  subst rv3
  unfold celL at ex
  split at ex
  · rename_i n'
    split at ex
    · rename_i ys hcs
      cases ex
      unfold RV at rvu
      obtain ⟨p, rfl, hp⟩ := rvu
      obtain ⟨⟨us, ha, r⟩, nS⟩ := R3.rs.cel n _ p hcs hp
      refine ⟨p, us, j, m, rfl, rfl, ha, ixN_len r em, w3 O κ3 _ σ (R3.wrc hp ha (fun z => z) (List.getElem?_eq_some_iff.mp hcs).1 fun mv => ⟨_, upd_same, mv.rvs _ _ (r.set m (keepRV (st3.mv.rv _ _ (keepRV (st2.mv.rv _ _ rv1)))))⟩)⟩
    · cases ex
  · cases ex
/-- o.append(e), a cell -/
theorem sr_capp (hl : PE X oe (tE T W (frE K.J.ffr o) (ev Φ false o))) (he : PE X ee (tE T W (frE K.J.ffr e) (ev Φ false e))) (hs : notStar ee = true) {apos cpos : Pos} (hb : attributeBase oe "append" X.env (eval oe X.env) = eval oe X.env) (hline : (apos.endLine == cpos.line) = true) :
    PS X (.Expr (.Call (.Attribute oe "append" apos) [ee] [] cpos) pos) (tS T W fr fun s cs => evK K.J.ffr Φ o s cs fun u s cs => RR.ofO (celL cs u) fun _ => evK K.J.ffr Φ e s cs fun v s cs => RR.ofO (celL cs u) fun p => if p.2.length < 1000000 then .nx s (cs.set p.1 (.lst (p.2 ++ [v]))) else .stuck) := by
  have hp := ps_expr (pos := pos) (pe_bm (cpos := cpos) (apos := apos) PySem.F.plainAttrs_list PySem.F.slot_list_append PySem.F.type_list_append mt_append hl (pa_cons he pa_nil (star_cons hs)) hb (by rw [star_one hs]; rfl) hline (star_cons hs) rfl)
  refine PS.by' hp fun D σ H hl2 ⟨Sc, x0, κ0, H0, O, s, κ, cs, R, w⟩ => ?_
  refine tE.runV R w fun u H1 uo cs1 κ1 st1 R1 rv1 w1 => ?_
  obtain ⟨⟨n0, xs0⟩, ex0, w1⟩ := w1.ofO
  have c0 : ∃ p us, u = .ref p ∧ H1 p = some (.lst us) := by
    clear w1
    unfold celL at ex0
    split at ex0
    · rename_i n'
      split at ex0
      · rename_i ys hcs
        unfold RV at rv1
        obtain ⟨p, rfl, hp⟩ := rv1
        obtain ⟨⟨us, ha, r⟩, nS⟩ := R1.rs.cel n' _ p hcs hp
        exact ⟨p, us, rfl, ha⟩
      · cases ex0
    · cases ex0
  obtain ⟨p0, us0, rfl, hp0⟩ := c0
  refine ⟨.inl ⟨rfl, us0, SqL.of hp0⟩, ?_⟩
  refine tE.runV R1 w1 fun v H2 vo cs2 κ2 st2 R2 rv2 w2 => ?_
  obtain ⟨⟨n, xs⟩, ex, w2⟩ := w2.ofO
  have rvu := st2.mv.rv _ _ rv1
  split at w2
  · rename_i hlen
    unfold celL at ex
    split at ex
    · rename_i n'
      split at ex
      · rename_i ys hcs
        cases ex
        unfold RV at rvu
        obtain ⟨p, ep, hp⟩ := rvu
        cases ep
        obtain ⟨⟨us, ha, r⟩, nS⟩ := R2.rs.cel n _ p0 hcs hp
        refine ⟨p0, us, v, rfl, rfl, ha, ?_, w2 O κ2 _ σ (R2.wrc hp ha (fun z => z) (List.getElem?_eq_some_iff.mp hcs).1 fun mv => ⟨_, upd_same, mv.rvs _ _ (r.append (RVs.cons rv2 RVs.nil))⟩)⟩
        have := r.len
        have := line6
        dsimp only at hlen
        omega
      · cases ex
    · cases ex
  · exact w2.elim
/-- o.f = e, a cell -/
theorem sr_cfld {c : Nat} (O1 : CxOk T Φ K.J lv K.N sc X) (hc : c < K.J.nc) (hx : (T.fld c)[k]? = some x) (h : PS X st (sFld X.K (tE T W (frE K.J.ffr o) (ev Φ false o)) (tE T W (frE K.J.ffr e) (ev Φ false e)) x)) :
    PS X st (tS T W fr fun s cs => evK K.J.ffr Φ e s cs fun v s cs => evK K.J.ffr Φ o s cs fun u s cs => RR.ofO (celI cs u) fun p => if p.2.1 = c ∧ k < p.2.2.length then .nx s (cs.set p.1 (.ins c (p.2.2.set k v))) else .stuck) := by
  refine PS.by' h fun D σ H hl ⟨Sc, x0, κ0, H0, O, s, κ, cs, R, w⟩ => ?_
  refine tE.runV R w fun v H1 y cs1 κ1 st1 R1 rv1 w1 => ?_
  refine tE.runV R1 w1 fun u H2 uo cs2 κ2 st2 R2 rv2 w2 => ?_
  obtain ⟨⟨n, c', fs⟩, ex, w2⟩ := w2.ofO
  split at w2
  · rename_i hcc
    obtain ⟨hc1, hk⟩ := hcc
    dsimp only at hc1 hk
    subst hc1
    unfold celI at ex
    split at ex
    · rename_i n'
      split at ex
      · rename_i c2 fs2 hcs
        cases ex
        unfold RV at rv2
        obtain ⟨p, rfl, hp⟩ := rv2
        obtain ⟨⟨dx, us, ha, hle, r⟩, nS⟩ := R2.rs.cel n _ p hcs hp
        obtain ⟨hcl, hna, hnd, hlt⟩ := O1.fs.cl c' hc
        refine ⟨p, T.cls c', dx, _, rfl, ha, hcl, hna x (List.mem_of_getElem? hx), zip_len _ hlt, ?_⟩
        rw [putF_set hnd hx (by rw [← r.len]; exact hk)]
        exact w2 O κ2 _ σ (R2.wrc hp ha (fun z => z) (List.getElem?_eq_some_iff.mp hcs).1 fun mv => ⟨dx, _, upd_same, by rw [List.length_set]; exact hle, mv.rvs _ _ (r.set k (keepRV (st2.mv.rv _ _ rv1)))⟩)
      · cases ex
    · cases ex
  · exact w2.elim
/-- raise C('..') -/
theorem sr_raise {c : Nat} (h : PS X st (fun _ σ H => W (.ref (T.cls c)) none σ H)) : PS X st (tS T W fr fun s cs => .ex c [] s cs) :=
  PS.by' h fun D σ H hl ⟨Sc, x0, κ0, H0, O, s, κ, cs, R, w⟩ => w O κ H σ none R (.inl ⟨rfl, rfl⟩)
end
end EG

-- Eng0
/-! Engine 0: try .. except X: return .. -/
namespace EG
open PySem PySem.Spec L2 PyProof.Rows
section
variable {T : CT} {Φ : Fns} {lv : Nat} {K : CKx} {W : WX} {X Y : Cx} {fr : Bool} {sc : Scope} {pr : L2.St → Prop}
abbrev W0 : WX := fun _ _ _ _ => False
/-- a reading under a fact about the slots -/
def tQ (T : CT) (pr : L2.St → Prop) (v : IV) : TE := fun σ H Q => pr σ ∧ tE T W0 false (fun _ cs => .ok v cs) σ H Q
def tQs (T : CT) (pr : L2.St → Prop) (vs : List IV) : TA := fun σ H Q => pr σ ∧ tA T W0 (fun _ cs => .ok vs cs) σ H Q
theorem PE.q {e : Expr} {v : IV} (h : PE Y e (tE T W0 false fun _ cs => .ok v cs)) : PE Y e (tQ T pr v) := ⟨fun pins s σ H Q I w => h.run pins s σ H Q I w.2⟩
theorem sq_nil : PA Y [] (tQs T pr []) := ⟨fun pos pins s σ H Q I w => (sa_nil (T := T) (W := W0) (f := fun _ cs => .ok [] cs) fun _ _ => rfl).run pos pins s σ H Q I w.2⟩
theorem sq_cons {e : Expr} {es : List Expr} {v : IV} {vs : List IV} (h1 : PE Y e (tQ T pr v)) (h2 : PA Y es (tQs T pr vs)) (hs : starEach (e :: es) Y.env = (false, eval e Y.env) :: starEach es Y.env) : PA Y (e :: es) (tQs T pr (v :: vs)) := ⟨fun pos pins s σ H Q I ⟨hp, S, κ, env, cs, rs, re, w⟩ => by
  refine (pa_cons h1 h2 hs).run pos pins s σ H Q I ?_
  exact ⟨hp, S, κ, env, cs, rs, re, fun κ1 H1 u st1 rs1 rv1 _ => ⟨hp, S, κ1, env, cs, rs1, re.mv st1.mv, fun κ2 H2 st2 rs2 us rus => w κ2 H2 (st1.trans st2) rs2 (u :: us) (RVs.cons (st2.mv.rv _ _ rv1) rus)⟩⟩⟩
theorem sq_tup {es : List Expr} {k : Nat} {pos : Pos} {vs : List IV} (h : PA Y es (tQs T pr vs)) (hl : vs.length ≤ sizeLine) : PE Y (.Tuple es k pos) (tQ T pr (.tup vs)) := ⟨fun pins s σ H Q I ⟨hp, S, κ, env, cs, rs, re, w⟩ => by
  refine (pe_tup h).run pins s σ H Q I ?_
  exact ⟨hp, S, κ, env, cs, rs, re, fun κ2 H2 st2 rs2 us rus => ⟨by rw [← rus.len]; exact hl, fun p hq => (Wp.step (r := .ok (.tup vs) cs) w st2).newTup rs2 rus hq⟩⟩⟩
theorem sq_lst {es : List Expr} {pos : Pos} {vs : List IV} (h : PA Y es (tQs T pr vs)) (hl : vs.length ≤ sizeLine) : PE Y (.List es pos) (tQ T pr (.lst vs)) := ⟨fun pins s σ H Q I ⟨hp, S, κ, env, cs, rs, re, w⟩ => by
  refine (pe_lst h).run pins s σ H Q I ?_
  exact ⟨hp, S, κ, env, cs, rs, re, fun κ2 H2 st2 rs2 us rus => ⟨by rw [← rus.len]; exact hl, fun p hq => (Wp.step (r := .ok (.lst vs) cs) w st2).newLst rs2 rus hq⟩⟩⟩
/-- isinstance(e, Z) in a clause -/
theorem sq_isx {a D Z : Addr} {oe : Obj} {pn : List (Addr × Obj)} {i : Nat} {n z : Str} {b : Bool} {p p1 p2 pos : Pos} (C : ExcC X.K D) (hz : Zc (.ref D) none oe) (hf : ∃ vs, oe.data = .fields vs) (hg : Gl X "isinstance") (hi : X.mg "isinstance" = none)
    (hN : X.N[i]? = some n) (hv : Vis X.env.scope n) (h1 : (n == ("__debug__" : Str)) = false) (h2 : (n == ("__classdict__" : Str)) = false) (gz : Gl X z) (dz : (z == ("__debug__" : Str)) = false) (mz : X.mg z = some (.ref Z)) (hk : PySem.W.kitOne X.K (.ref D) (.ref Z) = some b) :
    PE (X.suite a ((a, oe) :: pn)) (.Call (.Name "isinstance" p) [.Name n p1, .Name z p2] [] pos) (tQ T (fun σ => σ[i]? = some (some (.ref a))) (.bl b)) := ⟨fun pins s σ H Q I ⟨hp, S, κ, env, cs, rs, re, w⟩ => by
  have hp0 := pe_callB (X := X.suite a ((a, oe) :: pn)) (p := p) (pos := pos) (x := "isinstance") (call_isE (pn := pn) C hz hf) hg hi PyProof.Rows.boot_isinstance
    (pa_cons (pe_var (X := X.suite a ((a, oe) :: pn)) (pos := p1) hN hv h1 h2) (pa_cons (pe_glob (X := X.suite a ((a, oe) :: pn)) (v := .ref Z) (pos := p2) gz mz rfl dz) pa_nil (by rfl)) (by rfl)) (by decide +kernel) (by decide +kernel) (by rfl) (by rfl)
  exact hp0.run pins s σ H Q I ⟨_, hp, .ref Z, .ref Z, b, rfl, fun u r => r, hk, w.ok rs rv_bl⟩⟩

def nmIs (N : List Str) (nm : Option Nat) (x : Str) : Bool := match nm with
  | some i => decide (N[i]? = some x)
  | none => false
def chkIsx (K : CKs) (sc : Scope) (nm : Option Nat) (z : Nat) (e : Expr) : Bool := match asCall e with
  | some (x, [ne, ze]) => (match asName ne, asName ze with
      | some n, some zn => decide (x = "isinstance") && glB sc x && nmIs K.N nm n && visB sc n && okName n && decide (z ∈ K.exs) && decide (zn = K.J.cnm z) && glB sc zn
      | _, _ => false)
  | _ => false
def chkIsv (K : CKs) (sc : Scope) (nm : Option Nat) (e : Expr) : Bool := match asCall e with
  | some (x, [ne, ze]) => (match asName ne, asName ze with
      | some n, some zn => decide (x = "isinstance") && glB sc x && nmIs K.N nm n && visB sc n && okName n && decide (zn = "ValueError") && glB sc zn
      | _, _ => false)
  | _ => false
mutual
def chkQ (K : CKs) (sc : Scope) (nm : Option Nat) : QE → Expr → Bool
  | .non, e => (match asConst e with | some c => cNon c | none => false)
  | .bl b, e => (match asConst e with | some c => cBl b c | none => false)
  | .str x, e => (match asConst e with | some c => cStr x c | none => false)
  | .isx z, e => (match asCall e with
      | some (x, [ne, ze]) => (match asName ne, asName ze with
          | some n, some zn => decide (x = "isinstance") && glB sc x && nmIs K.N nm n && visB sc n && okName n && decide (z ∈ K.exs) && decide (zn = K.J.cnm z) && glB sc zn
          | _, _ => false)
      | _ => false)
  | .isxv z, e => (match asBo e with
      | some (.And, [c1, c2], _) => chkIsx K sc nm z c1 && chkIsv K sc nm c2
      | _ => false)
  | .var _, _ => false
  | .idx _, _ => false
  | .tup as, e => (match asTup e with
      | some es => es.all notStar && decide (es.length < 1000) && chkQA K sc nm as es
      | none => false)
  | .lst as, e => (match asLst e with
      | some es => es.all notStar && decide (es.length < 1000) && chkQA K sc nm as es
      | none => false)
def chkQA (K : CKs) (sc : Scope) (nm : Option Nat) : QA → List Expr → Bool
  | .nil, [] => true
  | .cons a as, e :: es => notStar e && chkQ K sc nm a e && chkQA K sc nm as es
  | .nil, _ :: _ => false
  | .cons _ _, [] => false
end
theorem line1 : (1000 : Nat) ≤ sizeLine := by rw [sizeLine_eq]; decide
theorem qvs_len (K : CKs) (sc : Scope) (nm : Option Nat) (f : Nat → Bool) : ∀ (as : QA) (es : List Expr), chkQA K sc nm as es = true → (qvs f as).length = es.length
  | .nil, [], _ => rfl
  | .cons a as, e :: es, h => by
    unfold chkQA at h
    rw [Bool.and_eq_true] at h
    unfold qvs
    rw [List.length_cons, List.length_cons, qvs_len K sc nm f as es h.2]
  | .nil, _ :: _, h => by unfold chkQA at h; cases h
  | .cons _ _, [], h => by unfold chkQA at h; cases h
def prOf (nm : Option Nat) (a : Addr) : L2.St → Prop := fun σ => ∀ i, nm = some i → σ[i]? = some (some (.ref a))
theorem sq_isv {a D : Addr} {oe : Obj} {pn : List (Addr × Obj)} {i : Nat} {n : Str} (C : ExcC X.K D) (hz : Zc (.ref D) none oe) (hf : ∃ vs, oe.data = .fields vs) (hg : Gl X "isinstance") (hi : X.mg "isinstance" = none)
    (hN : X.N[i]? = some n) (hv : Vis X.env.scope n) (h1 : (n == ("__debug__" : Str)) = false) (h2 : (n == ("__classdict__" : Str)) = false) (gz : Gl X "ValueError") {p p1 p2 pos : Pos} (mz : X.mg "ValueError" = none) (hk : PySem.W.kitOne X.K (.ref D) (.type "ValueError") = some true) :
    PE (X.suite a ((a, oe) :: pn)) (.Call (.Name "isinstance" p) [.Name n p1, .Name "ValueError" p2] [] pos) (tQ T (fun σ => σ[i]? = some (some (.ref a))) (.bl true)) := ⟨fun pins s σ H Q I ⟨hp, S, κ, env, cs, rs, re, w⟩ => by
  have hp0 := pe_callB (X := X.suite a ((a, oe) :: pn)) (p := p) (pos := pos) (x := "isinstance") (call_isE (pn := pn) C hz hf) hg hi PyProof.Rows.boot_isinstance
    (pa_cons (pe_var (X := X.suite a ((a, oe) :: pn)) (pos := p1) hN hv h1 h2) (pa_cons (pe_bltn (X := X.suite a ((a, oe) :: pn)) (x := "ValueError") (v := .ty "ValueError") (u := .type "ValueError") (pos := p2) gz mz (by decide +kernel) rfl) pa_nil (by rfl)) (by rfl)) (by decide +kernel) (by decide +kernel) (by rfl) (by rfl)
  exact hp0.run pins s σ H Q I ⟨_, hp, .ty "ValueError", .type "ValueError", true, rfl, fun u r => r, hk, w.ok rs rv_bl⟩⟩
theorem sq_and2 {pr : L2.St → Prop} {e1 e2 : Expr} {b : Bool} {pos : Pos} (h1 : PE Y e1 (tQ T pr (.bl b))) (h2 : PE Y e2 (tQ T pr (.bl true))) : PE Y (.BoolOp .And [e1, e2] pos) (tQ T pr (.bl b)) := ⟨fun pins s σ H Q I ⟨hp, S, κ, env, cs, rs, re, w⟩ => by
  refine (pe_and (pos := pos) h1 (pe_one (pos := pos) (op := .And) h2)).run pins s σ H Q I ?_
  refine ⟨hp, S, κ, env, cs, rs, re, fun κ1 H1 u st1 rs1 rv1 hh => ?_⟩
  have ru : u = .bl b := by unfold RV at rv1; exact rv1
  refine ⟨b, ru, ?_⟩
  cases b with
  | true => exact ⟨hp, S, κ1, env, cs, rs1, re.mv st1.mv, fun κ2 H2 u2 st2 rs2 rv2 h3 => w κ2 H2 u2 (st1.trans st2) rs2 rv2 fun z => nomatch z⟩
  | false => subst ru; exact w κ1 H1 (.bl false) st1 rs1 rv1 hh⟩
mutual
theorem okQ (S : SxOk T Φ lv K sc X W) {nm : Option Nat} {a : Addr} {oe : Obj} {pn : List (Addr × Obj)} {c : Nat} (hc : Φ.xok c = true) (hz : Zc (.ref (T.cls c)) none oe) (hf : ∃ vs, oe.data = .fields vs) : ∀ (q : QE) (e : Expr), chkQ K.cs sc nm q e = true → PE (X.suite a ((a, oe) :: pn)) e (tQ T (prOf nm a) (qv (Φ.xsub c) q))
  | .non, e, h => by
    unfold chkQ at h
    split at h
    · rename_i k hk
      obtain ⟨j, p, rfl⟩ := asConst_ok hk
      cases k <;> first | (cases h; done) | exact PE.q se_non
    · cases h
  | .bl b, e, h => by
    unfold chkQ at h
    split at h
    · rename_i k hk
      obtain ⟨j, p, rfl⟩ := asConst_ok hk
      cases k <;> first | (cases h; done) | skip
      unfold cBl at h
      rw [eq_of_beq h]
      exact PE.q se_bl
    · cases h
  | .str x, e, h => by
    unfold chkQ at h
    split at h
    · rename_i k hk
      obtain ⟨j, p, rfl⟩ := asConst_ok hk
      cases k <;> first | (cases h; done) | skip
      unfold cStr at h
      rw [of_decide_eq_true h]
      exact PE.q se_str
    · cases h
  | .isx z, e, h => by
    unfold chkQ at h
    split at h
    · rename_i x ne ze hx
      split at h
      · rename_i n zn hn hzn
        obtain ⟨p, pos, rfl⟩ := asCall_ok hx
        obtain ⟨p1, rfl⟩ := asName_ok hn
        obtain ⟨p2, rfl⟩ := asName_ok hzn
        simp only [Bool.and_eq_true, decide_eq_true_eq] at h
        obtain ⟨⟨⟨⟨⟨⟨⟨rfl, h1⟩, h2⟩, h3⟩, h4⟩, h5⟩, rfl⟩, h7⟩ := h
        unfold nmIs at h2
        split at h2
        · rename_i i
          have r := sq_isx (T := T) (a := a) (pn := pn) (p := p) (p1 := p1) (p2 := p2) (pos := pos) (S.xc c hc).1 hz hf (glB_ok S.O h1).1 S.O.fs.isi (S.O.hN ▸ of_decide_eq_true h2) (visB_X S.O h3) (okName_ok h4).1 (okName_ok h4).2 (glB_ok S.O h7).1 (glB_ok S.O h7).2 (S.xm z h5) ((S.xc c hc).2 z h5).2
          exact ⟨fun pins s σ H Q I w => r.run pins s σ H Q I ⟨w.1 i rfl, w.2⟩⟩
        · cases h2
      · cases h
    · cases h
  | .isxv z, e, h => by
    unfold chkQ at h
    split at h
    · rename_i c1 c2 pp hb
      have hbo := asBo_ok hb
      subst hbo
      clear hb
      rw [Bool.and_eq_true] at h
      obtain ⟨ha, hb⟩ := h
      unfold chkIsx at ha
      unfold chkIsv at hb
      split at ha
      · rename_i x ne ze hx
        split at ha
        · rename_i n zn hn hzn
          obtain ⟨p, pos, rfl⟩ := asCall_ok hx
          obtain ⟨p1, rfl⟩ := asName_ok hn
          obtain ⟨p2, rfl⟩ := asName_ok hzn
          simp only [Bool.and_eq_true, decide_eq_true_eq] at ha
          obtain ⟨⟨⟨⟨⟨⟨⟨rfl, h1⟩, h2⟩, h3⟩, h4⟩, h5⟩, rfl⟩, h7⟩ := ha
          split at hb
          · rename_i x' ne' ze' hx'
            split at hb
            · rename_i n' zn' hn' hzn'
              obtain ⟨p', pos', rfl⟩ := asCall_ok hx'
              obtain ⟨p1', rfl⟩ := asName_ok hn'
              obtain ⟨p2', rfl⟩ := asName_ok hzn'
              simp only [Bool.and_eq_true, decide_eq_true_eq] at hb
              obtain ⟨⟨⟨⟨⟨⟨rfl, g1⟩, g2⟩, g3⟩, g4⟩, rfl⟩, g7⟩ := hb
              unfold nmIs at h2 g2
              cases nm with
              | none => cases h2
              | some i =>
                have r := sq_isx (T := T) (a := a) (pn := pn) (p := p) (p1 := p1) (p2 := p2) (pos := pos) (S.xc c hc).1 hz hf (glB_ok S.O h1).1 S.O.fs.isi (S.O.hN ▸ of_decide_eq_true h2) (visB_X S.O h3) (okName_ok h4).1 (okName_ok h4).2 (glB_ok S.O h7).1 (glB_ok S.O h7).2 (S.xm z h5) ((S.xc c hc).2 z h5).2
                have r2 := sq_isv (T := T) (a := a) (pn := pn) (p := p') (p1 := p1') (p2 := p2') (pos := pos') (S.xc c hc).1 hz hf (glB_ok S.O g1).1 S.O.fs.isi (S.O.hN ▸ of_decide_eq_true g2) (visB_X S.O g3) (okName_ok g4).1 (okName_ok g4).2 (glB_ok S.O g7).1 (S.xv c hc).1 (S.xv c hc).2
                have r3 := sq_and2 (pos := pp) r r2
                exact ⟨fun pins s σ H Q I w => r3.run pins s σ H Q I ⟨w.1 i rfl, w.2⟩⟩
            · cases hb
          · cases hb
        · cases ha
      · cases ha
    · cases h
  | .var _, _, h => by unfold chkQ at h; cases h
  | .idx _, _, h => by unfold chkQ at h; cases h
  | .tup as, e, h => by
    unfold chkQ at h
    split at h
    · rename_i es hes
      obtain ⟨k, p, rfl⟩ := asTup_ok hes
      simp only [Bool.and_eq_true, decide_eq_true_eq] at h
      unfold qv
      exact sq_tup (okQA S hc hz hf as es h.2) (by rw [qvs_len _ _ _ _ _ _ h.2]; exact Nat.le_trans (Nat.le_of_lt h.1.2) line1)
    · cases h
  | .lst as, e, h => by
    unfold chkQ at h
    split at h
    · rename_i es hes
      obtain ⟨p, rfl⟩ := asLst_ok hes
      simp only [Bool.and_eq_true, decide_eq_true_eq] at h
      unfold qv
      exact sq_lst (okQA S hc hz hf as es h.2) (by rw [qvs_len _ _ _ _ _ _ h.2]; exact Nat.le_trans (Nat.le_of_lt h.1.2) line1)
    · cases h
theorem okQA (S : SxOk T Φ lv K sc X W) {nm : Option Nat} {a : Addr} {oe : Obj} {pn : List (Addr × Obj)} {c : Nat} (hc : Φ.xok c = true) (hz : Zc (.ref (T.cls c)) none oe) (hf : ∃ vs, oe.data = .fields vs) : ∀ (as : QA) (es : List Expr), chkQA K.cs sc nm as es = true → PA (X.suite a ((a, oe) :: pn)) es (tQs T (prOf nm a) (qvs (Φ.xsub c) as))
  | .nil, [], _ => sq_nil
  | .cons q as, e :: es, h => by
    unfold chkQA at h
    simp only [Bool.and_eq_true] at h
    unfold qvs
    exact sq_cons (okQ S hc hz hf q e h.1.2) (okQA S hc hz hf as es h.2) (star_cons h.1.1)
  | .nil, _ :: _, h => by unfold chkQA at h; cases h
  | .cons _ _, [], h => by unfold chkQA at h; cases h
end
/-- what the clause does -/
def tClause (T : CT) (Φ : Fns) (nm : Option Nat) (q : QE) (a : Addr) (cls : Value) (d : Option Addr) : TS := fun D σ H => ∃ c, cls = .ref (T.cls c) ∧ d = none ∧ Φ.xok c = true ∧ tQ T (prOf nm a) (qv (Φ.xsub c) q) σ H D.rt
theorem clause_ok (S : SxOk T Φ lv K sc X W) {nm : Option Nat} {q : QE} {e : Expr} {rp : Pos} (h : chkQ K.cs sc nm q e = true) {a : Addr} {oe : Obj} {cls : Value} {d : Option Addr} {pn : List (Addr × Obj)} (hz : Zc cls d oe) (hf : ∃ vs, oe.data = .fields vs) : PSs (X.suite a ((a, oe) :: pn)) [.Return (some e) rp] (tClause T Φ nm q a cls d) :=
  ⟨fun pins s σ H D I ⟨c, e1, e2, hc, w⟩ => by
    subst e1 e2
    exact (pss_one (ps_ret (pos := rp) (okQ S hc hz hf q e h))).run pins s σ H D I w⟩
/-- what is wanted, within the try -/
theorem fin_try {Sc : Addr → Prop} {x0 : Addr} {κ0 : List Addr} {H0 : Hp} {D : Ends} {c : Nat} {nm : Option Nat} {q : QE} {W' : WX}
    (hW : ∀ c' σ H, Φ.xok c' = true → (∀ i, nm = some i → i < σ.length) → (Φ.xsub c' c = true → fr = false ∧ ∀ a σ', H a = none → (∀ i, nm = some i → σ' = σ.set i (some (.ref a))) → (nm = none → σ' = σ) → tClause T Φ nm q a (.ref (T.cls c')) none D σ' H) → (Φ.xsub c' c = false → W (.ref (T.cls c')) none σ H) → W' (.ref (T.cls c')) none σ H) :
    ∀ r : RR, Fin T W Sc x0 κ0 H0 fr D (tryD Φ fr c nm q r) → Fin T W' Sc x0 κ0 H0 fr D r
  | .nx s cs, w => w
  | .bk s cs, w => w
  | .rt v cs, w => w
  | .ex c' pl s cs, w => by
    have w : Fin T W Sc x0 κ0 H0 fr D (if (Φ.xok c' && pl.isEmpty && inL nm s.length) = true then (if Φ.xsub c' c then (if fr then .stuck else .rt (qv (Φ.xsub c') q) cs) else .ex c' pl s cs) else .stuck) := w
    split at w
    · rename_i hx
      simp only [Bool.and_eq_true] at hx
      obtain ⟨⟨h1, h2⟩, h3⟩ := hx
      have hpl : pl = [] := List.isEmpty_iff.mp h2
      subst hpl
      intro O κ H σ d R x
      have hd : d = none := by
        rcases x with x | ⟨_, _, _, _, z, _⟩
        · exact x.2
        · cases z
      subst hd
      refine hW c' σ H h1 (fun i hi => ?_) (fun hs => ?_) (fun hs => ?_)
      · subst hi
        rw [← R.len]
        exact of_decide_eq_true h3
      · rw [hs, if_pos rfl] at w
        cases fr with
        | true => exact w.elim
        | false =>
          refine ⟨rfl, fun a σ' ha h4 h5 => ⟨c', rfl, rfl, h1, fun i hi => ?_, Sc, κ, [], cs, R.rs.sub fun b h => .inl h, fun i x e => by simp at e, fun κ' H' v st rs rv _ => ?_⟩⟩
          · rw [h4 i hi]
            have : i < σ.length := by
              subst hi
              rw [← R.len]
              exact of_decide_eq_true h3
            rw [List.getElem?_set_self this]
          · exact w κ' H' v (R.st.trans st) rs rv fun z => nomatch z
      · rw [hs] at w
        exact w O κ H σ none R x
    · exact w.elim
  | .stuck, w => w
/-- a clause that counts -/
def tClauseI (i : Nat) : TS := fun D σ H => ∃ n : Int, σ[i]? = some (some (.int n)) ∧ D.nx (σ.set i (some (.int (n + 1)))) H
theorem clauseI_ok (S : SxOk T Φ lv K sc X W) {i : Nat} {y : Str} {p1 p2 p3 p4 p5 : Pos} {j : Nat} (hN : K.cs.N[i]? = some y) (hv : visB sc y = true) (ho : okName y = true) (hl : Loc X.env.scope y) (hf : X.fn y = true ∨ X.env.scope.names.lookup y = some .local) {a : Addr} {oe : Obj} {pn : List (Addr × Obj)} :
    PSs (X.suite a ((a, oe) :: pn)) [.Assign [.Name y p1] (.BinOp (.Name y p2) .Add (.Constant (.int 1) j p3) p4) p5] (tClauseI i) :=
  ⟨fun pins s σ H D I ⟨n, hi, w⟩ => by
    have hV : Vis X.env.scope y := visB_X S.O hv
    have hN' : X.N[i]? = some y := S.O.hN ▸ hN
    have ho' := okName_ok ho
    have he := pe_op (X := X.suite a ((a, oe) :: pn)) (pos := p4) op_add (pe_var (X := X.suite a ((a, oe) :: pn)) (pos := p2) hN' hV ho'.1 ho'.2) (pe_int (X := X.suite a ((a, oe) :: pn)) (i := 1) (j := j) (pos := p3))
    exact (pss_one (ps_set (X := X.suite a ((a, oe) :: pn)) (pos := p5) (pos' := p1) S.O.nd hN' hl he rfl hf)).run pins s σ H D I ⟨.int n, hi, n, 1, rfl, rfl, w⟩⟩
theorem intOf_ok {s : SE} {i : Nat} {n : Int} (h : intOf s i = some n) : s[i]? = some (.val (.int n)) := by
  unfold intOf at h
  split at h
  · rename_i e; cases h; exact e
  · cases h
theorem fin_tryI {Sc : Addr → Prop} {x0 : Addr} {κ0 : List Addr} {H0 : Hp} {D : Ends} {c i : Nat} {W' : WX}
    (hW : ∀ c' σ H, Φ.xok c' = true → (Φ.xsub c' c = true → tClauseI i D σ H) → (Φ.xsub c' c = false → W (.ref (T.cls c')) none σ H) → W' (.ref (T.cls c')) none σ H) :
    ∀ r : RR, Fin T W Sc x0 κ0 H0 fr D (tryDI Φ c i r) → Fin T W' Sc x0 κ0 H0 fr D r
  | .nx s cs, w => w
  | .bk s cs, w => w
  | .rt v cs, w => w
  | .ex c' pl s cs, w => by
    have w : Fin T W Sc x0 κ0 H0 fr D (if (Φ.xok c' && pl.isEmpty) = true then (if Φ.xsub c' c then RR.ofO (intOf s i) (fun n => .nx (s.set i (.val (.int (n + 1)))) cs) else .ex c' pl s cs) else .stuck) := w
    split at w
    · rename_i hx
      simp only [Bool.and_eq_true] at hx
      obtain ⟨h1, h2⟩ := hx
      have hpl : pl = [] := List.isEmpty_iff.mp h2
      subst hpl
      intro O κ H σ d R x
      have hd : d = none := by
        rcases x with x | ⟨_, _, _, _, z, _⟩
        · exact x.2
        · cases z
      subst hd
      refine hW c' σ H h1 (fun hs => ?_) (fun hs => ?_)
      · rw [hs, if_pos rfl] at w
        cases hn : intOf s i with
        | none => rw [hn] at w; exact w.elim
        | some n =>
          rw [hn] at w
          obtain ⟨v, hv, rv⟩ := R.val i _ (intOf_ok hn)
          have hvn : v = .int n := by unfold RV at rv; exact rv
          subst hvn
          have w : Fin T W Sc x0 κ0 H0 fr D (.nx (s.set i (.val (.int (n + 1)))) cs) := w
          exact ⟨n, hv, w O κ H _ (R.setv (by unfold RV; rfl))⟩
      · rw [hs] at w
        exact w O κ H σ none R x
    · exact w.elim
  | .stuck, w => w
theorem names_ok (S : SxOk T Φ lv K sc X W) {c : Nat} {x : Str} (hc : c ∈ K.exs) (hx : x = K.J.cnm c) (hg : glB sc x = true) : Names X x (.ref (T.cls c)) := by
  subst hx
  exact ⟨(glB_ok S.O hg).1, (glB_ok S.O hg).2, .inl (S.xm c hc)⟩
end
def nmOk (N : List Str) (sc : Scope) (nm : Option Nat) (n : Option Str) : Bool := match nm, n with
  | none, none => true
  | some i, some y => decide (N[i]? = some y) && decide (sc.names.lookup y = some .local)
  | _, _ => false
end EG

-- Enga
/-! Engine a: several clauses, with, op=, attributes as targets, pop. -/
namespace EG
open PySem PySem.Spec L2 PyProof.Rows
section
variable {T : CT} {Φ : Fns} {lv : Nat} {K : CKx} {W : WX} {X Y : Cx} {x0 : Addr} {Sc : Addr → Prop} {κ0 κ κ' : List Addr} {H0 H H' : Hp} {fr : Bool} {D : Ends} {O : Nat → Addr} {s s' : SE} {cs cs' : Cs} {σ : L2.St} {i j k : Nat} {x y : Str} {v : V} {sc : Scope} {st : Stmt} {e : CE} {ee oe : Expr} {pos px : Pos} {f g : SE → Cs → RR} {pr : L2.St → Prop}
/-! ### clauses -/
theorem sq_var {z : Str} {p : Pos} {n : Int} (hN : Y.N[i]? = some z) (hv : Vis Y.env.scope z) (h1 : (z == ("__debug__" : Str)) = false) (h2 : (z == ("__classdict__" : Str)) = false) (hp : ∀ σ, pr σ → σ[i]? = some (some (.int n))) : PE Y (.Name z p) (tQ T pr (.int n)) := ⟨fun pins s σ H Q I ⟨q, S, κ, env, cs, rs, re, w⟩ => (pe_var hN hv h1 h2).run pins s σ H Q I ⟨.int n, hp σ q, w κ H (.int n) Stp.rfl' rs (by unfold RV; rfl) fun z => nomatch z⟩⟩
theorem ixT_ok : ∀ {xs : List IV} {vs : List V} {S : Addr → Prop} {n : Nat}, (xs.all fun x => match x with | .bl _ => true | _ => false) = true → RVs T S κ H xs vs → ixT xs = some n →
    (vs.all flatV = true) ∧ vs[n]? = some (.bl true) ∧ ∀ (m : Nat) (z : V), m < n → vs[m]? = some z → eqV z (.bl true) = false
  | [], vs, S, n, ha, r, h => by cases h
  | x :: xs, vs, S, n, ha, r, h => by
    unfold RVs at r
    obtain ⟨v, t, rfl, r1, r2⟩ := r
    rw [List.all_cons, Bool.and_eq_true] at ha
    cases x <;> first | (exact Bool.noConfusion ha.1) | skip
    rename_i b
    unfold RV at r1
    subst r1
    have all : ∀ (xs : List IV) (vs : List V), (xs.all fun x => match x with | .bl _ => true | _ => false) = true → RVs T S κ H xs vs → vs.all flatV = true := by
      intro xs
      induction xs with
      | nil => intro vs _ r; unfold RVs at r; subst r; rfl
      | cons x xs ih =>
        intro vs ha r
        unfold RVs at r
        obtain ⟨v, t, rfl, r1, r2⟩ := r
        rw [List.all_cons, Bool.and_eq_true] at ha
        cases x <;> first | (exact Bool.noConfusion ha.1) | skip
        unfold RV at r1
        subst r1
        rw [List.all_cons, ih t ha.2 r2]
        rfl
    refine ⟨by rw [List.all_cons, all xs t ha.2 r2]; rfl, ?_⟩
    cases b with
    | true =>
      cases h
      exact ⟨rfl, fun m z hm => absurd hm (Nat.not_lt_zero m)⟩
    | false =>
      unfold ixT at h
      cases hx : ixT xs with
      | none => rw [hx] at h; cases h
      | some m =>
        rw [hx] at h
        cases h
        obtain ⟨_, h1, h2⟩ := ixT_ok ha.2 r2 hx
        refine ⟨h1, fun k z hk hz => ?_⟩
        cases k with
        | zero => cases hz; rfl
        | succ k => exact h2 k z (by have : k + 1 < m + 1 := hk; omega) hz
/-- [..].index(True) -/
theorem sq_idx {es : List Expr} {vs : List IV} {n j : Nat} {lp ap p cpos : Pos} (hl : vs.length ≤ sizeLine) (h : PA Y es (tQs T pr vs)) (hb : (vs.all fun x => match x with | .bl _ => true | _ => false) = true) (hi : ixT vs = some n) (hline : (ap.endLine == cpos.line) = true) :
    PE Y (.Call (.Attribute (.List es lp) "index" ap) [.Constant (.bool true) j p] [] cpos) (tQ T pr (.int n)) := ⟨fun pins s σ H Q I ⟨q, S, κ, env, cs, rs, re, w⟩ => by
  have hp := pe_bm (cpos := cpos) (apos := ap) PySem.F.plainAttrs_list PySem.F.slot_list_index PySem.F.type_list_index mt_index (sq_lst (pos := lp) h hl) (pa_cons (pe_bl (b := true) (j := j) (pos := p)) pa_nil (by rfl)) (by rfl) (by rfl) hline (by rfl) (by rfl)
  refine hp.run pins s σ H Q I ?_
  refine ⟨q, S, κ, env, cs, rs, re, fun κ1 H1 u st1 rs1 rv1 _ => ?_⟩
  obtain ⟨a, us, rfl, hq, r⟩ := rv_ref_lst rv1
  obtain ⟨h1, h2, h3⟩ := ixT_ok hb r hi
  refine ⟨.inl ⟨rfl, us, hq.sql⟩, ?_⟩
  exact ⟨a, us, .bl true, n, .bl true, rfl, rfl, hq.sql, rfl, h1, h2, rfl, h3, w κ1 H1 _ st1 rs1 (by unfold RV; rfl) fun z => nomatch z⟩⟩
def isTrueC (e : Expr) : Bool := match asConst e with
  | some (.bool true) => true
  | _ => false
theorem isTrueC_ok {e : Expr} (h : isTrueC e = true) : ∃ j p, e = .Constant (.bool true) j p := by
  unfold isTrueC at h
  split at h
  · rename_i hk
    exact asConst_ok hk
  · cases h
mutual
def chkX (K : CKs) (sc : Scope) (nm : Option Nat) : QE → Expr → Bool
  | .non, e => chkQ K sc nm .non e
  | .bl b, e => chkQ K sc nm (.bl b) e
  | .str x, e => chkQ K sc nm (.str x) e
  | .isx z, e => chkQ K sc nm (.isx z) e
  | .isxv z, e => chkQ K sc nm (.isxv z) e
  | .tup as, e => (match asTup e with
      | some es => es.all notStar && decide (es.length < 1000) && chkXA K sc nm as es
      | none => false)
  | .lst as, e => (match asLst e with
      | some es => es.all notStar && decide (es.length < 1000) && chkXA K sc nm as es
      | none => false)
  | .var i, e => (match asName e with
      | some z => decide (K.N[i]? = some z) && visB sc z && okName z
      | none => false)
  | .idx as, e => (match asMeth e with
      | some (oe, m, [te], l) => decide (m = "index") && l && isTrueC te && (match asLst oe with
          | some es => es.all notStar && decide (es.length < 1000) && chkXA K sc nm as es
          | none => false)
      | _ => false)
def chkXA (K : CKs) (sc : Scope) (nm : Option Nat) : QA → List Expr → Bool
  | .nil, [] => true
  | .cons a as, e :: es => notStar e && chkX K sc nm a e && chkXA K sc nm as es
  | .nil, _ :: _ => false
  | .cons _ _, [] => false
end
theorem qxs_len (K : CKs) (sc : Scope) (nm : Option Nat) (f : Nat → Bool) (g : Nat → Option Int) : ∀ (as : QA) (es : List Expr) (vs : List IV), chkXA K sc nm as es = true → qxs f g as = some vs → vs.length = es.length
  | .nil, [], vs, _, h => by cases h; rfl
  | .cons a as, e :: es, vs, hc, h => by
    unfold chkXA at hc
    rw [Bool.and_eq_true] at hc
    unfold qxs at h
    cases h1 : qx f g a with
    | none => rw [h1] at h; cases h
    | some x =>
      rw [h1] at h
      cases h2 : qxs f g as with
      | none => rw [h2] at h; cases h
      | some xs =>
        rw [h2] at h
        cases h
        rw [List.length_cons, List.length_cons, qxs_len K sc nm f g as es xs hc.2 h2]
  | .nil, _ :: _, _, h, _ => by unfold chkXA at h; cases h
  | .cons _ _, [], _, h, _ => by unfold chkXA at h; cases h
/-- what is known of the names in a clause -/
def prX (nm : Option Nat) (a : Addr) (g : Nat → Option Int) : L2.St → Prop := fun σ => prOf nm a σ ∧ ∀ i n, g i = some n → σ[i]? = some (some (.int n))
theorem tQ.weak {pr pr' : L2.St → Prop} {v : IV} (h : ∀ σ, pr' σ → pr σ) (w : PE Y ee (tQ T pr v)) : PE Y ee (tQ T pr' v) := ⟨fun pins s σ H Q I q => w.run pins s σ H Q I ⟨h σ q.1, q.2⟩⟩
mutual
theorem okX (S : SxOk T Φ lv K sc X W) {nm : Option Nat} {a : Addr} {oe : Obj} {pn : List (Addr × Obj)} {c : Nat} {g : Nat → Option Int} (hc : Φ.xok c = true) (hz : Zc (.ref (T.cls c)) none oe) (hf : ∃ vs, oe.data = .fields vs) : ∀ (q : QE) (e : Expr) (v : IV), chkX K.cs sc nm q e = true → qx (Φ.xsub c) g q = some v → PE (X.suite a ((a, oe) :: pn)) e (tQ T (prX nm a g) v)
  | .non, e, v, h, hv => by cases hv; exact tQ.weak (fun σ q => q.1) (okQ S hc hz hf .non e h)
  | .bl b, e, v, h, hv => by cases hv; exact tQ.weak (fun σ q => q.1) (okQ S hc hz hf (.bl b) e h)
  | .str x, e, v, h, hv => by cases hv; exact tQ.weak (fun σ q => q.1) (okQ S hc hz hf (.str x) e h)
  | .isx z, e, v, h, hv => by cases hv; exact tQ.weak (fun σ q => q.1) (okQ S hc hz hf (.isx z) e h)
  | .isxv z, e, v, h, hv => by cases hv; exact tQ.weak (fun σ q => q.1) (okQ S hc hz hf (.isxv z) e h)
  | .tup as, e, v, h, hv => by
    unfold chkX at h
    split at h
    · rename_i es hes
      obtain ⟨k, p, rfl⟩ := asTup_ok hes
      simp only [Bool.and_eq_true, decide_eq_true_eq] at h
      unfold qx at hv
      cases hq : qxs (Φ.xsub c) g as with
      | none => rw [hq] at hv; cases hv
      | some vs =>
        rw [hq] at hv
        cases hv
        exact sq_tup (okXA S hc hz hf as es vs h.2 hq) (by rw [qxs_len _ _ _ _ _ _ _ _ h.2 hq]; exact Nat.le_trans (Nat.le_of_lt h.1.2) line1)
    · cases h
  | .lst as, e, v, h, hv => by
    unfold chkX at h
    split at h
    · rename_i es hes
      obtain ⟨p, rfl⟩ := asLst_ok hes
      simp only [Bool.and_eq_true, decide_eq_true_eq] at h
      unfold qx at hv
      cases hq : qxs (Φ.xsub c) g as with
      | none => rw [hq] at hv; cases hv
      | some vs =>
        rw [hq] at hv
        cases hv
        exact sq_lst (okXA S hc hz hf as es vs h.2 hq) (by rw [qxs_len _ _ _ _ _ _ _ _ h.2 hq]; exact Nat.le_trans (Nat.le_of_lt h.1.2) line1)
    · cases h
  | .var i, e, v, h, hv => by
    unfold chkX at h
    split at h
    · rename_i z hz
      obtain ⟨p, rfl⟩ := asName_ok hz
      simp only [Bool.and_eq_true, decide_eq_true_eq] at h
      unfold qx at hv
      cases hg : g i with
      | none => rw [hg] at hv; cases hv
      | some n =>
        rw [hg] at hv
        cases hv
        exact sq_var (Y := X.suite a ((a, oe) :: pn)) (S.O.hN ▸ h.1.1) (show Vis X.env.scope z from visB_X S.O h.1.2) (okName_ok h.2).1 (okName_ok h.2).2 fun σ q => q.2 i n hg
    · cases h
  | .idx as, e, v, h, hv => by
    unfold chkX at h
    split at h
    · rename_i le m te l hm
      obtain ⟨ap, cp, rfl, hl⟩ := asMeth_ok hm
      simp only [Bool.and_eq_true, decide_eq_true_eq] at h
      obtain ⟨⟨⟨rfl, rfl⟩, h3⟩, h4⟩ := h
      obtain ⟨j, p, rfl⟩ := isTrueC_ok h3
      split at h4
      · rename_i es hes
        obtain ⟨lp, rfl⟩ := asLst_ok hes
        simp only [Bool.and_eq_true, decide_eq_true_eq] at h4
        unfold qx at hv
        cases hq : qxs (Φ.xsub c) g as with
        | none => rw [hq] at hv; cases hv
        | some vs =>
          rw [hq] at hv
          have hv : (if vs.all (fun x => match x with | .bl _ => true | _ => false) then (ixT vs).map fun n => IV.int n else none) = some v := hv
          split at hv
          · rename_i hb
            cases hi : ixT vs with
            | none => rw [hi] at hv; cases hv
            | some n =>
              rw [hi] at hv
              cases hv
              exact sq_idx (by rw [qxs_len _ _ _ _ _ _ _ _ h4.2 hq]; exact Nat.le_trans (Nat.le_of_lt h4.1.2) line1) (okXA S hc hz hf as es vs h4.2 hq) hb hi hl
          · cases hv
      · cases h4
    · cases h
theorem okXA (S : SxOk T Φ lv K sc X W) {nm : Option Nat} {a : Addr} {oe : Obj} {pn : List (Addr × Obj)} {c : Nat} {g : Nat → Option Int} (hc : Φ.xok c = true) (hz : Zc (.ref (T.cls c)) none oe) (hf : ∃ vs, oe.data = .fields vs) : ∀ (as : QA) (es : List Expr) (vs : List IV), chkXA K.cs sc nm as es = true → qxs (Φ.xsub c) g as = some vs → PA (X.suite a ((a, oe) :: pn)) es (tQs T (prX nm a g) vs)
  | .nil, [], vs, _, hv => by cases hv; exact sq_nil
  | .cons q as, e :: es, vs, h, hv => by
    unfold chkXA at h
    simp only [Bool.and_eq_true] at h
    unfold qxs at hv
    cases h1 : qx (Φ.xsub c) g q with
    | none => rw [h1] at hv; cases hv
    | some x =>
      rw [h1] at hv
      cases h2 : qxs (Φ.xsub c) g as with
      | none => rw [h2] at hv; cases hv
      | some xs =>
        rw [h2] at hv
        cases hv
        exact sq_cons (okX S hc hz hf q e x h.1.2 h1) (okXA S hc hz hf as es xs h.2 h2) (star_cons h.1.1)
  | .nil, _ :: _, _, h, _ => by unfold chkXA at h; cases h
  | .cons _ _, [], _, h, _ => by unfold chkXA at h; cases h
end
def asHd : ExceptHandler → Option (Str × Option Str × Expr)
  | .ExceptHandler (some (.Name x _)) n [.Return (some e) _] _ => some (x, n, e)
  | _ => none
theorem asHd_ok {h : ExceptHandler} {x : Str} {n : Option Str} {e : Expr} (q : asHd h = some (x, n, e)) : ∃ p p2 p3, h = .ExceptHandler (some (.Name x p)) n [.Return (some e) p2] p3 := by
  unfold asHd at q
  split at q
  · cases q; exact ⟨_, _, _, rfl⟩
  · cases q
def chkHs (K : CKs) (sc : Scope) : List (Nat × Option Nat × QE) → List ExceptHandler → Bool
  | [], [] => true
  | p :: r, h :: hs => (match asHd h with
      | some (x, n, e) => decide (p.1 ∈ K.exs) && decide (x = K.J.cnm p.1) && glB sc x && nmOk K.N sc p.2.1 n && chkX K sc p.2.1 p.2.2 e
      | none => false) && chkHs K sc r hs
  | [], _ :: _ => false
  | _ :: _, [] => false
/-- what such a clause does -/
def tClX (T : CT) (Φ : Fns) (p : Nat × Option Nat × QE) (a : Addr) (cls : Value) (d : Option Addr) : TS := fun D σ H => ∃ c g v, cls = .ref (T.cls c) ∧ d = none ∧ Φ.xok c = true ∧ qx (Φ.xsub c) g p.2.2 = some v ∧ tQ T (prX p.2.1 a g) v σ H D.rt
def clOf (T : CT) (Φ : Fns) (p : Nat × Option Nat × QE) : Cl := (.ref (T.cls p.1), p.2.1, tClX T Φ p)
theorem cls_ok (S : SxOk T Φ lv K sc X W) : ∀ (ps : List (Nat × Option Nat × QE)) (hds : List ExceptHandler), chkHs K.cs sc ps hds = true → ClsOk X hds (ps.map (clOf T Φ))
  | [], [], _ => .nil
  | (c0, nm, q0) :: r, h :: hs, hk => by
    unfold chkHs at hk
    rw [Bool.and_eq_true] at hk
    obtain ⟨h1, h2⟩ := hk
    split at h1
    · rename_i x n e hh
      obtain ⟨p1, p2, p3, rfl⟩ := asHd_ok hh
      simp only [Bool.and_eq_true, decide_eq_true_eq] at h1
      obtain ⟨⟨⟨⟨g1, g2⟩, g3⟩, g4⟩, g5⟩ := h1
      refine .cons (names_ok S g1 g2 g3) ?_ (fun a oe cls d pn hz hf => ⟨fun pins s σ H D I ⟨c, g, v, e1, e2, hc, hv, w⟩ => ?_⟩) (cls_ok S r hs h2)
      · unfold nmOk at g4
        split at g4
        · trivial
        · rw [Bool.and_eq_true, decide_eq_true_eq, decide_eq_true_eq] at g4
          refine ⟨S.O.hN ▸ g4.1, ?_⟩
          unfold PySem.Env.kindOf
          rw [S.O.sc]
          exact g4.2
        · cases g4
      · subst e1 e2
        exact (pss_one (ps_ret (pos := p2) (okX S hc hz hf q0 e v g5 hv))).run pins s σ H D I w
    · cases h1
  | [], _ :: _, h => by unfold chkHs at h; cases h
  | _ :: _, [], h => by unfold chkHs at h; cases h
/-- what is wanted, within the try -/
theorem fin_pick (S : SxOk T Φ lv K sc X W) {c' : Nat} (hx : Φ.xok c' = true) (R : RF T Sc x0 κ0 H0 O s κ H cs σ) : ∀ (ps : List (Nat × Option Nat × QE)), (∀ p ∈ ps, p.1 ∈ K.exs) → Fin T W Sc x0 κ0 H0 false D (pickM Φ c' s cs ps) → wCl X.K W D (ps.map (clOf T Φ)) (.ref (T.cls c')) none σ H
  | [], _, w => w O κ H σ none R (.inl ⟨rfl, rfl⟩)
  | p :: r, hp, w => by
    obtain ⟨c, nm, q⟩ := p
    have w : Fin T W Sc x0 κ0 H0 false D (if inL nm s.length = true then (if Φ.xsub c' c = true then RR.ofO (qx (Φ.xsub c') (gNm nm s) q) (fun v => .rt v cs) else pickM Φ c' s cs r) else .stuck) := w
    split at w
    · rename_i hn
      refine ⟨Φ.xsub c' c, ((S.xc c' hx).2 c (hp _ List.mem_cons_self)).1, fun hb a ha => ?_, fun hb => ?_⟩
      · rw [if_pos hb] at w
        cases hv : qx (Φ.xsub c') (gNm nm s) q with
        | none => rw [hv] at w; exact w.elim
        | some v =>
          rw [hv] at w
          have wr : (endNm D nm).rt = D.rt := by cases nm <;> rfl
          refine ⟨c', gNm nm s, v, rfl, rfl, hx, hv, ⟨fun i hi => ?_, fun i n hg => ?_⟩, Sc, κ, [], cs, R.rs.sub fun b h => .inl h, fun i x e => by simp at e, fun κ' H' u st rs rv _ => ?_⟩
          · subst hi
            have hl : i < σ.length := by rw [← R.len]; exact of_decide_eq_true hn
            exact List.getElem?_set_self hl
          · unfold gNm at hg
            split at hg
            · cases hg
            · rename_i hne
              obtain ⟨u, hu, ru⟩ := R.val i _ (intOf_ok hg)
              have : u = .int n := by unfold RV at ru; exact ru
              subst this
              show (stNm σ a nm)[i]? = _
              cases nm with
              | none => exact hu
              | some m =>
                show (σ.set m (some (.ref a)))[i]? = _
                rw [List.getElem?_set_ne fun z => hne (by rw [z])]
                exact hu
          · show (endNm D nm).rt u H'
            rw [wr]
            have w : Fin T W Sc x0 κ0 H0 false D (.rt v cs) := w
            exact w κ' H' u (R.st.trans st) rs rv fun z => nomatch z
      · rw [hb] at w
        exact fin_pick S hx R r (fun p h => hp p (List.mem_cons_of_mem _ h)) w
    · exact w.elim
theorem sr_tryM {b : CB} {hs : List (Nat × Option Nat × QE)} {body : List Stmt} {h0 : ExceptHandler} {hds : List ExceptHandler} (S : SxOk T Φ lv K sc X W) (hk : chkHs K.cs sc hs (h0 :: hds) = true)
    (inner : ∀ (W' : WX) (pn : List (Addr × Obj)) (xe : Value → Shared → Prop), Takes (X.tr pn xe) W' → PassesOwn (model X.prog X.w) X.A X.env xe → PSs (X.tr pn xe) body (tS T W' fr (exB K.J.ffr Φ fr b)))
    (ew : ∀ s cs, f s cs = tryDM Φ fr hs (exB K.J.ffr Φ fr b s cs)) : PS X (.Try body (h0 :: hds) [] [] pos) (tS T W fr f) := by
  have mem : ∀ (ps : List (Nat × Option Nat × QE)) (l : List ExceptHandler), chkHs K.cs sc ps l = true → ∀ p ∈ ps, p.1 ∈ K.exs := by
    intro ps
    induction ps with
    | nil => intro l _ p hp; cases hp
    | cons q r ih =>
      intro l h p hp
      cases l with
      | nil => unfold chkHs at h; cases h
      | cons a l =>
        unfold chkHs at h
        rw [Bool.and_eq_true] at h
        rcases List.mem_cons.mp hp with rfl | hp
        · have h1 := h.1
          split at h1
          · simp only [Bool.and_eq_true, decide_eq_true_eq] at h1
            exact h1.1.1.1.1
          · cases h1
        · exact ih l h.2 p hp
  refine PS.by' (ps_try_cl S.hs S.hf S.O.nd S.tk inner (cls_ok S hs _ hk)) fun D σ H hl ⟨Sc, x0, κ0, H0, O, s, κ, cs, R, w⟩ => ⟨Sc, x0, κ0, H0, O, s, κ, cs, R, ?_⟩
  rw [ew] at w
  revert w
  cases exB K.J.ffr Φ fr b s cs with
  | nx s cs => exact id
  | bk s cs => exact id
  | rt v cs => exact id
  | stuck => exact id
  | ex c' pl s1 cs1 =>
    intro w
    have w2 : Fin T W Sc x0 κ0 H0 fr D (if (Φ.xok c' && pl.isEmpty && !fr) = true then pickM Φ c' s1 cs1 hs else .stuck) := w
    clear w
    split at w2
    · rename_i hx
      simp only [Bool.and_eq_true, Bool.not_eq_true'] at hx
      obtain ⟨⟨h1, h2⟩, h3⟩ := hx
      have hpl : pl = [] := List.isEmpty_iff.mp h2
      subst hpl h3
      intro O1 κ1 H1 σ1 d R1 x
      have hd : d = none := by
        rcases x with x | ⟨_, _, _, _, z, _⟩
        · exact x.2
        · cases z
      subst hd
      exact fin_pick S h1 R1 hs (mem hs _ hk) w2
    · exact w2.elim
/-! ### x += e -/
theorem sr_aug (h : PS X st (tAug i (tE T W (frE K.J.ffr e) (ev Φ false e)) (ipI fun a b => a + b))) : PS X st (tS T W fr fun s cs => RR.ofO (intOf s i) fun n => evK K.J.ffr Φ e s cs fun v s cs => RR.ofO (intO v) fun m => .nx (s.set i (.val (.int (n + m)))) cs) := by
  refine PS.by' h fun D σ H hl ⟨Sc, x0, κ0, H0, O, s, κ, cs, R, w⟩ => ?_
  obtain ⟨n, hn, w⟩ := w.ofO
  obtain ⟨u, hu, ru⟩ := R.val i _ (intOf_ok hn)
  have : u = .int n := by unfold RV at ru; exact ru
  subst this
  refine ⟨_, hu, tE.runV R w fun v H1 y cs1 κ1 st1 R1 rv w1 => ?_⟩
  obtain ⟨m, hm, w2⟩ := w1.ofO
  cases y <;> first | (cases hm; done) | skip
  cases hm
  unfold RV at rv
  subst rv
  exact ⟨n, _, rfl, rfl, w2 O κ1 H1 _ (R1.setv (by unfold RV; rfl))⟩
/-! ### self.a, self.b = e -/
def gFl (K : PySem.W.Frag) (i : Nat) : List Str → TGs
  | [] => gNil
  | x :: xs => gCons (gFld K (tVar i) x) (gFl K i xs)
theorem RF.flds {c : Nat} (O1 : CxOk T Φ K.J lv K.N sc X) (hc : c < K.J.nc) : ∀ {ks : List Nat} {xs : List IV} {ns : List Str} {ws : List V} {H : Hp} {cs cs' : Cs}, RF T Sc x0 κ0 H0 O s κ H cs σ → RVs T (SS Sc O s) κ H xs ws → setFl c i ks xs s cs = some cs' → ns.length = ks.length → (∀ (j n : Nat), ks[j]? = some n → ∃ x, ns[j]? = some x ∧ (T.fld c)[n]? = some x) →
    ∀ {Z : L2.St → Hp → Prop}, (∀ H', RF T Sc x0 κ0 H0 O s κ H' cs' σ → Z σ H') → gFl X.K i ns ws σ H Z
  | [], [], ns, ws, H, cs, cs', R, r, h, hl, _, Z, q => by
    unfold setFl at h
    cases h
    unfold RVs at r
    cases ns with
    | nil => exact ⟨r, q H R⟩
    | cons n ns => cases hl
  | [], _ :: _, _, _, _, _, _, _, _, h, _, _, _, _ => by unfold setFl at h; cases h
  | _ :: _, [], _, _, _, _, _, _, _, h, _, _, _, _ => by unfold setFl at h; cases h
  | k :: ks, y :: ys, ns, ws, H, cs, cs', R, r, h, hl, hx, Z, q => by
    unfold RVs at r
    obtain ⟨v, t, rfl, r1, r2⟩ := r
    cases ns with
    | nil => cases hl
    | cons n ns =>
      obtain ⟨x, e1, e2⟩ := hx 0 k rfl
      cases e1
      unfold setFl at h
      split at h
      · rename_i p hp
        split at h
        · rename_i hcc
          obtain ⟨m, c', fs⟩ := p
          dsimp only at hcc h
          obtain ⟨rfl, hk⟩ := hcc
          unfold celAt at hp
          split at hp
          · rename_i z hz
            unfold celI at hp
            split at hp
            · rename_i m'
              split at hp
              · rename_i c2 fs2 hcs
                cases hp
                obtain ⟨u, hu, ru⟩ := R.val i _ hz
                unfold RV at ru
                obtain ⟨a, rfl, ha⟩ := ru
                obtain ⟨⟨dx, us, hh, hle, rr⟩, nS⟩ := R.rs.cel m _ a hcs ha
                obtain ⟨hcl, hna, hnd, hlt⟩ := O1.fs.cl c' hc
                refine ⟨v, t, rfl, _, hu, a, T.cls c', dx, _, rfl, hh, hcl, hna n (List.mem_of_getElem? e2), zip_len _ hlt, ?_⟩
                rw [putF_set hnd e2 (by rw [← rr.len]; exact hk)]
                have mv : Mv T (SS Sc O s) κ H (SS Sc O s) κ (upd H a (.ins (T.cls c') dx ((T.fld c').zip (us.set k v)))) := Mv.wr hh (fun z => z) (.inr (List.mem_of_getElem? ha))
                have R2 : RF T Sc x0 κ0 H0 O s κ (upd H a (.ins (T.cls c') dx ((T.fld c').zip (us.set k v)))) (cs.set m (.ins c' (fs.set k y))) σ := R.wrc ha hh (fun z => z) (List.getElem?_eq_some_iff.mp hcs).1 fun mv => ⟨dx, _, upd_same, by rw [List.length_set]; exact hle, mv.rvs _ _ (rr.set k r1)⟩
                exact RF.flds O1 hc R2 (mv.rvs _ _ r2) h (by simpa using hl) (fun j n hj => hx (j + 1) n hj) q
              · cases hp
            · cases hp
          · cases hp
        · cases h
      · cases h
theorem sr_ctup {c : Nat} {ks : List Nat} {ns : List Str} (O1 : CxOk T Φ K.J lv K.N sc X) (hc : c < K.J.nc) (hl : ns.length = ks.length) (hx : ∀ (j n : Nat), ks[j]? = some n → ∃ x, ns[j]? = some x ∧ (T.fld c)[n]? = some x) (h : PS X st (tAsg (tE T W (frE K.J.ffr e) (ev Φ false e)) (gTup X.K ks.length (gFl X.K i ns)))) :
    PS X st (tS T W fr fun s cs => evK K.J.ffr Φ e s cs fun v s cs => RR.ofO (tupO v) fun xs => RR.ofO (setFl c i ks xs s cs) fun cs => .nx s cs) := by
  refine PS.by' h fun D σ H _ ⟨Sc, x0, κ0, H0, O, s, κ, cs, R, w⟩ => ?_
  refine tE.runL R w fun v H1 y cs1 κ1 st1 R1 rv up w1 => ?_
  obtain ⟨xs, ex, w2⟩ := w1.ofO
  obtain ⟨cs2, es, w3⟩ := w2.ofO
  cases y <;> first | (cases ex; done) | skip
  cases ex
  obtain ⟨p, ws, rfl, q, r⟩ := rv_ref_tup rv
  have len : ∀ {s : SE} {ks : List Nat} {xs : List IV} {cs cs' : Cs}, setFl c i ks xs s cs = some cs' → xs.length = ks.length := by
    intro s ks
    induction ks with
    | nil => intro xs cs cs' h; cases xs with
      | nil => rfl
      | cons x xs => unfold setFl at h; cases h
    | cons k ks ih => intro xs cs cs' h; cases xs with
      | nil => unfold setFl at h; cases h
      | cons x xs =>
        unfold setFl at h
        split at h
        · split at h
          · rw [List.length_cons, List.length_cons, ih h]
          · cases h
        · cases h
  exact ⟨p, ws, rfl, O1.fs.K.symm ▸ q, by rw [← r.len]; exact len es, R1.flds O1 hc (up _ _ rfl r) es hl hx fun H' R2 => w3 O κ1 H' σ R2⟩
/-! ### x.f += n -/
theorem sr_caug {c : Nat} {n : Int} (O1 : CxOk T Φ K.J lv K.N sc X) (hc : c < K.J.nc) (hx : (T.fld c)[k]? = some x) (h : PS X st (sFldAug X.K (tVar i) (tC (.int n)) rAdd x)) :
    PS X st (tS T W fr fun s cs => RR.ofO (celAt s cs i) fun p => if p.2.1 = c then RR.ofO (intF p.2.2 k) fun a => .nx s (cs.set p.1 (.ins c (p.2.2.set k (.int (a + n))))) else .stuck) := by
  refine PS.by' h fun D σ H _ ⟨Sc, x0, κ0, H0, O, s, κ, cs, R, w⟩ => ?_
  obtain ⟨⟨m, c', fs⟩, hp, w⟩ := w.ofO
  split at w
  · rename_i hcc
    dsimp only at hcc
    subst hcc
    obtain ⟨b, eb, w⟩ := w.ofO
    dsimp only at eb w
    unfold celAt at hp
    split at hp
    · rename_i z hz
      unfold celI at hp
      split at hp
      · rename_i m'
        split at hp
        · rename_i c2 fs2 hcs
          cases hp
          obtain ⟨u, hu, ru⟩ := R.val i _ hz
          unfold RV at ru
          obtain ⟨a, rfl, ha⟩ := ru
          obtain ⟨⟨dx, us, hh, hle, rr⟩, nS⟩ := R.rs.cel m _ a hcs ha
          obtain ⟨hcl, hna, hnd, hlt⟩ := O1.fs.cl c' hc
          unfold intF at eb
          split at eb
          · rename_i b' hb
            cases eb
            obtain ⟨v, ev, rv⟩ := rr.get hb
            unfold RV at rv
            subst rv
            refine ⟨_, hu, a, T.cls c', dx, _, _, rfl, hh, hcl, hna x (List.mem_of_getElem? hx), zip_lookup hnd hx ev, ?_⟩
            refine ⟨b, n, rfl, rfl, dx, _, hh, zip_len _ hlt, ?_⟩
            rw [putF_set hnd hx (List.getElem?_eq_some_iff.mp ev).1]
            exact w O κ _ σ (R.wrc ha hh (fun z => z) (List.getElem?_eq_some_iff.mp hcs).1 fun mv => ⟨dx, _, upd_same, by rw [List.length_set]; exact hle, mv.rvs _ _ (rr.set k (by unfold RV; rfl))⟩)
          · cases eb
        · cases hp
      · cases hp
    · cases hp
  · exact w.elim
/-! ### x = ys.pop() -/
theorem sr_pop {i j : Nat} (hij : i ≠ j) (h : PS X st (tAsg (tBM0 X.K "list" rPop (tVar j)) (gName i))) : PS X st (tS T W fr fun s cs => RR.ofO (ownOf s j) fun xs => RR.ofO (lastO xs) fun y => .nx ((s.set j (.own xs.dropLast)).set i (.val y)) cs) := by
  refine PS.by' h fun D σ H _ ⟨Sc, x0, κ0, H0, O, s, κ, cs, R, w⟩ => ?_
  obtain ⟨xs, ex, w⟩ := w.ofO
  obtain ⟨y, ey, w⟩ := w.ofO
  have e := uQ ex
  obtain ⟨us, q, ha, r⟩ := R.own j xs e
  obtain ⟨u, eu, ru⟩ := r.get (show xs[xs.length - 1]? = some y from ey)
  have mv : Mv T (SS Sc O s) κ H (SS Sc O s) κ (upd H (O j) (.lst us.dropLast)) := Mv.wr ha (fun z => z) (.inl (.inr ⟨j, onAt_own e, rfl⟩))
  have dl : RVs T (SS Sc O s) κ H xs.dropLast us.dropLast := by
    rw [List.dropLast_eq_take, List.dropLast_eq_take, ← r.len]
    exact r.take _
  have R2 := R.wro e dl
  have hss : ∀ a, SS Sc O (s.set j (.own xs.dropLast)) a → SS Sc O s a := by
    rintro a (z | ⟨m, hm, rfl⟩)
    · exact .inl z
    · refine .inr ⟨m, ?_, rfl⟩
      by_cases hmj : m = j
      · subst hmj; exact onAt_own e
      · rw [set_on' hmj] at hm; exact hm
  refine ⟨_, q, .inl ⟨rfl, us, SqL.of ha⟩, O j, us, u, rfl, rfl, ha, by rw [← r.len]; exact eu, ?_⟩
  exact w O κ _ _ (R2.setv ((Mv.anti hss).rv _ _ (mv.rv _ _ ru)))
/-! ### with e as y: .. -/
theorem noO_on (h : noO s = true) (m : Nat) : onAt s m = false := by
  unfold onAt
  cases e : s[m]? with
  | none => rfl
  | some x =>
    have := List.all_eq_true.mp h x (List.mem_of_getElem? e)
    cases x <;> first | rfl | cases this
theorem noO_SS (h : noO s = true) {a : Addr} (q : SS Sc O s a) : Sc a := by
  rcases q with q | ⟨m, hm, _⟩
  · exact q
  · rw [noO_on h m] at hm; cases hm
/-- seen from here -/
theorem RF.base0 (h : noO s = true) (R : RF T Sc x0 κ0 H0 O s κ H cs σ) : RF T Sc x0 κ H O s κ H cs σ where
  st := Stp.rfl'
  d0 := fun a z => R.rs.dom a (.inl z)
  rs := R.rs
  own := R.own
  slf := R.slf
  fr := fun m hm => by rw [noO_on h m] at hm; cases hm
  val := R.val
  inj := R.inj
  len := R.len
  sx := R.sx
  lnt := R.lnt
theorem zu {fx : Nat} {u z : IV} : wthX Φ fx z (.rt u cs) = (match (Φ.fn fx [z, .non, .non, .non] cs).noexc with | .ok _ cs => .rt u cs | _ => .stuck) := rfl
theorem sr_wth {c fe fx : Nat} {b : CB} {body : List Stmt} (S : SxOk T Φ lv K sc X W) (h1 : fe < K.J.nf) (h2 : K.J.isM fe = true) (h2' : notP K.J.prs fe = true) (h3 : K.J.fcl fe = c) (h4 : K.J.fnm fe = "__enter__") (h5 : (K.J.fps fe).length = 1) (h6 : K.J.ffr fe = false)
    (g1 : fx < K.J.nf) (g2 : K.J.isM fx = true) (g2' : notP K.J.prs fx = true) (g3 : K.J.fcl fx = c) (g4 : K.J.fnm fx = "__exit__") (g5 : (K.J.fps fx).length = 4) (g6 : K.J.ffr fx = false) (hN : X.N[i]? = some y) (hloc : Loc X.env.scope y) (hfn : X.fn y = true ∨ X.env.scope.names.lookup y = some .local)
    (he : PE X ee (tE T W (frE K.J.ffr e) (ev Φ false e)))
    (inner : ∀ (W' : WX) (pn : List (Addr × Obj)) (xe : Value → Shared → Prop), Takes (X.tr pn xe) W' → PassesOwn (model X.prog X.w) X.A X.env xe → PSs (X.tr pn xe) body (tS T W' fr (exB K.J.ffr Φ fr b)))
    (ew : ∀ s cs, f s cs = evK K.J.ffr Φ e s cs fun v s cs => if (isOf c v cs && noO s && !fr) = true then (match (Φ.fn fe [v] cs).noexc with
      | .ok y cs => wthX Φ fx v (exB K.J.ffr Φ fr b (s.set i (.val y)) cs)
      | _ => .stuck) else .stuck) : PS X (.With [⟨ee, some (.Name y px)⟩] body pos) (tS T W fr f) := ⟨fun pins s0 σ H D I ⟨Sc, x0, κ0, H0, O, s, κ, cs, R, w⟩ => by
  rw [ew] at w
  have ok := I.ok
  refine PySem.W.kw_execN (thn (he.run pins s0 σ H (fun v H1 => ∃ x cs1 κ1 s1, RF T Sc x0 κ0 H0 O s1 κ1 H1 cs1 σ ∧ RV T (SS Sc O s1) κ1 H1 x v ∧ Fin T W Sc x0 κ0 H0 fr D (if (isOf c x cs1 && noO s1 && !fr) = true then (match (Φ.fn fe [x] cs1).noexc with
      | .ok y cs => wthX Φ fx x (exB K.J.ffr Φ fr b (s1.set i (.val y)) cs)
      | _ => .stuck) else .stuck)) I (tE.runV R w fun v H1 x cs1 κ1 st1 R1 rv1 w1 => ⟨x, cs1, κ1, _, R1, rv1, w1⟩)) fun u s1 ⟨v, H1, I1, r1, x, cs1, κ1, se, R1, rv1, w1⟩ => ?_)
  split at w1
  · rename_i hcc
    simp only [Bool.and_eq_true, Bool.not_eq_true'] at hcc
    obtain ⟨⟨his, hno⟩, hfr⟩ := hcc
    subst hfr
    obtain ⟨a, dx, ws, rfl, ea⟩ := isOf_heap R1.rs rv1 his
    cases r1
    obtain ⟨_, ME, _⟩ := S.O.fs.me fe h1 h2 h2'
    obtain ⟨_, MX, _⟩ := S.O.fs.me fx g1 g2 g2'
    rw [h4, h3] at ME
    rw [g4, g3] at MX
    obtain ⟨e1, e2, _⟩ := ME
    obtain ⟨x1, x2, _⟩ := MX
    obtain ⟨mA, J, _⟩ := ins_get I1.hok ea
    obtain ⟨od, J, _⟩ := J.look
    cases hfe : Φ.fn fe [x] cs1 with
    | exc _ _ _ => rw [hfe] at w1; exact w1.elim
    | stuck => rw [hfe] at w1; exact w1.elim
    | ok yv cs2 =>
      rw [hfe] at w1
      have w1 : Fin T W Sc x0 κ0 H0 false D (wthX Φ fx x (exB K.J.ffr Φ false b (se.set i (.val yv)) cs2)) := w1
      have rvS : RV T Sc κ1 H1 x (.ref a) := (Mv.anti fun b z => .inl z).rv _ _ rv1
      refine PySem.W.kw_core (b := assign (.Name y px) X.env) I1.kIn J e1 e2 x1 x2 ?_
      refine wpAny_mono (callFN (Q := fun v2 H2 => ∃ κ2, Stp κ1 H1 κ2 H2 ∧ RS T (SS Sc O se) κ2 H2 cs2 ∧ RV T (SS Sc O se) κ2 H2 yv v2) S.O.fs h1 (S.O.room.mono (by omega)) rfl I1 R1.rs (RVs.cons rv1 RVs.nil) (.cons rfl .nil) (by rw [h5]; rfl) (by rw [h6, hfe]; exact fun κ2 H2 v2 st rs rv _ => ⟨κ2, st, rs, rv⟩)) (fun u2 s2 q => ?_) fun _ _ z => z
      obtain ⟨v2, H2, I2, r2, κ2, st2, rs2, rv2⟩ := q
      have R2 : RF T Sc x0 κ0 H0 O (se.set i (.val yv)) κ2 H2 cs2 (σ.set i (some v2)) := (R1.step st2 rs2).setv rv2
      have hno2 : noO (se.set i (.val yv)) = true := by
        refine List.all_eq_true.mpr fun z hz => ?_
        rcases List.mem_or_eq_of_mem_set hz with hz | rfl
        · exact List.all_eq_true.mp hno z hz
        · rfl
      have R3 := R2.base0 hno2
      refine wpAny_assign_Name (store_ok I2 S.O.nd hN hloc r2 (fun s3 I3 => ?_) hfn)
      have tk0 : Takes (X.tr (X.pn ++ pins) fun _ _ => False) fun _ _ _ _ => False := takes_none5
      have run := (inner (fun _ _ _ _ => False) (X.pn ++ pins) (fun _ _ => False) tk0 PassesOwn.never).run [] s3 _ H2 { nx := fun _ _ => False, rt := fun u H' => ∃ uv κ3 cs3, Stp κ2 H2 κ3 H' ∧ RS T Sc κ3 H' cs3 ∧ RV T Sc κ3 H' uv u ∧ Fin T W Sc x0 κ0 H0 false D (wthX Φ fx x (.rt uv cs3)), bk := fun _ _ => False, ct := fun _ _ => False } (I3.toTry _) ⟨Sc, x0, κ2, H2, O, _, κ2, cs2, R3, by
        revert w1
        cases exB K.J.ffr Φ false b (se.set i (.val yv)) cs2 with
        | rt uv cs3 => exact fun w1 κ3 H3 u3 st3 rs3 rv3 _ => ⟨uv, κ3, cs3, st3, rs3, rv3, w1⟩
        | nx s cs => exact fun w1 => w1.elim
        | bk s cs => exact fun w1 => w1.elim
        | ex c pl s cs => exact fun w1 => w1.elim
        | stuck => exact fun w1 => w1.elim⟩
      refine wpAny_mono run (fun fl s4 hsp => ?_) fun _ _ z => z
      cases fl with
      | next => obtain ⟨_, _, _, q⟩ := hsp; exact q.elim
      | brk => obtain ⟨_, _, _, q⟩ := hsp; exact q.elim
      | cont => obtain ⟨_, _, _, q⟩ := hsp; exact q.elim
      | ret u4 =>
        obtain ⟨v4, σ4, H4, I4, r4, uv, κ3, cs3, st3, rs3, rv3, w3⟩ := hsp
        have I4 := I4.ofTry ok
        cases hfx : Φ.fn fx [x, .non, .non, .non] cs3 with
        | exc _ _ _ => rw [zu, hfx] at w3; exact w3.elim
        | stuck => rw [zu, hfx] at w3; exact w3.elim
        | ok z cs4 =>
          rw [zu, hfx] at w3
          have w3 : Fin T W Sc x0 κ0 H0 false D (.rt uv cs4) := w3
          have rx : RV T Sc κ3 H4 x (.ref a) := (st2.trans st3).mv.rv _ _ rvS
          have rn : ∀ (κ : List Addr) (H : Hp), RV T Sc κ H .non .non := fun κ H => by unfold RV; rfl
          refine wpAny_mono (callFN (Q := fun _ H5 => ∃ κ5, Stp κ3 H4 κ5 H5 ∧ RS T Sc κ5 H5 cs4) S.O.fs g1 (S.O.room.mono (by omega)) rfl I4 rs3 (RVs.cons rx (RVs.cons (rn _ _) (RVs.cons (rn _ _) (RVs.cons (rn _ _) RVs.nil)))) (.cons rfl (.cons rfl (.cons rfl (.cons rfl .nil)))) (by rw [g5]; rfl) (by rw [g6, hfx]; exact fun κ5 H5 v5 st rs rv _ => ⟨κ5, st, rs⟩)) (fun u5 s5 q => ?_) fun _ _ z => z
          obtain ⟨v5, H5, I5, _, κ5, st5, rs5⟩ := q
          exact ⟨v4, _, H5, I5, r4, w3 κ5 H5 v4 ((R2.st.trans st3).trans st5) rs5 (st5.mv.rv _ _ rv3) fun z => nomatch z⟩
  · exact w1.elim⟩
end
end EG

-- Eng1
/-! Engine 1: the checker of statements. -/
namespace EG
open PySem PySem.Spec L2 PyProof.Rows

def asSet : Stmt → Option (Expr × Expr × Pos)
  | .Assign [tg] e pos => some (tg, e, pos)
  | _ => none
theorem asSet_ok {st : Stmt} {tg e : Expr} {pos : Pos} (h : asSet st = some (tg, e, pos)) : st = .Assign [tg] e pos := by
  unfold asSet at h
  split at h
  · cases h; rfl
  · cases h
def asEx : Stmt → Option (Expr × Pos)
  | .Expr e pos => some (e, pos)
  | _ => none
theorem asEx_ok {st : Stmt} {e : Expr} {pos : Pos} (h : asEx st = some (e, pos)) : st = .Expr e pos := by
  cases st <;> first | (cases h; done) | skip
  cases h; rfl
def asRet : Stmt → Option Expr
  | .Return (some e) _ => some e
  | _ => none
theorem asRet_ok {st : Stmt} {e : Expr} (h : asRet st = some e) : ∃ p, st = .Return (some e) p := by
  unfold asRet at h
  split at h
  · cases h; exact ⟨_, rfl⟩
  · cases h
def isRetN : Stmt → Bool
  | .Return none _ => true
  | _ => false
theorem isRetN_ok {st : Stmt} (h : isRetN st = true) : ∃ p, st = .Return none p := by
  unfold isRetN at h
  split at h
  · exact ⟨_, rfl⟩
  · cases h
def isPass : Stmt → Bool
  | .Pass _ => true
  | _ => false
theorem isPass_ok {st : Stmt} (h : isPass st = true) : ∃ p, st = .Pass p := by
  cases st <;> first | (cases h; done) | exact ⟨_, rfl⟩
def isBrk : Stmt → Bool
  | .Break _ => true
  | _ => false
theorem isBrk_ok {st : Stmt} (h : isBrk st = true) : ∃ p, st = .Break p := by
  cases st <;> first | (cases h; done) | exact ⟨_, rfl⟩
def asIfS : Stmt → Option (Expr × List Stmt × List Stmt)
  | .If t a b _ => some (t, a, b)
  | _ => none
theorem asIfS_ok {st : Stmt} {t : Expr} {a b : List Stmt} (h : asIfS st = some (t, a, b)) : ∃ p, st = .If t a b p := by
  cases st <;> first | (cases h; done) | skip
  cases h; exact ⟨_, rfl⟩
def asFor : Stmt → Option (Expr × Expr × List Stmt)
  | .For tg it b [] _ => some (tg, it, b)
  | _ => none
theorem asFor_ok {st : Stmt} {tg it : Expr} {b : List Stmt} (h : asFor st = some (tg, it, b)) : ∃ p, st = .For tg it b [] p := by
  unfold asFor at h
  split at h
  · cases h; exact ⟨_, rfl⟩
  · cases h
def asWhl : Stmt → Option (Expr × List Stmt)
  | .While t b [] _ => some (t, b)
  | _ => none
theorem asWhl_ok {st : Stmt} {t : Expr} {b : List Stmt} (h : asWhl st = some (t, b)) : ∃ p, st = .While t b [] p := by
  unfold asWhl at h
  split at h
  · cases h; exact ⟨_, rfl⟩
  · cases h
def asRaise : Stmt → Option Str
  | .Raise (some (.Call (.Name x _) [.Constant (.str _) _ _] [] _)) none _ => some x
  | _ => none
theorem asRaise_ok {st : Stmt} {x : Str} (h : asRaise st = some x) : ∃ p m j p2 p3 p4, st = .Raise (some (.Call (.Name x p) [.Constant (.str m) j p2] [] p3)) none p4 := by
  unfold asRaise at h
  split at h
  · cases h; exact ⟨_, _, _, _, _, _, rfl⟩
  · cases h
def asTry : Stmt → Option (List Stmt × Str × Option Str × Expr)
  | .Try body [.ExceptHandler (some (.Name x _)) nm [.Return (some e) _] _] [] [] _ => some (body, x, nm, e)
  | _ => none
theorem asTry_ok {st : Stmt} {body : List Stmt} {x : Str} {nm : Option Str} {e : Expr} (h : asTry st = some (body, x, nm, e)) : ∃ p p2 p3 p4, st = .Try body [.ExceptHandler (some (.Name x p)) nm [.Return (some e) p2] p3] [] [] p4 := by
  unfold asTry at h
  split at h
  · cases h; exact ⟨_, _, _, _, rfl⟩
  · cases h
def asTryI : Stmt → Option (List Stmt × Str × Str × Str)
  | .Try body [.ExceptHandler (some (.Name x _)) none [.Assign [.Name y _] (.BinOp (.Name z _) .Add (.Constant (.int 1) _ _) _) _] _] [] [] _ => some (body, x, y, z)
  | _ => none
theorem asTryI_ok {st : Stmt} {body : List Stmt} {x y z : Str} (h : asTryI st = some (body, x, y, z)) : ∃ p p1 p2 j p3 p4 p5 p6 p7, st = .Try body [.ExceptHandler (some (.Name x p)) none [.Assign [.Name y p1] (.BinOp (.Name z p2) .Add (.Constant (.int 1) j p3) p4) p5] p6] [] [] p7 := by
  unfold asTryI at h
  split at h
  · cases h; exact ⟨_, _, _, _, _, _, _, _, _, rfl⟩
  · cases h
def asTryM : Stmt → Option (List Stmt × List ExceptHandler)
  | .Try body (h :: hs) [] [] _ => some (body, h :: hs)
  | _ => none
theorem asTryM_ok {st : Stmt} {body : List Stmt} {hds : List ExceptHandler} (h : asTryM st = some (body, hds)) : ∃ h0 hs p, hds = h0 :: hs ∧ st = .Try body (h0 :: hs) [] [] p := by
  unfold asTryM at h
  split at h
  · cases h; exact ⟨_, _, _, rfl, rfl⟩
  · cases h
def asAug : Stmt → Option (Str × Expr)
  | .AugAssign (.Name x _) .Add e _ => some (x, e)
  | _ => none
theorem asAug_ok {st : Stmt} {x : Str} {e : Expr} (h : asAug st = some (x, e)) : ∃ p p2, st = .AugAssign (.Name x p) .Add e p2 := by
  unfold asAug at h
  split at h
  · cases h; exact ⟨_, _, rfl⟩
  · cases h
def asFAug : Stmt → Option (Expr × Str × Expr)
  | .AugAssign (.Attribute o x _) .Add e _ => some (o, x, e)
  | _ => none
theorem asFAug_ok {st : Stmt} {x : Str} {o e : Expr} (h : asFAug st = some (o, x, e)) : ∃ p p2, st = .AugAssign (.Attribute o x p) .Add e p2 := by
  unfold asFAug at h
  split at h
  · cases h; exact ⟨_, _, rfl⟩
  · cases h
def asWth : Stmt → Option (Expr × Str × List Stmt)
  | .With [⟨e, some (.Name y _)⟩] b _ => some (e, y, b)
  | _ => none
theorem asWth_ok {st : Stmt} {e : Expr} {y : Str} {b : List Stmt} (h : asWth st = some (e, y, b)) : ∃ p p2, st = .With [⟨e, some (.Name y p)⟩] b p2 := by
  unfold asWth at h
  split at h
  · cases h; exact ⟨_, _, rfl⟩
  · cases h
def chkFl (K : CKs) (sc : Scope) (i c : Nat) : List Nat → List Expr → Bool
  | [], [] => true
  | k :: ks, e :: es => (match asAttr e with
      | some (oe, x) => chk K false sc (.var i) oe && decide ((K.fld c)[k]? = some x)
      | none => false) && chkFl K sc i c ks es
  | [], _ :: _ => false
  | _ :: _, [] => false
/-- o.m(es) alone, on one line -/
def asMt : Expr → Option (Expr × Str × List Expr × Bool)
  | .Call (.Attribute o m ap) es [] cpos => some (o, m, es, ap.endLine == cpos.line)
  | _ => none
def notComp : Expr → Bool
  | .ListComp _ _ _ _ => false
  | .SetComp _ _ _ _ => false
  | .DictComp _ _ _ _ _ => false
  | _ => true
theorem notComp_ok {e : Expr} {tg : Option Expr} {l : Nat} {env : PySem.Env} (h : notComp e = true) : swapsWith e tg l env = pure false := by
  cases e <;> first | rfl | cases h
def notTupE : Expr → Bool
  | .Tuple _ _ _ => false
  | _ => true
/-- a comprehension stored on its own line -/
def swapB (sc : Scope) (tg e : Expr) : Bool := match tg, e with
  | .Name y py, .ListComp _ _ scope pos => (match sc.kind with | .function => true | _ => false) && decide (sc.names.lookup y = some .local) && (py.line == pos.line) && !(scope.names.any fun (n, k) => n == y && (k == .local || k == .cell))
  | _, _ => false
/-- a comprehension into a name that a block reads -/
def noSwapB (sc : Scope) (tg e : Expr) : Bool := match tg, e with
  | .Name y _, .ListComp _ _ _ _ => !(sc.names.lookup y == some .local)
  | _, _ => false
def isComp : CE → Bool
  | .comp _ _ _ _ _ => true
  | .comp2 _ _ _ _ _ _ _ => true
  | _ => false
def pairB (sc : Scope) (ts vs : List Expr) : Bool := match ts, vs with
  | [.Name x px, .Name y py], [a, b] => (match sc.kind with | .function => true | _ => false) && decide (sc.names.lookup x = some .local) && decide (sc.names.lookup y = some .local) && (px.line == py.line) && !(x == y) && notStar a && notStar b && !([a, b].all (foldedForSure 8)) && !([a, b].all (constantsAlone 8))
  | _, _ => false

mutual
def chkS (K : CKs) (fr : Bool) (sc : Scope) : CS → Stmt → Bool
  | .stuck, _ => true
  | .pass, st => isPass st
  | .brk, st => isBrk st
  | .set _ i e, st => (match asSet st with
      | some (tg, ee, _) => chkNm K.N (ownB sc) i tg && chk K false sc e ee && (notComp ee || noSwapB sc tg ee || (swapB sc tg ee && isComp e))
      | none => false)
  | .tup is e, st => (match asSet st with
      | some (tg, ee, _) => (match asTup tg with
          | some es => chkNms K.N (ownB sc) is es && notTupE ee && chk K false sc e ee
          | none => false)
      | none => false)
  | .par is as, st => (match asSet st with
      | some (tg, ee, _) => (match asTup tg, asTup ee, is with
          | some ts, some vs, [i, j] => pairB sc ts vs && chkNms K.N (ownB sc) [i, j] ts && !(i == j) && chkA K sc as vs
          | _, _, _ => false)
      | none => false)
  | .fset i c k e, st => (match asSet st with
      | some (tg, ee, _) => (match asAttr tg with
          | some (oe, x) => chk K false sc (.var i) oe && decide (c < K.J.nc) && decide ((K.fld c)[k]? = some x) && notComp ee && chk K false sc e ee
          | none => false)
      | none => false)
  | .cfld o c k e, st => (match asSet st with
      | some (tg, ee, _) => (match asAttr tg with
          | some (oe, x) => chk K false sc o oe && decide (c < K.J.nc) && decide ((K.fld c)[k]? = some x) && notComp ee && chk K false sc e ee
          | none => false)
      | none => false)
  | .cidx o ix e, st => (match asSet st with
      | some (tg, ee, _) => (match asSub tg with
          | some (oe, xe) => chk K false sc o oe && chk K false sc ix xe && plainIx xe && notComp ee && chk K false sc e ee
          | none => false)
      | none => false)
  | .oidx i ix e, st => (match asSet st with
      | some (tg, ee, _) => (match asSub tg with
          | some (oe, xe) => chk K false sc (.var i) oe && chk K false sc ix xe && plainIx xe && notComp ee && chk K false sc e ee
          | none => false)
      | none => false)
  | .app i e, st => (match asEx st with
      | some (c, _) => (match asMeth c with
          | some (oe, m, [ee], l) => chk K false sc (.var i) oe && decide (m = "append") && l && notStar ee && chk K false sc e ee
          | _ => false)
      | none => false)
  | .capp o e, st => (match asEx st with
      | some (c, _) => (match asMeth c with
          | some (oe, m, [ee], l) => chk K false sc o oe && baseOk oe && decide (m = "append") && l && notStar ee && chk K false sc e ee
          | _ => false)
      | none => false)
  | .ext i e, st => (match asEx st with
      | some (c, _) => (match asMeth c with
          | some (oe, m, [ee], l) => chk K false sc (.var i) oe && decide (m = "extend") && l && notStar ee && chk K false sc e ee
          | _ => false)
      | none => false)
  | .rev i, st => (match asEx st with
      | some (c, _) => (match asMeth c with
          | some (oe, m, [], l) => chk K false sc (.var i) oe && decide (m = "reverse") && l
          | _ => false)
      | none => false)
  | .expr e, st => (match asEx st with
      | some (ee, _) => notComp ee && chk K false sc e ee
      | none => false)
  | .ret e, st => (match asRet st with
      | some ee => chk K false sc e ee
      | none => false)
  | .retN, st => isRetN st
  | .ite t a b, st => (match asIfS st with
      | some (te, as, bs) => chk K true sc t te && chkB K fr sc a as && chkB K fr sc b bs
      | none => false)
  | .for tg it b, st => (match asFor st with
      | some (te, ie, bs) => chkTg K.N (ownB sc) tg te && notSet ie && chkI K sc it te ie && chkB K fr sc b bs
      | none => false)
  | .fro _ tg it b, st => (match asFor st with
      | some (te, ie, bs) => chkTg K.N (ownB sc) tg te && notSet ie && chkI K sc it te ie && chkB K fr sc b bs
      | none => false)
  | .whl t b, st => (match asWhl st with
      | some (te, bs) => chk K true sc t te && chkB K fr sc b bs
      | none => false)
  | .raise c p, st => (match p with
      | .no => (match asRaise st with
          | some x => decide (c ∈ K.exs) && decide (x = K.J.cnm c) && glB sc x
          | none => false)
      | .some _ => false)
  | .try b c nm q, st => (match asTry st with
      | some (body, x, n, e) => chkB K fr sc b body && decide (c ∈ K.exs) && decide (x = K.J.cnm c) && glB sc x && nmOk K.N sc nm n && chkQ K sc nm q e
      | none => false)
  | .tryI b c i, st => (match asTryI st with
      | some (body, x, y, z) => chkB K fr sc b body && decide (c ∈ K.exs) && decide (x = K.J.cnm c) && glB sc x && decide (z = y) && decide (K.N[i]? = some y) && visB sc y && okName y && ownB sc y
      | none => false)
  | .tryM b hs, st => (match asTryM st with
      | some (body, hds) => chkB K fr sc b body && chkHs K sc hs hds
      | none => false)
  | .aug i e, st => (match asAug st with
      | some (x, ee) => decide (K.N[i]? = some x) && ownB sc x && chk K false sc e ee
      | none => false)
  | .caug i c k n, st => (match asFAug st with
      | some (oe, x, ee) => decide (c < K.J.nc) && decide ((K.fld c)[k]? = some x) && chk K false sc (.var i) oe && decide (asConst ee = some (.int n))
      | none => false)
  | .ctup i c ks e, st => (match asSet st with
      | some (tg, ee, _) => (match asTup tg with
          | some es => chkFl K sc i c ks es && decide (c < K.J.nc) && notTupE ee && chk K false sc e ee
          | none => false)
      | none => false)
  | .wth c fe fx e i b, st => (match asWth st with
      | some (ee, y, body) => decide (fe < K.J.nf) && (K.J.isM fe && notP K.J.prs fe) && decide (K.J.fcl fe = c) && decide (K.J.fnm fe = "__enter__") && decide ((K.J.fps fe).length = 1) && !K.J.ffr fe
          && decide (fx < K.J.nf) && (K.J.isM fx && notP K.J.prs fx) && decide (K.J.fcl fx = c) && decide (K.J.fnm fx = "__exit__") && decide ((K.J.fps fx).length = 4) && !K.J.ffr fx
          && decide (K.N[i]? = some y) && ownB sc y && chk K false sc e ee && chkB K fr sc b body
      | none => false)
  | .pop i j, st => (match asSet st with
      | some (tg, ee, _) => (match asMeth ee with
          | some (oe, m, [], l) => chkNm K.N (ownB sc) i tg && chk K false sc (.var j) oe && decide (m = "pop") && l && !(i == j)
          | _ => false)
      | none => false)
def chkB (K : CKs) (fr : Bool) (sc : Scope) : CB → List Stmt → Bool
  | .nil, [] => true
  | .cons a b, s :: ss => chkS K fr sc a s && chkB K fr sc b ss
  | .nil, _ :: _ => false
  | .cons _ _, [] => false
end
theorem sw2 {x y : Str} {px py pt p2 : Pos} {kt k2 : Nat} {a b : Expr} {env : PySem.Env} (h : pairB env.scope [.Name x px, .Name y py] [a, b] = true) : swappedStores [.Tuple [.Name x px, .Name y py] kt pt] (.Tuple [a, b] k2 p2) env = pure (some [x, y]) := by
  unfold pairB at h
  simp only [Bool.and_eq_true, decide_eq_true_eq, Bool.not_eq_true'] at h
  obtain ⟨⟨⟨⟨⟨⟨⟨⟨h1, h2⟩, h3⟩, h4⟩, h5⟩, h6⟩, h7⟩, h8⟩, h9⟩ := h
  have hk : env.blockKind = .function := by
    unfold PySem.Env.blockKind
    split at h1
    · rename_i hs; rw [hs]; rfl
    · cases h1
  have kx : env.kindOf x = some .local := h2
  have ky : env.kindOf y = some .local := h3
  have na : ∀ {e : Expr}, notStar e = true → (match e with | .Starred .. => true | _ => false) = false := fun {e} h => by cases e <;> first | rfl | cases h
  unfold swappedStores
  simp [hk]
  rw [if_neg (by
    rintro (h | h)
    · split at h
      · cases h6
      · cases h
    · split at h
      · cases h7
      · cases h)]
  have hp : (Expr.Name x px).pos = px := rfl
  have hl : py.line = px.line := (eq_of_beq h4).symm
  have h8' : ¬ (foldedForSure 8 a = true ∧ foldedForSure 8 b = true) := by simpa using h8
  have h9' : ¬ (constantsAlone 8 a = true ∧ constantsAlone 8 b = true) := by simpa using h9
  have hd : List.eraseDups [x, y] = [x, y] := by
    have hyx : (y == x) = false := by
      rw [beq_eq_false_iff_ne] at h5 ⊢
      exact fun z => h5 z.symm
    simp [List.eraseDups_cons, hyx]
  simp [List.filterMap, kx, ky, hp, hl, hd]
  rw [if_neg h8', if_neg h9']
end EG

-- Eng2
/-! Engine 2: the checker of statements is right. -/
namespace EG
open PySem PySem.Spec L2 PyProof.Rows
section
variable {T : CT} {Φ : Fns} {lv : Nat} {K : CKx} {W : WX} {X : Cx} {fr : Bool} {sc : Scope} {st : Stmt} {e ix o a b c : CE} {ee oe xe tg : Expr} {pos px : Pos} {i j k : Nat} {x : Str}
def PSok (T : CT) (Φ : Fns) (lv : Nat) (K : CKx) (fr : Bool) (sc : Scope) (c : CS) : Prop := ∀ st : Stmt, chkS K.cs fr sc c st = true → ∀ (X : Cx) (W : WX), SxOk T Φ lv K sc X W → PS X st (tS T W fr (exS K.J.ffr Φ fr c))
def PBok (T : CT) (Φ : Fns) (lv : Nat) (K : CKx) (fr : Bool) (sc : Scope) (c : CB) : Prop := ∀ st : List Stmt, chkB K.cs fr sc c st = true → ∀ (X : Cx) (W : WX), SxOk T Φ lv K sc X W → PSs X st (tS T W fr (exB K.J.ffr Φ fr c))
theorem SxOk.nm (S : SxOk T Φ lv K sc X W) : OkNm X (ownB sc) := by
  intro x hx
  unfold ownB at hx
  unfold L2.Loc
  rw [S.O.sc]
  split at hx
  · exact ⟨.inl ‹_›, .inl (S.fn x)⟩
  · exact ⟨.inr ‹_›, .inl (S.fn x)⟩
  · cases hx
/-- a name of the body -/
theorem SxOk.var (S : SxOk T Φ lv K sc X W) (h : chk K.cs false sc (.var i) oe = true) : PE X oe (tVar i) ∧ baseOk oe = true := by
  unfold chk at h
  split at h
  · rename_i x hx
    obtain ⟨p, rfl⟩ := asName_ok hx
    rw [Bool.and_eq_true, Bool.and_eq_true, decide_eq_true_eq] at h
    exact ⟨pe_var (S.O.hN ▸ h.1.1) (visB_X S.O h.1.2) (okName_ok h.2).1 (okName_ok h.2).2, rfl⟩
  · cases h
theorem nm_get {N : List Str} {okn : Str → Bool} (h : chkNm N okn i tg = true) : ∃ x p, tg = .Name x p ∧ N[i]? = some x ∧ okn x = true := by
  unfold chkNm at h
  split at h
  · rename_i x hx
    obtain ⟨p, rfl⟩ := asName_ok hx
    rw [Bool.and_eq_true, decide_eq_true_eq] at h
    exact ⟨x, p, rfl, h.1, h.2⟩
  · cases h
theorem os_set (hf : T.fld = K.fld) {wb : Bool} : PSok T Φ lv K fr sc (.set wb i e) := by
  intro st hk X W S
  unfold chkS at hk
  split at hk
  · rename_i tg ee spos hx
    obtain rfl := asSet_ok hx
    rw [Bool.and_eq_true, Bool.and_eq_true] at hk
    obtain ⟨⟨h1, h2⟩, h3⟩ := hk
    obtain ⟨x, p, rfl, hN, hok⟩ := nm_get h1
    obtain ⟨hloc, hfn⟩ := S.nm x hok
    have he := (okE hf e).1 sc ee h2 X W S.O S.tk
    have plain : swapsWith ee (some (.Name x p)) spos.line X.env = pure false → PS X (.Assign [.Name x p] ee spos) (tS T W fr (exS K.J.ffr Φ fr (.set wb i e))) := fun hs => sr_set (ps_set S.O.nd (S.O.hN ▸ hN) hloc he hs hfn)
    rw [Bool.or_eq_true, Bool.or_eq_true] at h3
    rcases h3 with (h3 | h3) | h3
    · exact plain (notComp_ok h3)
    · refine plain ?_
      unfold noSwapB at h3
      split at h3
      · rename_i y py elt gs scope pos2 heq
        cases heq
        have hk2 : (X.env.kindOf x == some .local) = false := by
          unfold PySem.Env.kindOf
          rw [S.O.sc]
          simpa using h3
        unfold swapsWith
        simp only [hk2, Bool.and_false, Bool.false_and]
      · cases h3
    · rw [Bool.and_eq_true] at h3
      obtain ⟨h3, h4⟩ := h3
      cases e <;> first | (cases h4; done) | skip
      case comp elt own tgn it cond =>
        unfold chk at h2
        split at h2
        · rename_i ee' te ie ifs scope hx2
          obtain ⟨p2, rfl⟩ := asComp_ok hx2
          simp only [Bool.and_eq_true] at h2
          obtain ⟨⟨⟨⟨⟨⟨⟨g1, g2⟩, g3⟩, g4⟩, g5⟩, g6⟩, g7⟩, g8⟩ := h2
          have hown : ∀ i ∈ tgn, i ∈ (ownL K.N own).map (·.2) := fun i hi => by
            rw [ownL_snd]
            exact of_decide_eq_true (List.all_eq_true.mp g2 i hi)
          have hb := blkOk_by g1
          unfold swapB at h3
          dsimp only at h3
          simp only [Bool.and_eq_true, decide_eq_true_eq, Bool.not_eq_true'] at h3
          obtain ⟨⟨⟨s1, s2⟩, s3⟩, s4⟩ := h3
          have hkind : X.env.scope.kind = .function := by
            rw [S.O.sc]
            split at s1
            · assumption
            · cases s1
          have hloc2 : X.env.scope.names.lookup x = some .local := by rw [S.O.sc]; exact s2
          have r := sp_comp (fr := true) (i := i) (py := p) (spos := spos) (pos := p2) (own := ownL K.N own) (tgn := tgn) (fi := evi Φ it) (fc := evc Φ cond) (fe := ev Φ false elt) S.O (S.O.hN ▸ hN) hloc2 (sw_true hkind hloc2 s3 s4) (okI hf it sc _ _ g6 X W S.O S.tk) (by rw [S.O.hN, S.O.sc]; exact hb) (fun i hi => by rw [S.O.hN]; exact tg_ix g4 i hi) hown
            (fun s H C cl fp => tg_ok (S.O.blk (s := s) (H := H) (C := C) (cl := cl) (fp := fp)) (own_nm S.O) g4)
            (fun s H C cl fp => okC hf cond _ _ g7 _ _ (S.O.blk (s := s) (H := H) (C := C) (cl := cl) (fp := fp)) takes0)
            (fun s H C cl fp => ((okE hf elt).1 _ _ g8 _ _ (S.O.blk (s := s) (H := H) (C := C) (cl := cl) (fp := fp)) takes0).un) (notSet_it g5)
          rw [ownL_snd] at r
          exact sr_set (e := .comp elt own tgn it cond) r
        · cases h2
      case comp2 elt own tgn it tgn1 it1 cond1 =>
        unfold chk at h2
        split at h2
        · rename_i ee' te ie te1 ie1 ifs1 scope hx2
          obtain ⟨p2, rfl⟩ := asComp2_ok hx2
          simp only [Bool.and_eq_true] at h2
          obtain ⟨⟨⟨⟨⟨⟨⟨⟨⟨⟨g1, g2⟩, g2'⟩, g4⟩, g4'⟩, g5⟩, g5'⟩, g6⟩, g6'⟩, g7⟩, g8⟩ := h2
          have hown : ∀ i ∈ tgn, i ∈ (ownL K.N own).map (·.2) := fun i hi => by
            rw [ownL_snd]
            exact of_decide_eq_true (List.all_eq_true.mp g2 i hi)
          have hown1 : ∀ i ∈ tgn1, i ∈ (ownL K.N own).map (·.2) := fun i hi => by
            rw [ownL_snd]
            exact of_decide_eq_true (List.all_eq_true.mp g2' i hi)
          have hb := blkOk_by g1
          unfold swapB at h3
          dsimp only at h3
          simp only [Bool.and_eq_true, decide_eq_true_eq, Bool.not_eq_true'] at h3
          obtain ⟨⟨⟨s1, s2⟩, s3⟩, s4⟩ := h3
          have hkind : X.env.scope.kind = .function := by
            rw [S.O.sc]
            split at s1
            · assumption
            · cases s1
          have hloc2 : X.env.scope.names.lookup x = some .local := by rw [S.O.sc]; exact s2
          have r := sp_comp2 (fr := false) (i := i) (py := p) (spos := spos) (pos := p2) (own := ownL K.N own) (tgn := tgn) (tgn1 := tgn1) (fi := evi Φ it) (fi1 := evi Φ it1) (fc := evc Φ cond1) (fe := ev Φ false elt) S.O (S.O.hN ▸ hN) hloc2 (sw_true hkind hloc2 s3 s4) (okI hf it sc _ _ g6 X W S.O S.tk) (by rw [S.O.hN, S.O.sc]; exact hb) (fun i hi => by rw [S.O.hN]; exact tg_ix g4 i hi) (fun i hi => by rw [S.O.hN]; exact tg_ix g4' i hi) hown hown1
            (fun s H C cl fp => tg_ok (S.O.blk (s := s) (H := H) (C := C) (cl := cl) (fp := fp)) (own_nm S.O) g4)
            (fun s H C cl fp => okI hf it1 _ _ _ g6' _ _ (S.O.blk (s := s) (H := H) (C := C) (cl := cl) (fp := fp)) takes0)
            (fun s H C cl fp => tg_ok (S.O.blk (s := s) (H := H) (C := C) (cl := cl) (fp := fp)) (own_nm S.O) g4')
            (fun s H C cl fp => okC hf cond1 _ _ g7 _ _ (S.O.blk (s := s) (H := H) (C := C) (cl := cl) (fp := fp)) takes0)
            (fun s H C cl fp => ((okE hf elt).1 _ _ g8 _ _ (S.O.blk (s := s) (H := H) (C := C) (cl := cl) (fp := fp)) takes0).un) (notSet_it g5) (fun _ => notSet_it g5')
          rw [ownL_snd] at r
          exact sr_set (e := .comp2 elt own tgn it tgn1 it1 cond1) r
        · cases h2
  · cases hk
theorem PG.or {g1 g2 : TG} (h1 : PG X tg g1) (h2 : PG X tg g2) : PG X tg (fun v σ H Q => g1 v σ H Q ∨ g2 v σ H Q) := ⟨fun pins s σ H v u Q I r w => w.elim (h1.run pins s σ H v u Q I r) (h2.run pins s σ H v u Q I r)⟩
theorem swSole {es : List Expr} {k : Nat} {p : Pos} {l : Nat} {env : PySem.Env} : swapsWithSole [.Tuple es k p] ee l env = pure false := by
  show swapsWith ee (some (.Tuple es k p)) l env = pure false
  cases ee <;> rfl
theorem swSub {p : Pos} {l : Nat} {env : PySem.Env} : swapsWithSole [.Subscript oe xe p] ee l env = pure false := by
  show swapsWith ee (some (.Subscript oe xe p)) l env = pure false
  cases ee <;> rfl
theorem swStore {es : List Expr} {k : Nat} {p : Pos} {env : PySem.Env} (h : notTupE ee = true) : swappedStores [.Tuple es k p] ee env = pure none := by
  cases ee <;> first | rfl | cases h
theorem swStoreS {p : Pos} {env : PySem.Env} : swappedStores [.Subscript oe xe p] ee env = pure none := rfl
theorem os_tup (hf : T.fld = K.fld) {is : List Nat} : PSok T Φ lv K fr sc (.tup is e) := by
  intro st hk X W S
  unfold chkS at hk
  split at hk
  · rename_i tg ee spos hx
    obtain rfl := asSet_ok hx
    split at hk
    · rename_i es hes
      obtain ⟨kk, p, rfl⟩ := asTup_ok hes
      rw [Bool.and_eq_true, Bool.and_eq_true] at hk
      obtain ⟨⟨h1, h2⟩, h3⟩ := hk
      have he := (okE hf e).1 sc ee h3 X W S.O S.tk
      have hgs := pgs_ok S.O S.nm h1
      obtain ⟨l1, l2⟩ := nms_len (en := X.env) h1
      exact sr_tup S.O.fs.K.symm (ps_asg he (PG.or (pg_tup S.O.calm hgs l1 l2) (pg_lst S.O.calm hgs l1 l2)) swSole (swStore h2) rfl)
    · cases hk
  · cases hk
theorem os_par (hf : T.fld = K.fld) {is : List Nat} {as : CA} : PSok T Φ lv K fr sc (.par is as) := by
  intro st hk X W S
  unfold chkS at hk
  split at hk
  · rename_i tg ee spos hx
    obtain rfl := asSet_ok hx
    split at hk
    · rename_i ts vs i j hts hvs
      obtain ⟨kk, p, rfl⟩ := asTup_ok hts
      obtain ⟨k2, p2, rfl⟩ := asTup_ok hvs
      simp only [Bool.and_eq_true] at hk
      obtain ⟨⟨⟨h1, h2⟩, h3⟩, h4⟩ := hk
      have h1' := h1
      unfold pairB at h1
      split at h1
      · rename_i x px y py a b
        simp only [Bool.and_eq_true, decide_eq_true_eq, Bool.not_eq_true'] at h1
        obtain ⟨⟨⟨⟨⟨⟨⟨⟨g1, g2⟩, g3⟩, g4⟩, g5⟩, g6⟩, g7⟩, g8⟩, g9⟩ := h1
        unfold chkNms chkNms chkNms at h2
        simp only [Bool.and_eq_true] at h2
        obtain ⟨x', p', e1, n1, _⟩ := nm_get h2.1
        obtain ⟨y', q', e2, n2, _⟩ := nm_get h2.2.1
        cases e1
        cases e2
        have ha := okA hf as sc _ h4 X W S.O S.tk
        have hij : i ≠ j := by simpa using h3
        exact sr_par2 (ps_par S.O.calm S.O.nd (S.O.hN ▸ n1) (S.O.hN ▸ n2) hij (by rw [S.O.sc]; exact g2) (by rw [S.O.sc]; exact g3) ha (sw2 (by rw [S.O.sc]; exact h1')) rfl)
      · cases h1
    · cases hk
  · cases hk
theorem os_fset (hf : T.fld = K.fld) {c : Nat} : PSok T Φ lv K fr sc (.fset i c k e) := by
  intro st hk X W S
  unfold chkS at hk
  split at hk
  · rename_i tg ee spos hx
    obtain rfl := asSet_ok hx
    split at hk
    · rename_i oe x hat
      obtain ⟨p, rfl⟩ := asAttr_ok hat
      simp only [Bool.and_eq_true, decide_eq_true_eq] at hk
      obtain ⟨⟨⟨⟨h1, h2⟩, h3⟩, h4⟩, h5⟩ := hk
      have he := (okE hf e).1 sc ee h5 X W S.O S.tk
      exact sr_fset (fs := []) S.O h2 (by rw [hf]; exact h3) (ps_fld (S.var h1).1 he (notComp_ok h4))
    · cases hk
  · cases hk
theorem os_cfld (hf : T.fld = K.fld) {c : Nat} : PSok T Φ lv K fr sc (.cfld o c k e) := by
  intro st hk X W S
  unfold chkS at hk
  split at hk
  · rename_i tg ee spos hx
    obtain rfl := asSet_ok hx
    split at hk
    · rename_i oe x hat
      obtain ⟨p, rfl⟩ := asAttr_ok hat
      simp only [Bool.and_eq_true, decide_eq_true_eq] at hk
      obtain ⟨⟨⟨⟨h1, h2⟩, h3⟩, h4⟩, h5⟩ := hk
      exact sr_cfld S.O h2 (by rw [hf]; exact h3) (ps_fld ((okE hf o).1 sc oe h1 X W S.O S.tk) ((okE hf e).1 sc ee h5 X W S.O S.tk) (notComp_ok h4))
    · cases hk
  · cases hk
theorem sub_asg {p : Pos} (hs : plainIx xe = true) (v : Value) : assign (.Subscript oe xe p) X.env v = (do
      let ov ← holding [v] (eval oe X.env)
      let iv ← holding [v, ov] (eval xe X.env)
      standAt p
      holding [v, ov, iv] (setItem ov iv v)
      release [v, ov, iv] []) := by
  cases xe <;> first | rfl | cases hs
theorem os_cidx (hf : T.fld = K.fld) : PSok T Φ lv K fr sc (.cidx o ix e) := by
  intro st hk X W S
  unfold chkS at hk
  split at hk
  · rename_i tg ee spos hx
    obtain rfl := asSet_ok hx
    split at hk
    · rename_i oe xe hat
      obtain ⟨p, rfl⟩ := asSub_ok hat
      simp only [Bool.and_eq_true] at hk
      obtain ⟨⟨⟨⟨h1, h2⟩, h3⟩, h4⟩, h5⟩ := hk
      exact sr_cidx (ps_asg ((okE hf e).1 sc ee h5 X W S.O S.tk) (pg_sub ((okE hf o).1 sc oe h1 X W S.O S.tk) ((okE hf ix).1 sc xe h2 X W S.O S.tk) set_list (sub_asg h3)) swSub swStoreS rfl)
    · cases hk
  · cases hk
theorem os_oidx (hf : T.fld = K.fld) : PSok T Φ lv K fr sc (.oidx i ix e) := by
  intro st hk X W S
  unfold chkS at hk
  split at hk
  · rename_i tg ee spos hx
    obtain rfl := asSet_ok hx
    split at hk
    · rename_i oe xe hat
      obtain ⟨p, rfl⟩ := asSub_ok hat
      simp only [Bool.and_eq_true] at hk
      obtain ⟨⟨⟨⟨h1, h2⟩, h3⟩, h4⟩, h5⟩ := hk
      exact sr_oidx (ps_asg ((okE hf e).1 sc ee h5 X W S.O S.tk) (pg_sub (S.var h1).1 ((okE hf ix).1 sc xe h2 X W S.O S.tk) set_list (sub_asg h3)) swSub swStoreS rfl)
    · cases hk
  · cases hk
theorem os_app (hf : T.fld = K.fld) : PSok T Φ lv K fr sc (.app i e) := by
  intro st hk X W S
  unfold chkS at hk
  split at hk
  · rename_i c spos hx
    obtain rfl := asEx_ok hx
    split at hk
    · rename_i oe m ee l hmt
      obtain ⟨ap, cp, rfl, hl⟩ := asMeth_ok hmt
      simp only [Bool.and_eq_true, decide_eq_true_eq] at hk
      obtain ⟨⟨⟨⟨h1, rfl⟩, rfl⟩, h4⟩, h5⟩ := hk
      obtain ⟨hv, hb⟩ := S.var h1
      exact sr_app hv ((okE hf e).1 sc ee h5 X W S.O S.tk) h4 (baseOk_ok hb) hl
    · cases hk
  · cases hk
theorem os_capp (hf : T.fld = K.fld) : PSok T Φ lv K fr sc (.capp o e) := by
  intro st hk X W S
  unfold chkS at hk
  split at hk
  · rename_i c spos hx
    obtain rfl := asEx_ok hx
    split at hk
    · rename_i oe m ee l hmt
      obtain ⟨ap, cp, rfl, hl⟩ := asMeth_ok hmt
      simp only [Bool.and_eq_true, decide_eq_true_eq] at hk
      obtain ⟨⟨⟨⟨⟨h1, h0⟩, rfl⟩, rfl⟩, h4⟩, h5⟩ := hk
      exact sr_capp ((okE hf o).1 sc oe h1 X W S.O S.tk) ((okE hf e).1 sc ee h5 X W S.O S.tk) h4 (baseOk_ok h0) hl
    · cases hk
  · cases hk
theorem os_ext (hf : T.fld = K.fld) : PSok T Φ lv K fr sc (.ext i e) := by
  intro st hk X W S
  unfold chkS at hk
  split at hk
  · rename_i c spos hx
    obtain rfl := asEx_ok hx
    split at hk
    · rename_i oe m ee l hmt
      obtain ⟨ap, cp, rfl, hl⟩ := asMeth_ok hmt
      simp only [Bool.and_eq_true, decide_eq_true_eq] at hk
      obtain ⟨⟨⟨⟨h1, rfl⟩, rfl⟩, h4⟩, h5⟩ := hk
      obtain ⟨hv, hb⟩ := S.var h1
      exact sr_ext hv ((okE hf e).1 sc ee h5 X W S.O S.tk) h4 (baseOk_ok hb) hl
    · cases hk
  · cases hk
theorem os_rev : PSok T Φ lv K fr sc (.rev i) := by
  intro st hk X W S
  unfold chkS at hk
  split at hk
  · rename_i c spos hx
    obtain rfl := asEx_ok hx
    split at hk
    · rename_i oe m l hmt
      obtain ⟨ap, cp, rfl, hl⟩ := asMeth_ok hmt
      simp only [Bool.and_eq_true, decide_eq_true_eq] at hk
      obtain ⟨⟨h1, rfl⟩, rfl⟩ := hk
      obtain ⟨hv, hb⟩ := S.var h1
      exact sr_rev hv (baseOk_ok hb) hl
    · cases hk
  · cases hk
theorem os_expr (hf : T.fld = K.fld) : PSok T Φ lv K fr sc (.expr e) := by
  intro st hk X W S
  unfold chkS at hk
  split at hk
  · rename_i ee spos hx
    obtain rfl := asEx_ok hx
    rw [Bool.and_eq_true] at hk
    exact sr_expr (ps_expr ((okE hf e).1 sc ee hk.2 X W S.O S.tk) (notComp_ok hk.1))
  · cases hk
theorem os_ret (hf : T.fld = K.fld) : PSok T Φ lv K fr sc (.ret e) := by
  intro st hk X W S
  unfold chkS at hk
  split at hk
  · rename_i ee hx
    obtain ⟨p, rfl⟩ := asRet_ok hx
    have he := ps_ret (pos := p) ((okE hf e).1 sc ee hk X W S.O S.tk)
    cases fr with
    | false => exact sr_ret he (fun z => nomatch z)
    | true =>
      have gen : (∀ i, e ≠ .var i) → PS X (.Return (some ee) p) (tS T W true fun s cs => if frE K.J.ffr e then evK K.J.ffr Φ e s cs fun v _ cs => .rt v cs else .stuck) := fun _ => by
        cases hfr : frE K.J.ffr e with
        | true => exact sr_ret he (fun _ => hfr)
        | false => exact sr_stuck fun _ _ => rfl
      cases e with
      | var i => exact sr_retO (ps_ret (S.var hk).1)
      | _ => exact gen (fun i z => by cases z)
  · cases hk
theorem os_raise {p : CP} {c : Nat} : PSok T Φ lv K fr sc (.raise c p) := by
  intro st hk X W S
  unfold chkS at hk
  cases p with
  | some e => cases hk
  | no =>
    dsimp only at hk
    split at hk
    · rename_i x hx
      obtain ⟨p, m, j, p2, p3, p4, rfl⟩ := asRaise_ok hx
      simp only [Bool.and_eq_true, decide_eq_true_eq] at hk
      obtain ⟨⟨h1, rfl⟩, h3⟩ := hk
      obtain ⟨⟨B, n1, n2, bm, F, q⟩, gC, kC, r⟩ := S.ex c h1
      exact sr_raise (ps_raise S.O.calm S.tk (pmk_own F q gC kC r (glB_ok S.O h3).1 (glB_ok S.O h3).2))
    · cases hk
theorem okIr (hf : T.fld = K.fld) {c : CI} (hr : isRng c = true) {tg e : Expr} (hk : chkI K.cs sc c tg e = true) (O : CxOk T Φ K.J lv K.N sc X) (tk : Takes X W) : PI X tg e (tIr T W (evi Φ c)) := by
  cases c with
  | rng1 a =>
    unfold chkI at hk
    split at hk
    · rename_i x y hx
      obtain ⟨p, pos, rfl⟩ := asCall_ok hx
      simp only [Bool.and_eq_true, decide_eq_true_eq] at hk
      obtain ⟨⟨⟨rfl, h1⟩, h2⟩, h3⟩ := hk
      exact pi_r1r O (glB_ok O h1).1 ((okE hf a).1 sc _ h3 X W O tk).un h2
    · cases hk
  | rng2 a b =>
    unfold chkI at hk
    split at hk
    · rename_i x y z hx
      obtain ⟨p, pos, rfl⟩ := asCall_ok hx
      simp only [Bool.and_eq_true, decide_eq_true_eq] at hk
      obtain ⟨⟨⟨⟨⟨rfl, h1⟩, h2⟩, h3⟩, h4⟩, h5⟩ := hk
      exact pi_r2r O (glB_ok O h1).1 ((okE hf a).1 sc _ h4 X W O tk).un ((okE hf b).1 sc _ h5 X W O tk).un h2 h3
    · cases hk
  | _ => cases hr
theorem os_for (hf : T.fld = K.fld) {tg : List Nat} {it : CI} {b : CB} (ih : PBok T Φ lv K fr sc b) : PSok T Φ lv K fr sc (.for tg it b) := by
  intro st hk X W S
  unfold chkS at hk
  split at hk
  · rename_i te ie bs hx
    obtain ⟨p, rfl⟩ := asFor_ok hx
    simp only [Bool.and_eq_true] at hk
    obtain ⟨⟨⟨h1, h2⟩, h3⟩, h4⟩ := hk
    have hb := ih bs h4 X W S
    have hg := tg_ok S.O S.nm h1
    cases hr : isRng it with
    | false => exact sr_for S.O.fs.K.symm S.hp S.O.calm (okI hf it sc te ie h3 X W S.O S.tk) hg hb (notSet_it h2) hr
    | true => exact sr_forR S.O.fs.K.symm S.hp S.O.calm (okIr hf hr h3 S.O S.tk) hg hb (notSet_it h2) hr
  · cases hk
theorem os_fro (hf : T.fld = K.fld) {i : Nat} {tg : List Nat} {it : CI} {b : CB} (ih : PBok T Φ lv K fr sc b) : PSok T Φ lv K fr sc (.fro i tg it b) := by
  intro st hk X W S
  have e : exS K.J.ffr Φ fr (.fro i tg it b) = fun s cs => RR.ofO (ownOf s i) fun xs => if noP s = true then froT i (exS K.J.ffr Φ fr (.for tg it b) (s.set i (.lnt xs)) cs) else .stuck := by
    funext s cs
    rw [exS]
    congr 1
  rw [e]
  exact sr_fro (os_for hf (tg := tg) (it := it) ih st (by unfold chkS at hk ⊢; exact hk) X W S)
theorem os_whl (hf : T.fld = K.fld) {t : CE} {b : CB} (ih : PBok T Φ lv K fr sc b) : PSok T Φ lv K fr sc (.whl t b) := by
  intro st hk X W S
  unfold chkS at hk
  split at hk
  · rename_i te bs hx
    obtain ⟨p, rfl⟩ := asWhl_ok hx
    simp only [Bool.and_eq_true] at hk
    exact sr_whl S.hp ((okE hf t).2 sc te hk.1 X W S.O S.tk) (ih bs hk.2 X W S)
  · cases hk
theorem os_ite (hf : T.fld = K.fld) {t : CE} {a b : CB} (iha : PBok T Φ lv K fr sc a) (ihb : PBok T Φ lv K fr sc b) : PSok T Φ lv K fr sc (.ite t a b) := by
  intro st hk X W S
  unfold chkS at hk
  split at hk
  · rename_i te as bs hx
    obtain ⟨p, rfl⟩ := asIfS_ok hx
    simp only [Bool.and_eq_true] at hk
    exact sr_if ((okE hf t).2 sc te hk.1.1 X W S.O S.tk) (iha as hk.1.2 X W S) (ihb bs hk.2 X W S)
  · cases hk
theorem Fs.trc {pn : List (Addr × Obj)} {xe : Value → Shared → Prop} {J : TX} (F : Fs T Φ J lv X) : Fs T Φ J lv (X.tr pn xe) := by
  obtain ⟨h1, h2, h3, h4, h5, h6, h7, h8, h9, h10, h11, h12, h13, h14, h15, h16, h17, h18, h19, h20, h21, h22, h23, h24, h25, h26, h27, h28, h29, h30, h31, h32, h33⟩ := F
  constructor <;> assumption
theorem SxOk.trc {W' : WX} {pn : List (Addr × Obj)} {xe : Value → Shared → Prop} (S : SxOk T Φ lv K sc X W) (tk : Takes (X.tr pn xe) W') (hp : PassesOwn (model X.prog X.w) X.A X.env xe) : SxOk T Φ lv K sc (X.tr pn xe) W' where
  O := ⟨S.O.fs.trc, S.O.hN, S.O.nd, S.O.sc, S.O.calm, S.O.room⟩
  tk := tk
  hp := hp
  fn := S.fn
  hs := S.hs
  hf := S.hf
  xm := S.xm
  xv := S.xv
  xc := S.xc
  ex := S.ex
theorem os_try {b : CB} {nm : Option Nat} {q : QE} {c : Nat} (ih : PBok T Φ lv K fr sc b) : PSok T Φ lv K fr sc (.try b c nm q) := by
  intro st hk X W S
  unfold chkS at hk
  split at hk
  · rename_i body x n e hx
    obtain ⟨p, p2, p3, p4, rfl⟩ := asTry_ok hx
    simp only [Bool.and_eq_true, decide_eq_true_eq] at hk
    obtain ⟨⟨⟨⟨⟨h1, h2⟩, h3⟩, h4⟩, h5⟩, h6⟩ := hk
    have hN := names_ok S h2 h3 h4
    have inner : ∀ (W' : WX) (pn : List (Addr × Obj)) (xe : Value → Shared → Prop), Takes (X.tr pn xe) W' → PassesOwn (model X.prog X.w) X.A X.env xe → PSs (X.tr pn xe) body (tS T W' fr (exB K.J.ffr Φ fr b)) := fun W' pn xe tk hp => ih body h1 _ W' (S.trc tk hp)
    have ew : ∀ s cs, exS K.J.ffr Φ fr (.try b c nm q) s cs = tryD Φ fr c nm q (exB K.J.ffr Φ fr b s cs) := fun s cs => by unfold exS; rfl
    unfold nmOk at h5
    split at h5
    · refine PS.by' (ps_try_only S.hs S.hf hN S.tk inner fun a oe cls d pn hz hf => clause_ok S h6 hz hf) fun D σ H hl ⟨Sc, x0, κ0, H0, O, s, κ, cs, R, w⟩ => ⟨Sc, x0, κ0, H0, O, s, κ, cs, R, ?_⟩
      rw [ew] at w
      refine fin_try (fun c' σ1 H1 hok hl1 k1 k2 => ⟨Φ.xsub c' c, ((S.xc c' hok).2 c h2).1, fun hb a ha => ?_, k2⟩) _ w
      exact (k1 hb).2 a σ1 ha (fun i hi => nomatch hi) fun _ => rfl
    · rename_i i y
      rw [Bool.and_eq_true, decide_eq_true_eq, decide_eq_true_eq] at h5
      have hloc : X.env.kindOf y = some .local := by
        unfold PySem.Env.kindOf
        rw [S.O.sc]
        exact h5.2
      refine PS.by' (ps_try_as (i := i) S.hs S.hf S.O.nd (S.O.hN ▸ h5.1) hloc hN S.tk inner fun a oe cls d pn hz hf => clause_ok S h6 hz hf) fun D σ H hl ⟨Sc, x0, κ0, H0, O, s, κ, cs, R, w⟩ => ⟨Sc, x0, κ0, H0, O, s, κ, cs, R, ?_⟩
      rw [ew] at w
      refine fin_try (fun c' σ1 H1 hok hl1 k1 k2 => ⟨Φ.xsub c' c, ((S.xc c' hok).2 c h2).1, fun hb a ha => ?_, k2⟩) _ w
      exact (k1 hb).2 a _ ha (fun j hj => by cases hj; rfl) fun hj => nomatch hj
    · cases h5
  · cases hk
theorem os_tryI {b : CB} {i : Nat} {c : Nat} (ih : PBok T Φ lv K fr sc b) : PSok T Φ lv K fr sc (.tryI b c i) := by
  intro st hk X W S
  unfold chkS at hk
  split at hk
  · rename_i body x y z hx
    obtain ⟨p, p1, p2, j, p3, p4, p5, p6, p7, rfl⟩ := asTryI_ok hx
    simp only [Bool.and_eq_true, decide_eq_true_eq] at hk
    obtain ⟨⟨⟨⟨⟨⟨⟨⟨h1, h2⟩, h3⟩, h4⟩, h5⟩, h6⟩, h7⟩, h8⟩, h9⟩ := hk
    subst h5
    have hN := names_ok S h2 h3 h4
    obtain ⟨hloc, hfn⟩ := S.nm _ h9
    have inner : ∀ (W' : WX) (pn : List (Addr × Obj)) (xe : Value → Shared → Prop), Takes (X.tr pn xe) W' → PassesOwn (model X.prog X.w) X.A X.env xe → PSs (X.tr pn xe) body (tS T W' fr (exB K.J.ffr Φ fr b)) := fun W' pn xe tk hp => ih body h1 _ W' (S.trc tk hp)
    have ew : ∀ s cs, exS K.J.ffr Φ fr (.tryI b c i) s cs = tryDI Φ c i (exB K.J.ffr Φ fr b s cs) := fun s cs => by unfold exS; rfl
    refine PS.by' (ps_try_only S.hs S.hf hN S.tk inner fun a oe cls d pn hz hf => clauseI_ok S h6 h7 h8 hloc hfn) fun D σ H hl ⟨Sc, x0, κ0, H0, O, s, κ, cs, R, w⟩ => ⟨Sc, x0, κ0, H0, O, s, κ, cs, R, ?_⟩
    rw [ew] at w
    exact fin_tryI (fun c' σ1 H1 hok k1 k2 => ⟨Φ.xsub c' c, ((S.xc c' hok).2 c h2).1, fun hb a ha => k1 hb, k2⟩) _ w
  · cases hk
theorem os_tryM {b : CB} {hs : List (Nat × Option Nat × QE)} (ih : PBok T Φ lv K fr sc b) : PSok T Φ lv K fr sc (.tryM b hs) := by
  intro st hk X W S
  unfold chkS at hk
  split at hk
  · rename_i body hds hx
    obtain ⟨h0, hs', p, rfl, rfl⟩ := asTryM_ok hx
    rw [Bool.and_eq_true] at hk
    exact sr_tryM S hk.2 (fun W' pn xe tk hp => ih body hk.1 _ W' (S.trc tk hp)) fun s cs => by unfold exS; rfl
  · cases hk
theorem os_aug (hf : T.fld = K.fld) : PSok T Φ lv K fr sc (.aug i e) := by
  intro st hk X W S
  unfold chkS at hk
  split at hk
  · rename_i x ee hx
    obtain ⟨p, p2, rfl⟩ := asAug_ok hx
    simp only [Bool.and_eq_true, decide_eq_true_eq] at hk
    obtain ⟨⟨h1, h2⟩, h3⟩ := hk
    obtain ⟨hloc, hfn⟩ := S.nm x h2
    exact sr_aug (ps_aug S.O.nd (S.O.hN ▸ h1) hloc ((okE hf e).1 sc ee h3 X W S.O S.tk) ip_add hfn)
  · cases hk
theorem fl_ok (hf : T.fld = K.fld) (S : SxOk T Φ lv K sc X W) : ∀ {ks : List Nat} {es : List Expr}, chkFl K.cs sc i k ks es = true → ∃ xs : List Str, PGs X es (gFl X.K i xs) ∧ xs.length = ks.length ∧ (∀ (j n : Nat), ks[j]? = some n → ∃ x, xs[j]? = some x ∧ (T.fld k)[n]? = some x) ∧ (assignEach es X.env).length = ks.length ∧ (assignEach es X.env).findIdx? (·.1) = none
  | [], [], _ => ⟨[], pgs_nil, rfl, fun j n h => by simp at h, rfl, rfl⟩
  | [], _ :: _, h => by unfold chkFl at h; cases h
  | _ :: _, [], h => by unfold chkFl at h; cases h
  | n :: ns, e :: es, h => by
    unfold chkFl at h
    rw [Bool.and_eq_true] at h
    obtain ⟨h1, h2⟩ := h
    obtain ⟨xs, g1, g2, g3, g4, g5⟩ := fl_ok hf S h2
    split at h1
    · rename_i oe x hat
      obtain ⟨p, rfl⟩ := asAttr_ok hat
      rw [Bool.and_eq_true, decide_eq_true_eq] at h1
      have e1 : assignEach (.Attribute oe x p :: es) X.env = (false, assign (.Attribute oe x p) X.env) :: assignEach es X.env := rfl
      refine ⟨x :: xs, pgs_cons (pg_fld (S.var h1.1).1) g1 (by rw [e1]; rfl), by rw [List.length_cons, List.length_cons, g2], fun j m hj => ?_, by rw [e1, List.length_cons, List.length_cons, g4], by rw [e1, List.findIdx?_cons, g5]; rfl⟩
      cases j with
      | zero => cases hj; exact ⟨x, rfl, by rw [hf]; exact h1.2⟩
      | succ j => exact g3 j m hj
    · cases h1
theorem os_caug (hf : T.fld = K.fld) {c k : Nat} {n : Int} : PSok T Φ lv K fr sc (.caug i c k n) := by
  intro st hk X W S
  unfold chkS at hk
  split at hk
  · rename_i oe x ee hx
    obtain ⟨p, p2, rfl⟩ := asFAug_ok hx
    simp only [Bool.and_eq_true, decide_eq_true_eq] at hk
    obtain ⟨⟨⟨h1, h2⟩, h3⟩, h4⟩ := hk
    obtain ⟨j, q, rfl⟩ := asConst_ok h4
    exact sr_caug S.O h1 (by rw [hf]; exact h2) (ps_fldaug (S.var h3).1 pe_int in_add)
  · cases hk
theorem os_ctup (hf : T.fld = K.fld) {c : Nat} {ks : List Nat} : PSok T Φ lv K fr sc (.ctup i c ks e) := by
  intro st hk X W S
  unfold chkS at hk
  split at hk
  · rename_i tg ee spos hx
    obtain rfl := asSet_ok hx
    split at hk
    · rename_i es hes
      obtain ⟨kk, p, rfl⟩ := asTup_ok hes
      simp only [Bool.and_eq_true, decide_eq_true_eq] at hk
      obtain ⟨⟨⟨h1, h2⟩, h3⟩, h4⟩ := hk
      obtain ⟨xs, g1, g2, g3, g4, g5⟩ := fl_ok hf S h1
      exact sr_ctup S.O h2 g2 g3 (ps_asg ((okE hf e).1 sc ee h4 X W S.O S.tk) (pg_tup S.O.calm g1 g4 g5) swSole (swStore h3) rfl)
    · cases hk
  · cases hk
theorem os_wth (hf : T.fld = K.fld) {c fe fx : Nat} {b : CB} (ih : PBok T Φ lv K fr sc b) : PSok T Φ lv K fr sc (.wth c fe fx e i b) := by
  intro st hk X W S
  unfold chkS at hk
  split at hk
  · rename_i ee y body hx
    obtain ⟨p, p2, rfl⟩ := asWth_ok hx
    simp only [Bool.and_eq_true, decide_eq_true_eq, Bool.not_eq_true'] at hk
    obtain ⟨⟨⟨⟨⟨⟨⟨⟨⟨⟨⟨⟨⟨⟨⟨h1, h2, h2'⟩, h3⟩, h4⟩, h5⟩, h6⟩, g1⟩, g2, g2'⟩, g3⟩, g4⟩, g5⟩, g6⟩, k1⟩, k2⟩, k3⟩, k4⟩ := hk
    obtain ⟨hloc, hfn⟩ := S.nm y k2
    exact sr_wth S h1 h2 h2' h3 h4 h5 h6 g1 g2 g2' g3 g4 g5 g6 (S.O.hN ▸ k1) hloc hfn ((okE hf e).1 sc ee k3 X W S.O S.tk) (fun W' pn xe tk hp => ih body k4 _ W' (S.trc tk hp)) fun s cs => by unfold exS; rfl
  · cases hk
theorem os_pop {j : Nat} : PSok T Φ lv K fr sc (.pop i j) := by
  intro st hk X W S
  unfold chkS at hk
  split at hk
  · rename_i tg ee spos hx
    obtain rfl := asSet_ok hx
    split at hk
    · rename_i oe m l hmt
      obtain ⟨ap, cp, rfl, hl⟩ := asMeth_ok hmt
      simp only [Bool.and_eq_true, decide_eq_true_eq] at hk
      obtain ⟨⟨⟨⟨h1, h2⟩, rfl⟩, rfl⟩, h5⟩ := hk
      obtain ⟨x, p, rfl, hN, hok⟩ := nm_get h1
      obtain ⟨hloc, hfn⟩ := S.nm x hok
      obtain ⟨hv, hb⟩ := S.var h2
      exact sr_pop (by simpa using h5) (ps_set S.O.nd (S.O.hN ▸ hN) hloc (pe_bm0 PySem.F.plainAttrs_list PySem.F.slot_list_pop PySem.F.type_list_pop mt_pop hv (baseOk_ok hb) hl) rfl hfn)
    · cases hk
  · cases hk
mutual
theorem okS (hf : T.fld = K.fld) : ∀ c : CS, PSok T Φ lv K fr sc c
  | .stuck => fun st _ X W S => sr_stuck fun _ _ => rfl
  | .pass => fun st hk X W S => by
    unfold chkS at hk
    obtain ⟨p, rfl⟩ := isPass_ok hk
    exact sr_pass fun _ _ => rfl
  | .brk => fun st hk X W S => by
    unfold chkS at hk
    obtain ⟨p, rfl⟩ := isBrk_ok hk
    exact sr_brk fun _ _ => rfl
  | .set _ i e => os_set hf
  | .tup is e => os_tup hf
  | .par is as => os_par hf
  | .fset i c k e => os_fset hf
  | .cfld o c k e => os_cfld hf
  | .cidx o ix e => os_cidx hf
  | .oidx i ix e => os_oidx hf
  | .app i e => os_app hf
  | .capp o e => os_capp hf
  | .ext i e => os_ext hf
  | .rev i => os_rev
  | .expr e => os_expr hf
  | .ret e => os_ret hf
  | .retN => fun st hk X W S => by
    unfold chkS at hk
    obtain ⟨p, rfl⟩ := isRetN_ok hk
    cases fr with
    | false => exact sr_retN rfl
    | true => exact sr_stuck fun _ _ => rfl
  | .ite t a b => os_ite hf (okB hf a) (okB hf b)
  | .for tg it b => os_for hf (okB hf b)
  | .fro i tg it b => os_fro hf (okB hf b)
  | .whl t b => os_whl hf (okB hf b)
  | .raise c p => os_raise
  | .try b c nm q => os_try (okB hf b)
  | .tryI b c i => os_tryI (okB hf b)
  | .tryM b hs => os_tryM (okB hf b)
  | .aug i e => os_aug hf
  | .caug i c k n => os_caug hf
  | .ctup i c ks e => os_ctup hf
  | .wth c fe fx e i b => os_wth hf (okB hf b)
  | .pop i j => os_pop
theorem okB (hf : T.fld = K.fld) : ∀ c : CB, PBok T Φ lv K fr sc c
  | .nil => fun st hk X W S => by
    cases st with
    | nil => exact sss_nil fun _ _ => rfl
    | cons a b => unfold chkB at hk; cases hk
  | .cons a b => fun st hk X W S => by
    cases st with
    | nil => unfold chkB at hk; cases hk
    | cons s ss =>
      unfold chkB at hk
      rw [Bool.and_eq_true] at hk
      exact sss_cons (okS hf a s hk.1 X W S) (okB hf b ss hk.2 X W S)
end
end
end EG

-- Eng3
/-! Engine 3: functions by levels. -/
namespace EG
open PySem PySem.Spec L2 PyProof.Rows

def asIter : List Stmt → Option Str
  | [.Return (some (.Call (.Name i _) [.Attribute (.Name z _) x _] [] _)) _] => if i = "iter" ∧ z = "self" then some x else none
  | _ => none
theorem asIter_ok {b : List Stmt} {x : Str} (h : asIter b = some x) : ∃ p1 p2 p3 p4 p5, b = [.Return (some (.Call (.Name "iter" p1) [.Attribute (.Name "self" p2) x p3] [] p4)) p5] := by
  unfold asIter at h
  split at h
  · split at h
    · rename_i hh
      obtain ⟨rfl, rfl⟩ := hh
      cases h
      exact ⟨_, _, _, _, _, rfl⟩
    · cases h
  · cases h
/-- a program: its defs, constructors, classes, constants -/
structure PD where
  nf : Nat
  nc : Nat
  nk : Nat
  fps : Nat → List Str
  ffr : Nat → Bool
  fnm : Nat → Str
  isM : Nat → Bool
  fcl : Nat → Nat
  ips : Nat → List Str
  cnm : Nat → Str
  knm : Nat → Str
  cvs : List (Nat × Str × Int)
  fld : Nat → List Str
  exs : List Nat
  bd : Nat → CB
  nm : Nat → List Str
  dst : Nat → Stmt
  fql : Nat → Str
  ibd : Nat → CB
  inm : Nat → List Str
  idst : Nat → Stmt
  iql : Nat → Str
  b : Fns
  fz : Nat → Bool
  prs : List (Nat × Str × Nat)
  its : List (Nat × Nat × Nat)
/-- where its objects stand -/
structure AD where
  K : PySem.W.Frag
  cls : Nat → Addr
  fad : Nat → Addr
  fdt : Nat → FuncData
  iad : Nat → Addr
  idt : Nat → FuncData
def PD.J (P : PD) (a : AD) : TX := ⟨P.nf, P.nc, P.nk, a.fad, a.fdt, P.fps, P.ffr, P.fnm, P.isM, P.fcl, a.iad, a.idt, P.ips, P.cnm, P.knm, P.cvs, P.prs, P.its⟩
def PD.T (P : PD) (a : AD) : CT := ⟨a.K, a.cls, P.fld⟩
def PD.ck (P : PD) (a : AD) (N : List Str) : CKx := ⟨P.J a, P.fld, N, P.exs⟩
def PD.cs (P : PD) (N : List Str) : CKs := ⟨⟨P.nf, P.nc, P.nk, P.fps, P.ffr, P.fnm, P.isM, P.fcl, P.ips, P.cnm, P.knm, P.cvs, P.prs, P.its⟩, P.fld, N, P.exs⟩
def startS (n : Nat) (as : List IV) : SE := as.map SL.val ++ List.replicate (n - as.length) .no
def outF (fr : Bool) : RR → R IV
  | .nx _ cs => if fr then .stuck else .ok .non cs
  | .rt v cs => .ok v cs
  | .ex c pl _ cs => .exc c pl cs
  | .bk _ _ => .stuck
  | .stuck => .stuck
def outI (fld : Nat → List Str) (c : Nat) : RR → R (List IV)
  | .nx s cs => (match slfOf s 0 with
    | some (c', fs) => if c' = c ∧ fs.length = (fld c).length then .ok fs cs else .stuck
    | none => .stuck)
  | .ex c pl _ cs => .exc c pl cs
  | .rt _ _ => .stuck
  | .bk _ _ => .stuck
  | .stuck => .stuck
/-! a list of new lists is handed back: from here on plain values -/
def frz1 (k : Nat) (cs : Cs) : IV → Option IV
  | .cell n => if k ≤ n then (match cs[n]? with
    | some (.lst ys) => if flatIs ys then some (.lst ys) else none
    | _ => none) else none
  | _ => none
def frzs (k : Nat) (cs : Cs) : List IV → Option (List IV)
  | [] => some []
  | x :: xs => (match frz1 k cs x with
    | some y => (match frzs k cs xs with
      | some ys => some (y :: ys)
      | none => none)
    | none => none)
def flC : CO → Bool
  | .lst xs => flatIs xs
  | .ins _ _ => false
def frzV (k : Nat) (cs : Cs) : IV → R IV
  | .lst xs => (match frzs k cs xs with
    | some ys => if (cs.take k).all flC then .ok (.lst ys) (cs.take k) else .stuck
    | none => .stuck)
  | _ => .stuck
def frzR (z : Bool) (k : Nat) (r : R IV) : R IV := match z with
  | false => r
  | true => (match r with
    | .ok v cs => frzV k cs v
    | .exc c pl cs => .exc c pl cs
    | .stuck => .stuck)
def runF (P : PD) (Φ : Fns) (f : Nat) (as : List IV) (cs : Cs) : R IV := frzR (P.fz f && !P.ffr f) cs.length (outF (P.ffr f) (exB P.ffr Φ (P.ffr f) (P.bd f) (startS (P.nm f).length as) cs))
def runI (P : PD) (Φ : Fns) (c : Nat) (as : List IV) (cs : Cs) : R (List IV) := outI P.fld c (exB P.ffr Φ false (P.ibd c) (.slf c [] :: startS ((P.inm c).length - 1) as) cs)
/-- what the calls do, n deep -/
def lvl (P : PD) : Nat → Fns
  | 0 => { P.b with fn := fun _ _ _ => .stuck, init := fun _ _ _ => .stuck, eqk := false }
  | n + 1 => { P.b with fn := runF P (lvl P n), init := runI P (lvl P n), eqk := true }
/-- what the top has made -/
structure KF (P : PD) (a : AD) (mg : Str → Option Value) : Prop where
  fu : ∀ f, f < P.nf → Fun a.K (P.fnm f) (P.fql f) (P.dst f) (a.fad f) (a.fdt f)
  bi : ∀ f, f < P.nf → Binds a.K (a.fdt f) (P.fps f) []
  gl : ∀ f, f < P.nf → P.isM f = false → mg (P.fnm f) = some (.ref (a.fad f))
  me : ∀ f, f < P.nf → P.isM f = true → notP P.prs f = true → P.fcl f < P.nc ∧ Meth a.K (a.cls (P.fcl f)) (P.fnm f) (a.fad f) ∧ ((P.fld (P.fcl f)).contains (P.fnm f)) = false
  cl : ∀ c, c < P.nc → Cls a.K (a.cls c) ∧ (∀ f ∈ P.fld c, NoAttr a.K (a.cls c) f) ∧ (P.fld c).Nodup ∧ (P.fld c).length < 1000
  ini : ∀ c, c < P.nc → Fun a.K "__init__" (P.iql c) (P.idst c) (a.iad c) (a.idt c) ∧ Binds a.K (a.idt c) (P.ips c) [] ∧ Mk a.K (a.cls c) (a.iad c) ∧ mg (P.cnm c) = some (.ref (a.cls c))
  co : ∀ k, k < P.nk → ∃ u v, mg (P.knm k) = some u ∧ RelV v u ∧ flatI (P.b.con k) = true ∧ (∀ S κ H, RV (P.T a) S κ H (P.b.con k) v)
  pr : ∀ p ∈ P.prs, p.1 < P.nc ∧ p.2.2 < P.nf ∧ (P.fps p.2.2).length = 1 ∧ P.ffr p.2.2 = false ∧ ∃ pa, PropOf a.K (a.cls p.1) p.2.1 pa (a.fad p.2.2)
  it : ∀ p ∈ P.its, p.1 < P.nc ∧ p.2.1 < P.nf ∧ P.isM p.2.1 = true ∧ notP P.prs p.2.1 = true ∧ P.fcl p.2.1 = p.1 ∧ P.fnm p.2.1 = "__iter__" ∧ P.fps p.2.1 = [("self" : Str)] ∧ mg "iter" = none
  cv : ∀ p ∈ P.cvs, mg (P.cnm p.1) = some (.ref (a.cls p.1)) ∧ ∃ mc u, ClX.CRead a.K (a.cls p.1) mc ∧ ClX.CVal a.K (a.cls p.1) mc p.2.1 (.int p.2.2) u
  bl : ∀ b, mg (bltName b) = none
  isi : mg "isinstance" = none
  rng : mg "range" = none
  enu : mg "enumerate" = none
  zip : mg "zip" = none
  bol : mg "bool" = none
  kit : ∀ c, c < P.nc → ∀ t, (∀ c', t = Ty.cls c' → c' < P.nc) → PySem.W.kitOne a.K (.ref (a.cls c)) (tyVal (P.T a) t) = some (isiI (.obj c []) t)
  kib : ∀ (n : String) (c : Nat), c < P.nc → ["NoneType", "int", "bool", "str", "tuple", "list"].contains n = true → PySem.W.kitOne a.K (.type n) (.ref (a.cls c)) = some false
  qc : P.b.q < P.nc
  qm : PySem.W.selfFirst a.K (a.cls P.b.q) = true
  qo : ∀ p ∈ [(("__add__" : Str), P.b.add), ("__sub__", P.b.sub), ("__mul__", P.b.mul), ("__lt__", P.b.lt), ("__le__", P.b.le), ("__eq__", P.b.eq)], p.2 < P.nf ∧ PySem.W.findIn a.K (.ref (a.cls P.b.q)) p.1 = some (some (.ref (a.fad p.2))) ∧ PySem.W.isFn a.K (.ref (a.fad p.2)) = true ∧ (P.fps p.2).length = 2 ∧ P.ffr p.2 = false
  qn : ∀ n : String, ["NoneType", "int", "bool", "str", "tuple", "list"].contains n = true → PySem.W.subIn a.K (.type n) (.ref (a.cls P.b.q)) = some false
  qr : ∀ n : String, ["NoneType", "int", "bool", "str", "tuple", "list"].contains n = true → PySem.W.subIn a.K (.ref (a.cls P.b.q)) (.type n) = some false
  cA : ∀ c, c < P.nc → PySem.W.findIn a.K (.ref (a.cls c)) "__class__" = some (some (.builtin "object.__class__"))
  cG : PySem.W.specialIn a.K (.builtin "object.__class__") "__get__" = some (some (.builtin "getset_descriptor.__get__"))
  cT : PySem.W.takesIn a.K (.builtin "object.__class__") = some true
  cM : ∀ c, c < P.nc → PySem.W.mroIn a.K (a.cls c) (.type "object") = some true
  qg : P.b.neg < P.nf ∧ PySem.W.findIn a.K (.ref (a.cls P.b.q)) "__neg__" = some (some (.ref (a.fad P.b.neg))) ∧ PySem.W.isFn a.K (.ref (a.fad P.b.neg)) = true ∧ (P.fps P.b.neg).length = 1 ∧ P.ffr P.b.neg = false
  qob : PySem.W.subIn a.K (.ref (a.cls P.b.q)) (.type "object") = some true
  nce : P.b.nc = P.nc
  qne : PySem.W.findIn a.K (.ref (a.cls P.b.q)) "__ne__" = some (some (.builtin "object.__ne__"))
  xc : ∀ c, P.b.xok c = true → ExcC a.K (a.cls c) ∧ ∀ z ∈ P.exs, PySem.W.exmOne a.K (.ref (a.cls c)) (.ref (a.cls z)) = some (P.b.xsub c z) ∧ PySem.W.kitOne a.K (.ref (a.cls c)) (.ref (a.cls z)) = some (P.b.xsub c z)
  ex : ∀ c ∈ P.exs, (∃ (B newId initId : String) (bmB : List Value), ExcBaseFacts B newId initId bmB ∧ PySem.W.excIn a.K (a.cls c) bmB newId = true) ∧ mg (P.cnm c) = some (.ref (a.cls c)) ∧ PySem.W.keepIn a.K (.ref (a.cls c)) = true ∧ PySem.W.subIn a.K (.ref (a.cls c)) (.type "BaseException") = some true ∧ PySem.W.typeIn a.K (.ref (a.cls c)) = some (.type "type")
  xv : ∀ c, P.b.xok c = true → mg "ValueError" = none ∧ PySem.W.kitOne a.K (.ref (a.cls c)) (.type "ValueError") = some true
/-- what a look at the text shows -/
structure PKx (P : PD) : Prop where
  scF : ∀ f, f < P.nf → FnScope (P.nm f) (P.fps f) (defScope (P.dst f)) ∧ chkB (P.cs (P.nm f)) (P.ffr f) (defScope (P.dst f)) (P.bd f) (defBody (P.dst f)) = true
  scI : ∀ c, c < P.nc → FnScope (P.inm c) (P.ips c) (defScope (P.idst c)) ∧ chkB (P.cs (P.inm c)) false (defScope (P.idst c)) (P.ibd c) (defBody (P.idst c)) = true ∧ 0 < (P.inm c).length
  it : ∀ p ∈ P.its, ∃ x, (P.fld p.1)[p.2.2]? = some x ∧ asIter (defBody (P.dst p.2.1)) = some x ∧ (P.nm p.2.1)[0]? = some ("self" : Str) ∧ visB (defScope (P.dst p.2.1)) "self" = true ∧ glB (defScope (P.dst p.2.1)) "iter" = true
  eq : ∀ (Φ : Fns) (t b : Int) (y : IV) (cs : Cs) (r : Bool), Φ.q = P.b.q → Φ.nc = P.b.nc → eqQ P.b.q [.int t, .int b] y = some r → runF P Φ P.b.eq [.obj P.b.q [.int t, .int b], y] cs = .ok (.bl r) cs

section
variable {P : PD} {a : AD} {mg : Str → Option Value} {prog : Program} {w : World} {base : Heap} {n : Nat} {X : Cx}
def FOk (P : PD) (a : AD) (mg : Str → Option Value) (prog : Program) (w : World) (base : Heap) (n : Nat) : Prop :=
  (∀ f, f < P.nf → FnOk prog w a.K mg base (L2.CX prog w) (15 * n) (a.fad f) (a.fdt f) (P.fps f) (spF (P.T a) (P.fps f).length (P.ffr f) ((lvl P n).fn f))) ∧
    ∀ c, c < P.nc → FnOk prog w a.K mg base (L2.CX prog w) (15 * n) (a.iad c) (a.idt c) (P.ips c) (spI (P.T a) (P.ips c).length c ((lvl P n).init c))
/-- an __iter__ that says iter(self.x) -/
theorem fn_iter {p : Nat × Nat × Nat} (F : KF P a mg) (Q : PKx P) (hp : p ∈ P.its) : ∃ x, (P.fld p.1)[p.2.2]? = some x ∧ FnOk prog w a.K mg base (L2.CX prog w) 15 (a.fad p.2.1) (a.fdt p.2.1) ["self"] (spIt a.K (a.cls p.1) x) := by
  obtain ⟨h1, h2, h3, h4, h5, h6, h7, h8⟩ := F.it p hp
  obtain ⟨x, g1, g2', g3, g4, g5⟩ := Q.it p hp
  obtain ⟨p1, p2, p3, p4, p5, g2⟩ := asIter_ok g2'
  obtain ⟨hcl, hna, _, _⟩ := F.cl p.1 h1
  obtain ⟨S, _⟩ := Q.scF p.2.1 h2
  rw [h7] at S
  refine ⟨x, g1, Fun.okX (F.fu p.2.1 h2) S (fun vs H Q E ⟨_, _, _, _, _, e, _⟩ => by rw [e]; rfl) fun cdv A outer s H vs Q E hr q => ?_⟩
  obtain ⟨o, dx, fs, t, zs, rfl, ea, el, hq, k⟩ := q
  rw [g2]
  refine ⟨_, pss_one (ps_ret (pos := p5) (pe_callB (p := p1) (pos := p4) call_iterT (by unfold L2.Gl Env.kindOf; unfold glB at g5; rw [Bool.and_eq_true, decide_eq_true_eq] at g5; exact g5.1) h8 (by decide +kernel) (pa_cons (pe_fld (pos := p3) (pe_var (i := 0) (pos := p2) g3 (visB_ok g4) (by decide +kernel) (by decide +kernel)) rfl) pa_nil (by rfl)) (by decide +kernel) (by decide +kernel) (by rfl) (by rfl))), ?_⟩
  exact ⟨.ref o, rfl, o, _, dx, fs, _, rfl, ea, hcl, hna x (List.mem_of_getElem? g1), el, t, zs, rfl, hq, k⟩
theorem fs_of (F : KF P a mg) (Q : PKx P) (h : FOk P a mg prog w base n) (h1 : X.prog = prog) (h2 : X.w = w) (h3 : X.K = a.K) (h4 : X.mg = mg) (h5 : X.base = base) : Fs (P.T a) (lvl P n) (P.J a) (15 * n) X := by
  subst h1 h2 h4 h5
  have hK : (P.T a).K = X.K := h3.symm
  obtain ⟨hf, hi⟩ := h
  constructor
  · exact h3
  · intro f hlt; rw [h3]; exact hf f hlt
  · intro f hlt; rw [h3]; exact F.bi f hlt
  · intro f hlt; rw [h3]; exact (F.fu f hlt).kp
  · exact F.gl
  · intro f hlt hm hP; rw [h3]; exact F.me f hlt hm hP
  · intro c hc; rw [h3]; exact F.cl c hc
  · intro c hc; rw [h3]; exact ⟨hi c hc, (F.ini c hc).2⟩
  · intro k hk
    have := F.co k hk
    cases n <;> exact this
  · rw [h3]; exact F.pr
  · intro hk p hp
    cases n with
    | zero => cases hk
    | succ m =>
      obtain ⟨i1, i2, i3, i4, i5, i6, i7, i8⟩ := F.it p hp
      obtain ⟨x, g1, g2⟩ := fn_iter (prog := X.prog) (w := X.w) (base := X.base) F Q hp
      obtain ⟨_, M, _⟩ := F.me p.2.1 i2 i3 i4
      have b := F.bi p.2.1 i2
      rw [i7] at b
      obtain ⟨m1, m2, _⟩ := M
      refine ⟨i1, x, g1, ?_, ?_, ?_, ?_⟩
      · rw [h3, ← i6, ← i5]; exact m1
      · rw [h3]; exact m2
      · rw [h3]; exact b
      · rw [h3]; exact g2.mono (by omega)
  · rw [h3]; exact F.cv
  · exact F.bl
  · exact F.isi
  · exact F.rng
  · exact F.enu
  · exact F.zip
  · exact F.bol
  · intro c hc t ht; rw [h3]; exact F.kit c hc t ht
  · intro n c hc hn; rw [h3]; exact F.kib n c hc hn
  · have := F.qc; cases n <;> exact this
  · rw [h3]; have := F.qm; cases n <;> exact this
  · rw [h3]; have := F.qo; cases n <;> exact this
  · rw [h3]; have := F.qn; cases n <;> exact this
  · rw [h3]; have := F.qr; cases n <;> exact this
  · intro hk t b y cs r e
    cases n with
    | zero => cases hk
    | succ m => exact Q.eq (lvl P m) t b y cs r (by cases m <;> rfl) (by cases m <;> rfl) e
  · rw [h3]; exact F.cA
  · rw [h3]; exact F.cG
  · rw [h3]; exact F.cT
  · rw [h3]; exact F.cM
  · rw [h3]; have := F.qg; cases n <;> exact this
  · rw [h3]; have := F.qob; cases n <;> exact this
  · have := F.nce; cases n <;> exact this
  · rw [h3]; have := F.qne; cases n <;> exact this
/-- a body's context -/
theorem sx_of {N ps : List Str} {qual : Str} {f : Addr} {cd : Value} {A : Around} {outer : List PySem.Env} {s : Shared} {H : Hp} {E : XK} {sc : Scope} (F : KF P a mg) (Q : PKx P) (h : FOk P a mg prog w base n) (S : FnScope N ps sc)
    (hr : Room (15 * n + 14) (A.deeper (envOfC qual sc s.heap.objs.size f cd))) : SxOk (P.T a) (lvl P n) (15 * n) (P.ck a N) sc (cxOf (L2.CX prog w) prog w a.K mg base N qual sc f cd A outer s H E) (fun c d _ H => E c d H) where
  O := ⟨fs_of F Q h rfl rfl rfl rfl rfl, rfl, S.nd, rfl, rfl, hr⟩
  tk := takes_of rfl rfl rfl rfl
  hp := passes_of rfl
  fn := fun _ => rfl
  hs := rfl
  hf := rfl
  xm := fun c hc => (F.ex c hc).2.1
  xv := by have := F.xv; cases n <;> exact this
  xc := by have := F.xc; cases n <;> exact this
  ex := fun c hc => by
    obtain ⟨h1, h2, h3, h4, h5⟩ := F.ex c hc
    exact ⟨h1, h2, h3, raises_own h4 h5⟩
end
end EG

-- Eng4
/-! Engine 4: functions, all levels. -/
namespace EG
open PySem PySem.Spec L2 PyProof.Rows
section
variable {P : PD} {a : AD} {mg : Str → Option Value} {prog : Program} {w : World} {base : Heap} {n : Nat} {X : Cx} {T : CT} {W : WX} {S : Addr → Prop} {κ : List Addr} {H : Hp} {cs : Cs} {E : Value → Option Addr → Hp → Prop} {Q : VK} {fr : Bool} {N : List Str} {O : Nat → Addr} {as : List IV} {vs : List V} {x0 : Addr}
theorem startS_get {m i : Nat} {y : SL} (h : (startS m as)[i]? = some y) : (∃ x, as[i]? = some x ∧ y = .val x) ∨ y = .no := by
  unfold startS at h
  by_cases hi : i < as.length
  · rw [List.getElem?_append_left (by simpa using hi), List.getElem?_map] at h
    cases e : as[i]? with
    | none => rw [e] at h; cases h
    | some x => rw [e] at h; cases h; exact .inl ⟨x, rfl, rfl⟩
  · rw [List.getElem?_append_right (by simpa using hi)] at h
    right
    rw [List.getElem?_replicate] at h
    split at h
    · cases h; rfl
    · cases h
theorem start_get {i : Nat} {v : V} (h : vs[i]? = some v) : (start N vs)[i]? = some (some v) := by
  unfold L2.start
  have hi := (List.getElem?_eq_some_iff.mp h).1
  rw [List.getElem?_append_left (by simpa using hi), List.getElem?_map, h]
  rfl
theorem start_len (h : vs.length ≤ N.length) : (start N vs).length = N.length := by
  unfold L2.start
  rw [List.length_append, List.length_map, List.length_replicate]
  omega
theorem startS_len {m : Nat} (h : as.length ≤ m) : (startS m as).length = m := by
  unfold startS
  rw [List.length_append, List.length_map, List.length_replicate]
  omega
theorem startS_off {m i : Nat} : onAt (startS m as) i = false := by
  unfold onAt
  cases h : (startS m as)[i]? with
  | none => rfl
  | some y =>
    rcases startS_get h with ⟨x, _, rfl⟩ | rfl <;> rfl
theorem rf_start (rs : RS T S κ H cs) (rv : RVs T S κ H as vs) (hl : vs.length ≤ N.length) : RF T S x0 κ H O (startS N.length as) κ H cs (start N vs) := by
  have ss : ∀ b, SS S O (startS N.length as) b → S b := by
    rintro b (z | ⟨i, hi, _⟩)
    · exact z
    · rw [startS_off] at hi; cases hi
  have la := rv.len
  refine ⟨Stp.rfl', rs.dom, rs.sub ss, fun i xs e => ?_, fun i c fs e => ?_, fun i h => ?_, fun i x e => ?_, fun i j h => ?_, ?_, fun i c fs e => ?_, fun i xs e => ?_⟩
  · rcases startS_get e with ⟨x, _, z⟩ | z <;> cases z
  · rcases startS_get e with ⟨x, _, z⟩ | z <;> cases z
  · rw [startS_off] at h; cases h
  · rcases startS_get e with ⟨y, ey, z⟩ | z
    · cases z
      obtain ⟨v, ev, r⟩ := rv.get ey
      exact ⟨v, start_get ev, (Mv.anti ss).rv _ _ r⟩
    · cases z
  · rw [startS_off] at h; cases h
  · rw [startS_len (by omega), start_len hl]
  · rcases startS_get e with ⟨x, _, z⟩ | z <;> cases z
  · rcases startS_get e with ⟨x, _, z⟩ | z <;> cases z
/-- what the body leaves is what the call gives -/
theorem fin_of {r : RR} (w : Wp T S E κ H fr (outF fr r) Q) : Fin T (fun c d _ H => E c d H) S x0 κ H fr { nx := fun _ H' => Q .non H', rt := Q } r := by
  cases r with
  | nx s cs =>
    cases fr with
    | true => exact w.elim
    | false => exact fun O κ' H' σ R => w κ' H' _ R.st (R.rs.sub fun b h => .inl h) (by unfold RV; rfl) fun z => nomatch z
  | bk s cs => exact w.elim
  | rt v cs => exact fun κ' H' u st rs rv f => w κ' H' u st rs rv f
  | ex c pl s cs => exact fun O κ' H' σ d R x => w κ' H' d R.st (R.rs.sub fun b h => .inl h) (x.anti fun b h => .inl h)
  | stuck => exact w
theorem frzs_ok {cs0 cs1 : Cs} {κ1 : List Addr} {H1 : Hp} (rs0 : RS T S κ H cs0) (st : Stp κ H κ1 H1) (rs : RS T S κ1 H1 cs1) : ∀ (xs ys : List IV) (vs : List V), frzs κ.length cs1 xs = some ys → RVs T S κ1 H1 xs vs → RVs T S κ H1 ys vs
  | [], ys, vs, e, r => by
    unfold frzs at e
    cases e
    unfold RVs at r ⊢
    exact r
  | x :: xs, ys, vs, e, r => by
    unfold frzs at e
    split at e
    · rename_i y e1
      split at e
      · rename_i ys' e2
        cases e
        unfold RVs at r
        obtain ⟨v, t, rfl, r1, r2⟩ := r
        refine RVs.cons ?_ (frzs_ok rs0 st rs xs ys' t e2 r2)
        unfold frz1 at e1
        split at e1
        · rename_i n
          split at e1
          · rename_i hn
            split at e1
            · rename_i zs hcs
              split at e1
              · rename_i hfl
                cases e1
                unfold RV at r1
                obtain ⟨p, rfl, hp⟩ := r1
                obtain ⟨⟨us, ha, q⟩, nS⟩ := rs.cel n _ p hcs hp
                unfold RV
                refine ⟨p, us, rfl, ⟨ha, nS, fun z => ?_⟩, RVs.flat _ _ hfl q⟩
                obtain ⟨m, hm, em⟩ := List.getElem_of_mem z
                obtain ⟨rr, er⟩ := st.pre
                have h1 : κ1[m]? = some p := by
                  rw [er, List.getElem?_append_left hm, List.getElem?_eq_getElem hm, em]
                have h2 := List.getElem?_eq_some_iff.mp hp
                have := (List.getElem?_inj h2.1 rs.nd).mp (hp.trans h1.symm)
                omega
              · cases e1
            · cases e1
          · cases e1
        · cases e1
      · cases e
    · cases e
theorem frz_rs {cs0 cs1 : Cs} {κ1 : List Addr} {H1 : Hp} (rs0 : RS T S κ H cs0) (st : Stp κ H κ1 H1) (rs : RS T S κ1 H1 cs1) (ha : (cs1.take κ.length).all flC = true) : RS T S κ H1 (cs1.take κ.length) := by
  obtain ⟨rr, er⟩ := st.pre
  refine ⟨rs0.nd, ?_, rs.dom, fun n o a e1 e2 => ?_⟩
  · rw [List.length_take, ← rs.len, er, List.length_append]
    omega
  · have hn := (List.getElem?_eq_some_iff.mp e2).1
    have h1 : κ1[n]? = some a := by rw [er, List.getElem?_append_left hn]; exact e2
    have h2 : cs1[n]? = some o := by rw [List.getElem?_take_of_lt hn] at e1; exact e1
    have hf := List.all_eq_true.mp ha o (List.mem_of_getElem? e1)
    obtain ⟨q, nS⟩ := rs.cel n o a h2 h1
    refine ⟨?_, nS⟩
    cases o with
    | lst xs =>
      obtain ⟨vs, q1, q2⟩ := q
      exact ⟨vs, q1, RVs.flat _ _ hf q2⟩
    | ins c fs => cases hf
theorem fin_ofz {r : RR} {z : Bool} {cs0 : Cs} (hz : z = true → fr = false) (rs0 : RS T S κ H cs0) (w : Wp T S E κ H fr (frzR z cs0.length (outF fr r)) Q) : Fin T (fun c d _ H => E c d H) S x0 κ H fr { nx := fun _ H' => Q .non H', rt := Q } r := by
  cases z with
  | false => exact fin_of w
  | true =>
    have := hz rfl
    subst this
    rw [← rs0.len] at w
    cases r with
    | nx s cs1 => exact w.elim
    | bk s cs1 => exact w.elim
    | rt v cs1 =>
      intro κ1 H1 u st rs rv f
      cases v <;> first | exact w.elim | skip
      rename_i xs
      have w : Wp T S E κ H false (frzV κ.length cs1 (.lst xs)) Q := w
      unfold frzV at w
      dsimp only at w
      split at w
      · rename_i ys e
        split at w
        · rename_i ha
          refine w κ H1 u ⟨⟨[], by simp⟩, fun a h => .inl h, st.evo, st.dom⟩ (frz_rs rs0 st rs ha) ?_ fun z => nomatch z
          unfold RV at rv ⊢
          obtain ⟨a, vs, rfl, ⟨h1, h2, h3⟩, q⟩ := rv
          refine ⟨a, vs, rfl, ⟨h1, h2, fun z => h3 ?_⟩, frzs_ok rs0 st rs xs ys vs e q⟩
          obtain ⟨rr, er⟩ := st.pre
          rw [er]
          exact List.mem_append_left _ z
        · exact w.elim
      · exact w.elim
    | ex c pl s cs1 => exact fun O κ' H' σ d R x => w κ' H' d R.st (R.rs.sub fun b h => .inl h) (x.anti fun b h => .inl h)
    | stuck => exact w
theorem wp_stuck {sp : Prop} (h : Wp T S E κ H fr .stuck Q) : sp := h.elim
theorem fn_base {f : Addr} {fd : FuncData} {ps : List Str} {k : Nat} : FnOk prog w a.K mg base (L2.CX prog w) k f fd ps (spF (P.T a) ps.length fr fun _ _ => .stuck) :=
  ⟨fun vs H Q E h => h.1, fun A outer s H args us vs Q E _ _ _ _ h => by
    obtain ⟨_, S, κ, as, cs, _, _, w⟩ := h
    exact w.elim⟩
theorem in_base {f : Addr} {fd : FuncData} {ps : List Str} {k c : Nat} : FnOk prog w a.K mg base (L2.CX prog w) k f fd ps (spI (P.T a) ps.length c fun _ _ => .stuck) :=
  ⟨fun vs H Q E h => h.1, fun A outer s H args us vs Q E _ _ _ _ h => by
    obtain ⟨_, S, κ, as, cs, x, dx, ws, H0, _, _, _, _, _, _, _, w⟩ := h
    exact w.elim⟩
/-- a def -/
theorem fn_step {f : Nat} (F : KF P a mg) (K : PKx P) (h : FOk P a mg prog w base n) (hf : f < P.nf) : FnOk prog w a.K mg base (L2.CX prog w) (15 * n + 14 + 1) (a.fad f) (a.fdt f) (P.fps f) (spF (P.T a) (P.fps f).length (P.ffr f) (runF P (lvl P n) f)) := by
  obtain ⟨S, ck⟩ := K.scF f hf
  refine Fun.okX (F.fu f hf) S (fun vs H Q E q => q.1) fun cdv A outer s H vs Q E hr q => ?_
  obtain ⟨hl, Sc, κ, as, cs, rs, rv, w1⟩ := q
  have sx := sx_of (E := E) (outer := outer) (H := H) F K h S hr
  refine ⟨_, okB (T := P.T a) (K := P.ck a (P.nm f)) rfl (P.bd f) _ ck _ _ sx, ?_⟩
  have hN : vs.length ≤ (P.nm f).length := by
    rw [hl]
    have := congrArg List.length S.pre
    rw [List.length_take] at this
    omega
  exact ⟨Sc, 0, κ, H, fun _ => 0, _, κ, cs, rf_start rs rv hN, fin_ofz (fun z => by
    rw [Bool.and_eq_true] at z
    simpa using z.2) rs w1⟩
theorem rf_init {x dx : Addr} {H0 : Hp} {c : Nat} {ws : List V} (rs : RS T S κ H0 cs) (rv : RVs T S κ H0 as ws) (hx : H0 x = none) (hd : H0 dx = none) (hne : dx ≠ x) (hl : ws.length + 1 ≤ N.length) :
    RF T S x κ H0 (fun _ => x) (.slf c [] :: startS (N.length - 1) as) κ (upd (upd H0 dx (.own x)) x (.ins (T.cls c) dx [])) cs (start N (.ref x :: ws)) := by
  have hx1 : (upd H0 dx (.own x)) x = none := by rw [upd_ne fun z => hne z.symm]; exact hx
  have st : Stp κ H0 κ (upd (upd H0 dx (.own x)) x (.ins (T.cls c) dx [])) := (Stp.new hd).trans (Stp.new hx1)
  have nk : x ∉ κ := fun z => rs.kdom z hx
  have rs2 : RS T S κ (upd (upd H0 dx (.own x)) x (.ins (T.cls c) dx [])) cs := (rs.new hd).new hx1
  have ons : ∀ i, onAt (.slf c [] :: startS (N.length - 1) as) i = true → i = 0 := fun i h => by
    cases i with
    | zero => rfl
    | succ i =>
      have : onAt (startS (N.length - 1) as) i = true := h
      rw [startS_off] at this; cases this
  have ss : ∀ b, SS S (fun _ => x) (.slf c [] :: startS (N.length - 1) as) b → S b ∨ b = x := by
    rintro b (z | ⟨i, hi, z⟩)
    · exact .inl z
    · exact .inr z
  have mv : Mv T S κ H0 (SS S (fun _ => x) (.slf c [] :: startS (N.length - 1) as)) κ (upd (upd H0 dx (.own x)) x (.ins (T.cls c) dx [])) := ((Mv.add hx).trans st.mv).trans (Mv.anti ss)
  have la := rv.len
  refine ⟨st, rs.dom, ?_, fun i xs e => ?_, fun i c' fs e => ?_, fun i h => ⟨hx, nk⟩, fun i y e => ?_, fun i j h1 h2 _ => (ons i h1).trans (ons j h2).symm, ?_, fun _ _ _ _ => rfl, fun i xs e => ?_⟩
  · refine rs.mv mv (fun b hb => ?_) (fun b hb z => ?_) fun b hb z => ?_
    · have h1 : b ≠ x := fun z => nk (z ▸ hb)
      have h2 : b ≠ dx := fun z => rs.kdom hb (z ▸ hd)
      rw [upd_ne h1, upd_ne h2]
    · rcases ss b hb with h1 | h1
      · exact rs.dom b h1 (st.dom b z)
      · subst h1; rw [upd_same] at z; cases z
    · rcases ss b z with h1 | h1
      · obtain ⟨_, _, _, _, _, n⟩ := rs.at hb; exact n h1
      · exact nk (h1 ▸ hb)
  · cases i with
    | zero => cases e
    | succ i =>
      rcases startS_get (show (startS (N.length - 1) as)[i]? = _ from e) with ⟨x, _, z⟩ | z <;> cases z
  · cases i with
    | zero =>
      cases e
      exact ⟨dx, [], start_get rfl, by rw [upd_same, List.zip_nil_right], Nat.zero_le _, RVs.nil⟩
    | succ i =>
      rcases startS_get (show (startS (N.length - 1) as)[i]? = _ from e) with ⟨x, _, z⟩ | z <;> cases z
  · cases i with
    | zero => cases e
    | succ i =>
      rcases startS_get (show (startS (N.length - 1) as)[i]? = _ from e) with ⟨y', ey, z⟩ | z
      · cases z
        obtain ⟨v, ev, r⟩ := rv.get ey
        exact ⟨v, start_get (show (V.ref x :: ws)[i + 1]? = _ from ev), mv.rv _ _ r⟩
      · cases z
  · rw [List.length_cons, startS_len (by omega), start_len (by simpa using hl)]
    omega
  · cases i with
    | zero => cases e
    | succ i =>
      rcases startS_get (show (startS (N.length - 1) as)[i]? = _ from e) with ⟨x, _, z⟩ | z <;> cases z
theorem fin_init {x dx : Addr} {H0 : Hp} {c : Nat} {r : RR} (hx : ∀ b, S b → H0 b ≠ none) (w : Wi T S E κ H0 c x dx (outI T.fld c r) fun H' => Q .non H') : Fin T (fun c d _ H => E c d H) S x κ H0 false { nx := fun _ H' => Q .non H', rt := Q } r := by
  cases r with
  | nx s cs =>
    intro O κ' H' σ R
    revert w
    unfold outI
    dsimp only
    cases hs : slfOf s 0 with
    | none => exact fun w => w.elim
    | some p =>
      obtain ⟨c', fs⟩ := p
      dsimp only
      split
      · rename_i hc
        obtain ⟨rfl, hlen⟩ := hc
        intro w
        have e : s[0]? = some (.slf c' fs) := by
          unfold slfOf at hs
          split at hs
          · cases hs; assumption
          · cases hs
        obtain ⟨dx', us, q, ha, hle, rv⟩ := R.slf 0 c' fs e
        have hO : O 0 = x := R.sx 0 c' fs e
        rw [hO] at ha
        have sub : ∀ b, (S b ∨ b = x) → SS S O s b := fun b h => h.imp id fun z => ⟨0, onAt_slf e, by rw [hO]; exact z⟩
        exact w κ' H' us dx' R.st (R.rs.sub sub) ha hlen ((Mv.anti sub).rvs _ _ rv)
      · exact fun w => w.elim
  | bk s cs => exact w.elim
  | rt v cs => exact w.elim
  | ex c pl s cs => exact fun O κ' H' σ d R x => w κ' H' d R.st (R.rs.sub fun b h => .inl h) (x.anti fun b h => .inl h)
  | stuck => exact w.elim
/-- a constructor -/
theorem in_step {c : Nat} (F : KF P a mg) (K : PKx P) (h : FOk P a mg prog w base n) (hc : c < P.nc) : FnOk prog w a.K mg base (L2.CX prog w) (15 * n + 14 + 1) (a.iad c) (a.idt c) (P.ips c) (spI (P.T a) (P.ips c).length c (runI P (lvl P n) c)) := by
  obtain ⟨S, ck, hn⟩ := K.scI c hc
  refine Fun.okX (F.ini c hc).1 S (fun vs H Q E q => q.1) fun cdv A outer s H vs Q E hr q => ?_
  obtain ⟨hl, Sc, κ, as, cs, x, dx, ws, H0, rfl, rfl, hx, hd, hne, rs, rv, w1⟩ := q
  have sx := sx_of (E := E) (outer := outer) (H := upd (upd H0 dx (.own x)) x (.ins ((P.T a).cls c) dx [])) F K h S hr
  refine ⟨_, okB (T := P.T a) (K := P.ck a (P.inm c)) rfl (P.ibd c) _ ck _ _ sx, ?_⟩
  have hN : ws.length + 1 ≤ (P.inm c).length := by
    have h1 := congrArg List.length S.pre
    rw [List.length_take] at h1
    rw [List.length_cons] at hl
    omega
  exact ⟨Sc, x, κ, H0, _, _, κ, cs, rf_init rs rv hx hd hne hN, fin_init rs.dom w1⟩
/-- THE LEVELS -/
theorem lvl_ok (F : KF P a mg) (K : PKx P) : ∀ n, FOk P a mg prog w base n
  | 0 => ⟨fun f hf => fn_base, fun c hc => in_base⟩
  | n + 1 => ⟨fun f hf => fn_step F K (lvl_ok F K n) hf, fun c hc => in_step F K (lvl_ok F K n) hc⟩
end
end EG

-- Eng5
/-! Engine 5: the program's end. -/
namespace EG
open PySem PySem.Spec L2 PyProof.Rows
def spLaw (K : PySem.W.Frag) : Sp := fun vs H Q _ => ∃ (x : Addr) (ns : List Int), vs = [.ref x] ∧ SqR K H x (ns.map V.int) ∧ ns.length ≤ 63 ∧ (∀ z ∈ ns, Builtin.Int.intBits z ≤ 1048576) ∧ ∀ H', Q (.bl true) H'
theorem sqr_of {K : PySem.W.Frag} {H : Hp} {x : Addr} {vs : List V} (hO : Only H) (h : SqL K H x vs) : SqR K H x vs := by
  rcases h with (h | h) | h
  · rcases hO x with z | ⟨o, xs, z⟩ <;> (rw [h] at z; cases z)
  · exact .inl h
  · exact .inr h
theorem law_imp {P : PD} {a : AD} {g : List IV → Cs → R IV} (hlaw : ∀ ns : List Int, ns.length ≤ 63 → (∀ z ∈ ns, Builtin.Int.intBits z ≤ 1048576) → ∃ cs, g [.scr ns] [] = .ok (.bl true) cs) (vs : List V) (H : Hp) (Q : VK) (E : XK) (h : spLaw a.K vs H Q E) : spF (P.T a) 1 false g vs H Q E := by
  obtain ⟨x, ns, rfl, hS, hl, hb, q⟩ := h
  obtain ⟨cs, e⟩ := hlaw ns hl hb
  refine ⟨rfl, fun _ => False, [], [.scr ns], [], ⟨List.nodup_nil, rfl, fun _ z => z.elim, fun n o a e => by simp at e⟩, ?_, ?_⟩
  · refine RVs.cons ?_ RVs.nil
    unfold RV
    exact ⟨x, rfl, hS⟩
  · rw [e]
    intro κ' H' v st rs rv _
    unfold RV at rv
    subst rv
    exact q H'
theorem walk_eg {l : PySem.W.OpenLaw} {q : Program} {loose : List Str} {XP : (Str → Option Value) → Heap → Prop} {YP : World → Heap → Prop} {d : DefRec} {K : Params → PySem.W.Frag} (P : PD) (fL n : Nat) {x : Str} (hn : l.most = some 63) (hdf : d.params.defaults = []) (hr : Room (15 * n) callerA)
    (hY : ∀ (w : World) (h : Heap), YP w h → (K w.params).In h)
    (F : ∀ (w : World) (mg : Str → Option Value) (fa : Addr) (h : Heap), (K w.params).In h → h.Ns mainGlobals mg → mg d.name = some (.ref fa) → ∃ a : AD, a.K = K w.params ∧ KF P a mg ∧ PKx P ∧ a.fad fL = fa ∧ ∀ (s : Shared) (u : Value), BindsTo s (a.fdt fL) ⟨[u], []⟩ [(x, u)])
    (hf : fL < P.nf) (hps : P.fps fL = [x]) (hfr : P.ffr fL = false)
    (hlaw : ∀ ns : List Int, ns.length ≤ 63 → (∀ z ∈ ns, Builtin.Int.intBits z ≤ 1048576) → ∃ cs, (lvl P n).fn fL [.scr ns] [] = .ok (.bl true) cs) :
    PySem.W.WalkO q loose XP YP l.row.toRowW d [] (fun f vs => PySem.call f vs) := by
  refine L2.walk_ofB (n := 63) (k := 15 * n) (x := x) (CX := fun w => L2.CX l.prog w) (sp := fun w => spLaw (K w.params)) hn (by decide) hdf hr hY ?_ ?_ ?_
  · intro w mg fa h KX G hmg
    obtain ⟨a, hK, kf, pk, rfl, hbd⟩ := F w mg fa h KX G hmg
    refine ⟨a.fdt fL, hbd, fun base hb1 hb2 => ?_⟩
    · have h1 := (lvl_ok (prog := l.prog) (w := w) (base := base) kf pk n).1 fL hf
      rw [hps, hfr, hK] at h1
      refine h1.imp fun vs H Q E z => ?_
      rw [← hK] at z
      exact law_imp hlaw vs H Q E z
  · intro w H a ns hl hb hO hS
    exact ⟨a, ns, rfl, sqr_of hO hS, hl, hb, fun _ => rfl⟩
  · intro w H s e s' z
    obtain ⟨_, _, _, _, _, _, _, _, _, _, _, _, z⟩ := z
    exact z
end EG

-- PlA
/-! Plain part A: numbers. -/
namespace EL

/-- bounds of a rational number's parts, in bits -/
class Bd (a : Rat) (n d : outParam Nat) : Prop where
  t : a.num.natAbs ≤ 2 ^ n
  b : a.den ≤ 2 ^ d

theorem natAbs_add_le2 {x y : Int} {n m : Nat} (h : x.natAbs ≤ 2 ^ n) (g : y.natAbs ≤ 2 ^ m) : (x + y).natAbs ≤ 2 ^ (max n m + 1) := by
  have h1 : (2:Nat) ^ n ≤ 2 ^ (max n m) := Nat.pow_le_pow_right (by omega) (Nat.le_max_left _ _)
  have h2 : (2:Nat) ^ m ≤ 2 ^ (max n m) := Nat.pow_le_pow_right (by omega) (Nat.le_max_right _ _)
  rw [Nat.pow_succ]
  omega
theorem natAbs_mul_le2 {x y : Int} {n m : Nat} (h : x.natAbs ≤ 2 ^ n) (g : y.natAbs ≤ 2 ^ m) : (x * y).natAbs ≤ 2 ^ (n + m) := by
  rw [Int.natAbs_mul, Nat.pow_add]
  exact Nat.mul_le_mul h g
theorem ediv_natAbs_le {x g : Int} (h : g ∣ x) : (x / g).natAbs ≤ x.natAbs := by
  obtain ⟨k, rfl⟩ := h
  by_cases g0 : g = 0
  · subst g0; simp
  · rw [Int.mul_ediv_cancel_left _ g0, Int.natAbs_mul]
    exact Nat.le_mul_of_pos_left _ (by omega)
theorem mkRat_num_le (x : Int) (d : Nat) : (mkRat x d).num.natAbs ≤ x.natAbs := by
  rw [Rat.num_mkRat]
  split
  · simp
  · exact ediv_natAbs_le (Int.ofNat_dvd_left.mpr (Nat.gcd_dvd_right _ _))
theorem mkRat_den_le (x : Int) {d : Nat} (h : d ≠ 0) : (mkRat x d).den ≤ d := by
  rw [Rat.den_mkRat, if_neg h]
  exact Nat.div_le_self _ _
theorem two_pow_one_le (d : Nat) : 1 ≤ 2 ^ d := Nat.one_le_two_pow
variable {a b : Rat} {n d m e : Nat}
instance Bd.add [A : Bd a n d] [B : Bd b m e] : Bd (a + b) (max (n + e) (m + d) + 1) (d + e) where
  t := by
    rw [Rat.add_def']
    refine Nat.le_trans (mkRat_num_le _ _) (natAbs_add_le2 (natAbs_mul_le2 A.t ?_) (natAbs_mul_le2 B.t ?_))
    · simpa using B.b
    · simpa using A.b
  b := by
    rw [Rat.add_def', Nat.pow_add]
    refine Nat.le_trans (mkRat_den_le _ ?_) (Nat.mul_le_mul A.b B.b)
    exact Nat.mul_ne_zero a.den_nz b.den_nz
instance Bd.neg [A : Bd a n d] : Bd (-a) n d where
  t := by simpa using A.t
  b := by simpa using A.b
instance Bd.sub [A : Bd a n d] [B : Bd b m e] : Bd (a - b) (max (n + e) (m + d) + 1) (d + e) := by
  rw [Rat.sub_eq_add_neg]; exact Bd.add
instance Bd.mul [A : Bd a n d] [B : Bd b m e] : Bd (a * b) (n + m) (d + e) where
  t := by
    rw [Rat.mul_def']
    exact Nat.le_trans (mkRat_num_le _ _) (natAbs_mul_le2 A.t B.t)
  b := by
    rw [Rat.mul_def', Nat.pow_add]
    refine Nat.le_trans (mkRat_den_le _ ?_) (Nat.mul_le_mul A.b B.b)
    exact Nat.mul_ne_zero a.den_nz b.den_nz
instance Bd.inv [A : Bd a n d] : Bd (a⁻¹) d n where
  t := by
    rw [Rat.num_inv, Int.natAbs_mul]
    refine Nat.le_trans ?_ A.b
    rw [Int.natAbs_sign]
    split
    · simp
    · simp
  b := by
    rw [Rat.den_inv]
    split
    · exact two_pow_one_le _
    · exact A.t
instance Bd.div [A : Bd a n d] [B : Bd b m e] : Bd (a / b) (n + e) (d + m) := by
  rw [Rat.div_def]; exact Bd.mul
instance Bd.zero : Bd (0 : Rat) 0 0 := ⟨by decide, by decide⟩
instance Bd.one : Bd (1 : Rat) 0 0 := ⟨by decide, by decide⟩
theorem Bd.mono (A : Bd a n d) (h : n ≤ m) (g : d ≤ e) : Bd a m e := ⟨Nat.le_trans A.t (Nat.pow_le_pow_right (by omega) h), Nat.le_trans A.b (Nat.pow_le_pow_right (by omega) g)⟩
theorem Bd.ofInt {i : Int} (h : i.natAbs ≤ 2 ^ n) : Bd (i : Rat) n 0 := ⟨h, Nat.le_refl _⟩

/-- the parts of a quotient of integers, as a program reckons them -/
theorem part_fdiv {x y g : Int} (hg : g ≠ 0) (h : g ∣ x) (s : Int) (hs : s = 1 ∨ s = -1) : x.fdiv (s * g) = s * (x / g) := by
  obtain ⟨k, rfl⟩ := h
  rw [Int.mul_ediv_cancel_left _ hg]
  rcases hs with rfl | rfl
  · rw [Int.one_mul, Int.one_mul, Int.mul_fdiv_cancel_left _ hg]
  · have e : g * k = (-1 * g) * (-1 * k) := by grind
    rw [e, Int.mul_fdiv_cancel_left _ (by omega)]
theorem part_num {x y g : Int} (h : y ≠ 0) (hg : g = (Int.gcd x y : Int)) : x.fdiv (if y < 0 then -g else g) = ((x : Rat) / (y : Rat)).num := by
  rw [← Rat.divInt_eq_div, Rat.num_divInt, Int.gcd_comm y x, ← hg]
  have g0 : g ≠ 0 := fun z => h (Int.eq_zero_of_gcd_eq_zero_right (a := x) (by omega))
  have d1 : g ∣ x := hg ▸ Int.gcd_dvd_left x y
  split
  · rename_i hy
    have := part_fdiv (y := y) g0 d1 (-1) (.inr rfl)
    rw [Int.neg_one_mul] at this
    rw [this, Int.sign_eq_neg_one_of_neg hy, Int.mul_ediv_assoc _ d1]
  · have := part_fdiv (y := y) g0 d1 1 (.inl rfl)
    rw [Int.one_mul] at this
    rw [this, Int.sign_eq_one_of_pos (by omega), Int.mul_ediv_assoc _ d1]
theorem part_den {x y g : Int} (h : y ≠ 0) (hg : g = (Int.gcd x y : Int)) : y.fdiv (if y < 0 then -g else g) = ((x : Rat) / (y : Rat)).den := by
  rw [← Rat.divInt_eq_div, Rat.den_divInt, if_neg h, Int.gcd_comm y x]
  have g0 : g ≠ 0 := fun z => h (Int.eq_zero_of_gcd_eq_zero_right (a := x) (by omega))
  have d1 : g ∣ y := hg ▸ Int.gcd_dvd_right x y
  rw [Int.natCast_ediv, ← hg]
  split
  · rename_i hy
    have := part_fdiv (y := y) g0 d1 (-1) (.inr rfl)
    rw [Int.neg_one_mul] at this
    rw [this]
    have e : (y.natAbs : Int) = -1 * y := by omega
    rw [e, Int.mul_ediv_assoc _ d1]
  · have := part_fdiv (y := y) g0 d1 1 (.inl rfl)
    rw [Int.one_mul] at this
    rw [this]
    have e : (y.natAbs : Int) = y := by omega
    rw [e, Int.one_mul]
/-- sums, products, contraries, as quotients of integers -/
theorem rat_add (a b : Rat) : a + b = ((a.num * b.den + b.num * a.den : Int) : Rat) / ((a.den * b.den : Int) : Rat) := by
  rw [Rat.add_def', Rat.mkRat_eq_div]; rfl
theorem rat_sub (a b : Rat) : a - b = ((a.num * b.den - b.num * a.den : Int) : Rat) / ((a.den * b.den : Int) : Rat) := by
  rw [Rat.sub_def', Rat.mkRat_eq_div]; rfl
theorem rat_mul (a b : Rat) : a * b = ((a.num * b.num : Int) : Rat) / ((a.den * b.den : Int) : Rat) := by
  rw [Rat.mul_def', Rat.mkRat_eq_div]; rfl
theorem rat_neg (a : Rat) : -a = ((-a.num : Int) : Rat) / ((a.den : Int) : Rat) := by
  rw [← Rat.divInt_eq_div, Rat.divInt_ofNat]
  exact (Rat.mkRat_self (-a)).symm
theorem rat_self (a : Rat) : ((a.num : Int) : Rat) / ((a.den : Int) : Rat) = a := by
  rw [← Rat.divInt_eq_div]; exact Rat.num_divInt_den a
theorem rat_div (a b : Rat) : a / b = ((a.num * b.den : Int) : Rat) / ((a.den * b.num : Int) : Rat) := by
  conv => lhs; rw [← rat_self a, ← rat_self b]
  rw [Rat.div_def, Rat.div_def, Rat.div_def, Rat.div_def, Rat.inv_mul_rev, Rat.inv_inv, Rat.intCast_mul, Rat.intCast_mul, Rat.inv_mul_rev]
  grind
theorem den_pos (a : Rat) : (0 : Int) < (a.den : Int) := by
  have := a.den_nz; omega
theorem den_ne (a : Rat) : (a.den : Int) ≠ 0 := by
  have := a.den_nz; omega
/-- the greatest common divisor's steps -/
theorem gcd_step (x y : Nat) (h : y ≠ 0) : Nat.gcd x y = Nat.gcd y (x % y) := by
  rw [Nat.gcd_comm x y, Nat.gcd_rec y x, Nat.gcd_comm]
theorem half_step {x y : Nat} (hy : 0 < y) (hx : y ≤ x) : 2 * (x % y) < x := by
  have h1 := Nat.mod_lt x hy
  have h2 := Nat.div_add_mod x y
  have h3 : 1 ≤ x / y := (Nat.one_le_div_iff hy).mpr hx
  have h4 : y * 1 ≤ y * (x / y) := Nat.mul_le_mul_left y h3
  omega
/-- Euclid's steps, so many -/
def eu : Nat → Int → Int → Int × Int
  | 0, x, y => (x, y)
  | n + 1, x, y => if 0 < y then eu n y (x.fmod y) else (x, y)
theorem eu_stop (n : Nat) (x : Int) : eu n x 0 = (x, 0) := by
  cases n <;> simp [eu]
theorem eu_nat : ∀ (k n x y : Nat), y < 2 ^ k → 2 * k ≤ n → eu n (x : Int) (y : Int) = (((Nat.gcd x y : Nat) : Int), (0 : Int))
  | 0, n, x, y, h, _ => by
    have : y = 0 := by omega
    subst this
    simp [eu_stop]
  | k + 1, n, x, y, h, hn => by
    obtain ⟨m, rfl⟩ : ∃ m, n = m + 2 := ⟨n - 2, by omega⟩
    by_cases hy : y = 0
    · subst hy; simp [eu_stop]
    · have e1 : (x : Int).fmod (y : Int) = ((x % y : Nat) : Int) := (Int.ofNat_fmod x y).symm
      have l1 := Nat.mod_lt x (Nat.pos_of_ne_zero hy)
      unfold eu
      rw [if_pos (by omega), e1, gcd_step x y hy]
      generalize x % y = z at *
      by_cases hz : z = 0
      · subst hz; simp [eu_stop]
      · have e2 : (y : Int).fmod (z : Int) = ((y % z : Nat) : Int) := (Int.ofNat_fmod y z).symm
        have l2 := half_step (x := y) (Nat.pos_of_ne_zero hz) (by omega)
        unfold eu
        rw [if_pos (by omega), e2, gcd_step y z hz]
        exact eu_nat k m z (y % z) (by rw [Nat.pow_succ] at h; omega) (by omega)
theorem eu_ok {n : Nat} {x y : Int} (hx : 0 ≤ x) (hy : 0 ≤ y) (k : Nat) (h : y.natAbs ≤ 2 ^ k) (hn : 2 * k + 2 ≤ n) : eu n x y = ((Int.gcd x y : Int), 0) := by
  obtain ⟨x, rfl⟩ := Int.eq_ofNat_of_zero_le hx
  obtain ⟨y, rfl⟩ := Int.eq_ofNat_of_zero_le hy
  exact eu_nat (k + 1) n x y (by rw [Nat.pow_succ]; simp at h; have := two_pow_one_le k; omega) (by omega)
/-- bounds of integers, in bits -/
class Bi (i : Int) (n : outParam Nat) : Prop where
  h : i.natAbs ≤ 2 ^ n
instance Bi.add {i j : Int} {n m : Nat} [A : Bi i n] [B : Bi j m] : Bi (i + j) (max n m + 1) := ⟨natAbs_add_le2 A.h B.h⟩
instance Bi.neg {i : Int} {n : Nat} [A : Bi i n] : Bi (-i) n := ⟨by rw [Int.natAbs_neg]; exact A.h⟩
instance Bi.sub {i j : Int} {n m : Nat} [A : Bi i n] [B : Bi j m] : Bi (i - j) (max n m + 1) := ⟨by
  rw [Int.sub_eq_add_neg]
  exact natAbs_add_le2 A.h (by rw [Int.natAbs_neg]; exact B.h)⟩
instance Bi.mul {i j : Int} {n m : Nat} [A : Bi i n] [B : Bi j m] : Bi (i * j) (n + m) := ⟨natAbs_mul_le2 A.h B.h⟩
instance Bi.lit {k : Nat} : Bi (no_index (OfNat.ofNat k : Int)) (OfNat.ofNat k) := ⟨by
  show ((k : Int)).natAbs ≤ 2 ^ k
  simp
  exact Nat.le_of_lt Nat.lt_two_pow_self⟩
instance Bi.zero : Bi 0 0 := ⟨by decide⟩
instance Bi.one : Bi 1 0 := ⟨by decide⟩
instance Bi.toBd {i : Int} {n : Nat} [A : Bi i n] : Bd (i : Rat) n 0 := ⟨A.h, Nat.le_refl _⟩
theorem Bi.rng {i : Int} {n : Nat} (h : -(2 ^ n : Nat) ≤ i) (g : i ≤ (2 ^ n : Nat)) : Bi i n := ⟨by omega⟩
end EL

-- PlB
/-! Plain part B: running the small syntax by rewriting. -/
namespace EL
open EG PySem L2
/-- what is behind it is not looked at before its time -/
class Tg {α : Type} (a : α) : Type where
instance {α : Type} (a : α) : Tg a := {}
def lk {α : Type} (f : α) [Tg f] : α := f
def sel {α : Type} (b : Bool) (x y : α) [Tg x] [Tg y] : α := if b then x else y
theorem wd {α : Type} (x y : α) [Tg x] [Tg y] : sel true x y = x := id rfl
theorem we {α : Type} (x y : α) [Tg x] [Tg y] : sel false x y = y := id rfl
theorem sel_if {α : Type} (c : Bool) (x y : α) [Tg x] [Tg y] : (if c then x else y) = sel c x y := id rfl
theorem sel_dec {α : Type} (c : Prop) [Decidable c] (x y : α) [Tg x] [Tg y] : (if c then x else y) = sel (decide c) x y := by
  unfold sel
  by_cases h : c <;> simp [h]
/-- a name's value -/
def gv (env : EG.Env) (i : Nat) : Option IV := env[i]?.join
def opv (b : Bool) : Option SL → Option IV
  | none => none
  | some x => opn1 b x
theorem zL (Φ : Fns) (k : Bool) (i : Nat) (env : EG.Env) (cs : Cs) : ev Φ k (.var i) env cs = tst k (R.ofO (gv env i) cs) := by rw [ev]; rfl
theorem zD (vs : List Nat) (s : SE) (i : Nat) : gv (opnM vs s) i = opv (vs.contains i) s[i]? := by
  unfold gv opnM
  rw [List.getElem?_mapIdx]
  cases s[i]? <;> rfl
theorem zE (b : Bool) (x : IV) : opv b (some (.val x)) = some x := id rfl
theorem zF (b : Bool) (xs : List IV) : opv b (some (.lnt xs)) = some (.lst xs) := id rfl
theorem zG (b : Bool) (xs : List IV) : opv b (some (.own xs)) = if b then some (.lst xs) else none := id rfl
theorem zH (env : EG.Env) (i j : Nat) (x : IV) : gv (env.set j (some x)) i = if j = i then (if j < env.length then some x else none) else gv env i := by
  unfold gv
  rw [List.getElem?_set]
  split
  · split <;> rfl
  · rfl
theorem zJ (env : EG.Env) (own : List Nat) : (wipeE env own).length = env.length := by
  induction own with
  | nil => rfl
  | cons v vs ih => unfold wipeE; rw [List.length_set, ih]
theorem zI (env : EG.Env) (own : List Nat) (i : Nat) : gv (wipeE env own) i = if own.contains i then none else gv env i := by
  induction own with
  | nil => rfl
  | cons v vs ih =>
    unfold wipeE
    by_cases h : v = i
    · subst h
      simp [gv, List.getElem?_set]
      split <;> rfl
    · have : (v :: vs).contains i = vs.contains i := by simp [List.contains_cons, Ne.symm h]
      rw [this, ← ih]
      simp [gv, List.getElem?_set, h]
theorem zK (vs : List Nat) (s : SE) : (opnM vs s).length = s.length := by unfold opnM; rw [List.length_mapIdx]
def noOwn : SE → Bool
  | [] => true
  | .own _ :: _ => false
  | _ :: s => noOwn s
theorem keep_no {vs : List Nat} {s : SE} {b : Bool} {cs : Cs} (h : noOwn s = true) : keep vs s b cs = s := by
  have key : ∀ (s : SE) (i : Nat), noOwn s = true → isOw (s.getD i .no) = false := by
    intro s
    induction s with
    | nil => intro i _; cases i <;> rfl
    | cons x s ih =>
      intro i h
      cases x <;> first | (cases h; done) | skip
      all_goals
        cases i with
        | zero => rfl
        | succ i => exact ih i h
  have : hasO vs s = false := by
    unfold hasO
    rw [List.any_eq_false]
    intro i _
    rw [key s i h]; decide
  unfold keep
  rw [this]
  rfl
def unoN (vs : List Nat) : Nat → SE → SE
  | _, [] => []
  | k, .own xs :: s => (if vs.contains k then .val (.lst xs) else .own xs) :: unoN vs (k + 1) s
  | k, x :: s => x :: unoN vs (k + 1) s
theorem uK (vs : List Nat) (s : SE) : unoM vs s = unoN vs 0 s := by
  have : ∀ (s : SE) (k : Nat), s.mapIdx (fun i x => uno1 (vs.contains (k + i)) x) = unoN vs k s := by
    intro s
    induction s with
    | nil => intro k; rfl
    | cons x s ih =>
      intro k
      rw [List.mapIdx_cons]
      have e : (fun i x => uno1 (vs.contains (k + (i + 1))) x) = fun i x => uno1 (vs.contains (k + 1 + i)) x := by
        funext i x; rw [Nat.add_right_comm k 1 i, Nat.add_assoc]
      rw [e, ih (k + 1)]
      cases x <;> rfl
  have h := this s 0
  rw [← h]
  unfold unoM
  congr 1
  funext i x
  rw [Nat.zero_add]
theorem uw (i : Nat) (vs : List Nat) (s : SE) : hasO (i :: vs) s = (isOw (s[i]?.getD .no) || hasO vs s) := by
  unfold hasO
  rw [List.any_cons, List.getD_eq_getElem?_getD]
theorem ux (s : SE) : hasO [] s = false := id rfl

theorem smallI_le {i : Int} {n : Nat} (h : i.natAbs ≤ 2 ^ n) (hn : n < 8000) : smallI i = true := by
  unfold smallI
  by_cases z : i.natAbs = 0
  · rw [z]; decide
  · exact decide_eq_true ((Nat.log2_lt z).mpr (Nat.lt_of_le_of_lt h (Nat.pow_lt_pow_right (by omega) hn)))
theorem smallW_le {i : Int} {n : Nat} (h : i.natAbs ≤ 2 ^ n) (hn : n < 60000000) : smallW i = true := by
  unfold smallW
  by_cases z : i.natAbs = 0
  · rw [z]; decide
  · exact decide_eq_true ((Nat.log2_lt z).mpr (Nat.lt_of_le_of_lt h (Nat.pow_lt_pow_right (by omega) hn)))

section
variable (Φ : Fns) (k : Bool) (env : EG.Env) (cs : Cs) (J : Nat → Bool) (fr : Bool) (s : SE)
theorem zM : ev Φ k .non env cs = tst k (.ok .non cs) := by rw [ev]
theorem zN (b : Bool) : ev Φ k (.bl b) env cs = tst k (.ok (.bl b) cs) := by rw [ev]
theorem zO (i : Int) : ev Φ k (.int i) env cs = tst k (.ok (.int i) cs) := by rw [ev]
theorem zP (c : Nat) (f : Str) (i : Int) : ev Φ k (.cval c f i) env cs = tst k (.ok (.int i) cs) := by rw [ev]
theorem zQ (x : Str) : ev Φ k (.str x) env cs = tst k (.ok (.str x) cs) := by rw [ev]
theorem zR (j : Nat) : ev Φ k (.con j) env cs = tst k (.ok (Φ.con j) cs) := by rw [ev]
theorem zS (as : CA) : ev Φ k (.tup as) env cs = (tst k ((evs Φ as env cs).bind <| lk fun xs cs => .ok (.tup xs) cs)) := by rw [ev]; rfl
theorem zT (as : CA) : ev Φ k (.lst as) env cs = (tst k ((evs Φ as env cs).bind <| lk fun xs cs => .ok (.lst xs) cs)) := by rw [ev]; rfl
theorem zU (op : BO) (a b : CE) : ev Φ k (.bin op a b) env cs = (tst k ((ev Φ false a env cs).bind <| lk fun x cs => (ev Φ false b env cs).bind <| lk fun y cs => binI Φ op x y cs)) := by rw [ev]; rfl
def negI (Φ : Fns) (x : IV) (cs : Cs) : R IV := match x with
  | .int i => .ok (.int (-i)) cs
  | .obj c fs => if c = Φ.q then Φ.fn Φ.neg [.obj c fs] cs else .stuck
  | _ => .stuck
theorem zV (a : CE) : ev Φ k (.neg a) env cs = (tst k ((ev Φ false a env cs).bind <| lk fun x cs => negI Φ x cs)) := by rw [ev]; rfl
theorem zW (op : CmpOp) (a b : CE) : ev Φ k (.cmp op a b) env cs = (tst k ((ev Φ false a env cs).bind <| lk fun x cs => (ev Φ false b env cs).bind <| lk fun y cs => cmpI Φ op x y cs)) := by rw [ev]; rfl
theorem zX (a : CE) : ev Φ k (.isN a) env cs = (tst k ((ev Φ false a env cs).bind <| lk fun x cs => .ok (.bl (EG.isNon x)) cs)) := by rw [ev]; rfl
theorem zY (a : CE) : ev Φ k (.notN a) env cs = (tst k ((ev Φ false a env cs).bind <| lk fun x cs => .ok (.bl (!(EG.isNon x))) cs)) := by rw [ev]; rfl
theorem zZ (o1 o2 : CmpOp) (a b c : CE) : ev Φ k (.chain o1 o2 a b c) env cs = (tst k ((ev Φ false a env cs).bind <| lk fun x cs => (ev Φ false b env cs).bind <| lk fun y cs => (cmpI Φ o1 x y cs).bind <| lk fun r cs => (R.ofO (asB r) cs).bind <| lk fun r cs =>
      sel r ((ev Φ false c env cs).bind <| lk fun z cs => cmpI Φ o2 y z cs) (.ok (.bl false) cs))) := by rw [ev]; rfl
theorem ya (a b : CE) : ev Φ k (.and a b) env cs = ((ev Φ k a env cs).bind <| lk fun x cs => (R.ofO (asB x) cs).bind <| lk fun x cs => sel x (ev Φ k b env cs) (.ok (.bl false) cs)) := by rw [ev]; rfl
theorem yb (a b : CE) : ev Φ k (.or a b) env cs = ((ev Φ k a env cs).bind <| lk fun x cs => (R.ofO (asB x) cs).bind <| lk fun x cs => sel x (.ok (.bl true) cs) (ev Φ k b env cs)) := by rw [ev]; rfl
theorem yc (a : CE) : ev Φ k (.not a) env cs = ((ev Φ k a env cs).bind <| lk fun x cs => (R.ofO (asB x) cs).bind <| lk fun x cs => .ok (.bl (!x)) cs) := by rw [ev]; rfl
theorem yd (t a b : CE) : ev Φ k (.ite t a b) env cs = ((ev Φ true t env cs).bind <| lk fun x cs => (R.ofO (asB x) cs).bind <| lk fun x cs => sel x (ev Φ k a env cs) (ev Φ k b env cs)) := by rw [ev]; rfl
theorem ye (f : Nat) (as : CA) : ev Φ k (.call f as) env cs = (tst k ((evs Φ as env cs).bind <| lk fun xs cs => Φ.fn f xs cs)) := by rw [ev]; rfl
theorem yf (c : Nat) (as : CA) : ev Φ k (.mk c as) env cs = (tst k ((evs Φ as env cs).bind <| lk fun xs cs => mkI Φ c xs cs)) := by rw [ev]; rfl
theorem yg (c f : Nat) (o : CE) (as : CA) : ev Φ k (.meth c f o as) env cs = (tst k ((ev Φ false o env cs).bind <| lk fun x cs => sel (isOf c x cs) ((evs Φ as env cs).bind <| lk fun xs cs => Φ.fn f (x :: xs) cs) .stuck)) := by rw [ev]; rfl
theorem yh (o : CE) (c j : Nat) : ev Φ k (.attr o c j) env cs = (tst k ((ev Φ false o env cs).bind <| lk fun x cs => attrI x c j cs)) := by rw [ev]; rfl
theorem yj (b : Blt) (as : CA) : ev Φ k (.blt b as) env cs = (tst k ((evs Φ as env cs).bind <| lk fun xs cs => bltI b xs cs)) := by rw [ev]; rfl
theorem za (x : Str) (a : CE) : ev Φ k (.join x a) env cs = (tst k ((ev Φ false a env cs).bind <| lk fun y cs => joinI x y cs)) := by rw [ev]; rfl
theorem yo (c f : Nat) (as : CA) : ev Φ k (.strm c f as) env cs = (tst k ((evs Φ as env cs).bind <| lk fun xs cs => strmI Φ c f xs cs)) := by rw [ev]; rfl
theorem yp (a : CE) (s : Str) (b : CE) : ev Φ k (.fs2 a s b) env cs = (tst k ((ev Φ false a env cs).bind <| lk fun x cs => (R.ofO (fmtO x) cs).bind <| lk fun i cs => (ev Φ false b env cs).bind <| lk fun y cs => (R.ofO (fmtO y) cs).bind <| lk fun j cs => .ok (.str ((toString i : Str) ++ s ++ (toString j : Str))) cs)) := by rw [ev]; rfl
theorem zc (c f : Nat) (o : CE) : ev Φ k (.prp c f o) env cs = (tst k ((ev Φ false o env cs).bind <| lk fun x cs => sel (isOf c x cs) ((Φ.fn f [x] cs).noexc) .stuck)) := by rw [ev]; rfl
theorem zd (c f j : Nat) (as : CA) : ev Φ k (.lsti c f j as) env cs = (tst k ((evs Φ as env cs).bind <| lk fun xs cs => lstiI Φ c f j xs cs)) := by rw [ev]; rfl
theorem yn (c f : Nat) (as : CA) : ev Φ k (.lenm c f as) env cs = (tst k ((evs Φ as env cs).bind <| lk fun xs cs => lenmI Φ c f xs cs)) := by rw [ev]; rfl
theorem yk (a : CE) : ev Φ k (.rev a) env cs = (tst k ((ev Φ false a env cs).bind <| lk fun x cs => revI x cs)) := by rw [ev]; rfl
theorem ym (xs : List IV) : revI (.tup xs) cs = .ok (.tup xs.reverse) cs := id rfl
theorem yq (a : CE) (t : Ty) : ev Φ k (.isi a t) env cs = (tst k ((ev Φ false a env cs).bind <| lk fun x cs => (R.ofO (isiN Φ.nc x t) cs).bind <| lk fun b cs => .ok (.bl b) cs)) := by rw [ev]; rfl
theorem yr (a i : CE) : ev Φ k (.sub a i) env cs = (tst k ((ev Φ false a env cs).bind <| lk fun x cs => (ev Φ false i env cs).bind <| lk fun y cs => subI x y cs)) := by rw [ev]; rfl
theorem yt (a : CE) (lo hi : CP) : ev Φ k (.sli a lo hi) env cs = (tst k ((ev Φ false a env cs).bind <| lk fun x cs => (evp Φ lo env cs).bind <| lk fun l cs => (evp Φ hi env cs).bind <| lk fun h cs => sliI x l h cs)) := by rw [ev]; rfl
def cTurn (own tg : List Nat) (cond : CP) (elt : CE) : IV → List IV → Cs → R (List IV) := fun x acc cs => ((R.ofO (setTg (wipeE env own) tg x) cs).bind fun env' cs => (evc Φ cond env' cs).bind fun b cs =>
      if b then (ev Φ false elt env' cs).bind fun y cs => .ok (acc ++ [y]) cs else .ok acc cs).noexc
theorem yu (elt : CE) (own tg : List Nat) (it : CI) (cond : CP) : ev Φ k (.comp elt own tg it cond) env cs = (tst k ((evi Φ it env cs).bind <| lk fun xs cs => sel (decide (xs.length ≤ 1000000)) ((compGo (cTurn Φ env own tg cond elt) xs [] cs).bind <| lk fun ys cs => .ok (.lst ys) cs) .stuck)) := by
  rw [ev]
  congr 2
  funext xs cs
  exact sel_dec _ _ _
theorem yw (as : CA) : ev Φ k (.clst as) env cs = (tst k ((evs Φ as env cs).bind <| lk fun xs cs => .ok (.cell cs.length) (cs ++ [.lst xs]))) := by rw [ev]; rfl
theorem yx : evs Φ .nil env cs = .ok [] cs := by rw [evs]
theorem yy (e : CE) (as : CA) : evs Φ (.cons e as) env cs = ((ev Φ false e env cs).bind <| lk fun x cs => (evs Φ as env cs).bind <| lk fun xs cs => .ok (x :: xs) cs) := by rw [evs]; rfl
theorem yz (e : CE) : evi Φ (.ex e) env cs = ((ev Φ false e env cs).bind <| lk fun x cs => R.ofO (seqI x) cs) := by rw [evi]; rfl
def rngC (x : IV) (cs : Cs) : R (List IV) := match x with
  | .int j => if -(2 ^ 62) ≤ j ∧ j < 2 ^ 62 then .ok (rngI 0 j.toNat) cs else .stuck
  | _ => .stuck
def rngD (x y : IV) (cs : Cs) : R (List IV) := match x, y with
  | .int i, .int j => if (-(2 ^ 62) ≤ i ∧ i < 2 ^ 62) ∧ (-(2 ^ 62) ≤ j ∧ j < 2 ^ 62) then .ok (rngI i (j - i).toNat) cs else .stuck
  | _, _ => .stuck
def zipC (x y : IV) (cs : Cs) : R (List IV) := (R.ofO (seqI x) cs).bind fun xs cs => (R.ofO (seqI y) cs).bind fun ys cs => .ok (List.zipWith (fun u v => .tup [u, v]) xs ys) cs
/-- the items behind their numbers -/
def enF : Nat → List IV → List IV
  | _, [] => []
  | k, x :: xs => .tup [.int k, x] :: enF (k + 1) xs
theorem enF_eq (xs : List IV) (k : Nat) : (xs.zipIdx k).map (fun p => IV.tup [.int (p.2 : Nat), p.1]) = enF k xs := by
  induction xs generalizing k with
  | nil => rfl
  | cons x xs ih => rw [List.zipIdx_cons, List.map_cons, ih]; rfl
def enumC (x : IV) (cs : Cs) : R (List IV) := (R.ofO (seqI x) cs).bind fun xs cs => .ok (enF 0 xs) cs
theorem vC (e : CE) : evi Φ (.enum e) env cs = ((ev Φ false e env cs).bind <| lk fun x cs => enumC x cs) := by
  rw [evi]
  show _ = (ev Φ false e env cs).bind fun x cs => (R.ofO (seqI x) cs).bind fun xs cs => .ok (enF 0 xs) cs
  simp only [enF_eq]
theorem vD (xs : List IV) : enumC (.tup xs) cs = .ok (enF 0 xs) cs := id rfl
theorem vE (xs : List IV) : enumC (.lst xs) cs = .ok (enF 0 xs) cs := id rfl
theorem vF (k : Nat) : enF k [] = [] := id rfl
theorem vG (k : Nat) (x : IV) (xs : List IV) : enF k (x :: xs) = .tup [.int k, x] :: enF (k + 1) xs := id rfl
def cTurn2 (own tg : List Nat) (it1 : CI) (tg1 : List Nat) (cond1 : CP) (elt : CE) : IV → List IV → Cs → R (List IV) := fun x acc cs => ((R.ofO (setTg (wipeE env own) tg x) cs).bind fun env' cs => (evi Φ it1 env' cs).bind fun xs1 cs =>
      if xs1.length ≤ 1000 then compGo (cTurn Φ env' tg1 tg1 cond1 elt) xs1 acc cs else .stuck).noexc
theorem vH (elt : CE) (own tg : List Nat) (it : CI) (tg1 : List Nat) (it1 : CI) (cond1 : CP) : ev Φ k (.comp2 elt own tg it tg1 it1 cond1) env cs = (tst k ((evi Φ it env cs).bind <| lk fun xs cs => sel (decide (xs.length ≤ 1000)) ((compGo (cTurn2 Φ env own tg it1 tg1 cond1 elt) xs [] cs).bind <| lk fun ys cs => .ok (.lst ys) cs) .stuck)) := by
  rw [ev]
  congr 2
  funext xs cs
  exact sel_dec _ _ _
theorem yA (a : CE) : evi Φ (.rng1 a) env cs = ((ev Φ false a env cs).bind <| lk fun x cs => rngC x cs) := by rw [evi]; rfl
theorem yB (a b : CE) : evi Φ (.rng2 a b) env cs = ((ev Φ false a env cs).bind <| lk fun x cs => (ev Φ false b env cs).bind <| lk fun y cs => rngD x y cs) := by rw [evi]; rfl
theorem yC (a b : CE) : evi Φ (.zip a b) env cs = ((ev Φ false a env cs).bind <| lk fun x cs => (ev Φ false b env cs).bind <| lk fun y cs => zipC x y cs) := by rw [evi]; rfl
def intP (x : IV) (cs : Cs) : R (Option Int) := match x with
  | .int i => .ok (some i) cs
  | _ => .stuck
theorem yD : evp Φ .no env cs = .ok none cs := by rw [evp]
theorem yE (e : CE) : evp Φ (.some e) env cs = ((ev Φ false e env cs).bind <| lk fun x cs => intP x cs) := by rw [evp]; rfl
theorem yF : evc Φ .no env cs = .ok true cs := by rw [evc]
theorem yG (e : CE) : evc Φ (.some e) env cs = ((ev Φ true e env cs).bind <| lk fun x cs => R.ofO (asB x) cs) := by rw [evc]; rfl
/-! statements -/
theorem yT : exB J Φ fr .nil s cs = .nx s cs := by rw [exB]
theorem yU (a : CS) (b : CB) : exB J Φ fr (.cons a b) s cs = (exS J Φ fr a s cs).andThen (lk (exB J Φ fr b)) := by rw [exB]; rfl
theorem yV : exS J Φ fr .pass s cs = .nx s cs := by rw [exS]
theorem yW : exS J Φ fr .brk s cs = .bk s cs := by rw [exS]
theorem yX (w : Bool) (i : Nat) (e : CE) : exS J Φ fr (.set w i e) s cs = (RR.of (varE e) (keepI (frE J e)) s (ev Φ false e (opnM (varE e) s) cs) <| lk fun v s cs => .nx (s.set i (newS (w && frE J e) v)) cs) := by rw [exS]; rfl
theorem yY (is : List Nat) (e : CE) : exS J Φ fr (.tup is e) s cs = (RR.of (varE e) (keepI (frE J e)) s (ev Φ false e (opnM (varE e) s) cs) <| lk fun v s cs => RR.ofO (seqI v) <| lk fun xs => RR.ofO (setVals s is xs) <| lk fun s => .nx s cs) := by rw [exS]; rfl
theorem yZ (is : List Nat) (as : CA) : exS J Φ fr (.par is as) s cs = (RR.of (varA as) noLs s (evs Φ as (opnM (varA as) s) cs) <| lk fun xs s cs => RR.ofO (setVals s is xs) <| lk fun s => .nx s cs) := by rw [exS]; rfl
theorem xa (i c j : Nat) (e : CE) : exS J Φ fr (.fset i c j e) s cs = (RR.of (varE e) (keepI (frE J e)) s (ev Φ false e (opnM (varE e) s) cs) <| lk fun v s cs => RR.ofO (slfOf s i) <| lk fun p => if p.1 = c ∧ p.2.length = j then .nx (s.set i (.slf c (p.2 ++ [v]))) cs else .stuck) := by rw [exS]; rfl
theorem xf (o : CE) (c k : Nat) (e : CE) : exS J Φ fr (.cfld o c k e) s cs = (evK J Φ e s cs <| lk fun v s cs => evK J Φ o s cs <| lk fun u s cs => RR.ofO (celI cs u) <| lk fun p => if p.2.1 = c ∧ k < p.2.2.length then .nx s (cs.set p.1 (.ins c (p.2.2.set k v))) else .stuck) := by rw [exS]; rfl
theorem xb (o ix e : CE) : exS J Φ fr (.cidx o ix e) s cs = (evK J Φ e s cs <| lk fun v s cs => evK J Φ o s cs <| lk fun u s cs => evK J Φ ix s cs <| lk fun j s cs => RR.ofO (celL cs u) <| lk fun p => RR.ofO (intO j) <| lk fun j => RR.ofO (ixN p.2.length j) <| lk fun m => .nx s (cs.set p.1 (.lst (p.2.set m v)))) := by rw [exS]; rfl
theorem xg (i : Nat) (ix e : CE) : exS J Φ fr (.oidx i ix e) s cs = (evK J Φ e s cs <| lk fun v s cs => RR.ofO (ownOf s i) <| lk fun _ => evK J Φ ix s cs <| lk fun j s cs => RR.ofO (ownOf s i) <| lk fun xs => RR.ofO (intO j) <| lk fun j => RR.ofO (ixN xs.length j) <| lk fun m => .nx (s.set i (.own (xs.set m v))) cs) := by rw [exS]; rfl
theorem xi (o e : CE) : exS J Φ fr (.capp o e) s cs = (evK J Φ o s cs <| lk fun u s cs => RR.ofO (celL cs u) <| lk fun _ => evK J Φ e s cs <| lk fun v s cs => RR.ofO (celL cs u) <| lk fun p => if p.2.length < 1000000 then .nx s (cs.set p.1 (.lst (p.2 ++ [v]))) else .stuck) := by rw [exS]; rfl
theorem xh (i : Nat) (e : CE) : exS J Φ fr (.app i e) s cs = (RR.ofO (ownOf s i) <| lk fun _ => evK J Φ e s cs <| lk fun v s cs => RR.ofO (ownOf s i) <| lk fun xs => if xs.length < 1000000 then .nx (s.set i (.own (xs ++ [v]))) cs else .stuck) := by rw [exS]; rfl
theorem xj (i : Nat) (e : CE) : exS J Φ fr (.ext i e) s cs = (RR.ofO (ownOf s i) <| lk fun _ => evK J Φ e s cs <| lk fun v s cs => RR.ofO (ownOf s i) <| lk fun xs => RR.ofO (lstO v) <| lk fun ys => if xs.length + ys.length < 1000000 then .nx (s.set i (.own (xs ++ ys))) cs else .stuck) := by rw [exS]; rfl
theorem xk (i : Nat) : exS J Φ fr (.rev i) s cs = (RR.ofO (ownOf s i) <| lk fun xs => .nx (s.set i (.own xs.reverse)) cs) := by rw [exS]; rfl
theorem xl (e : CE) : exS J Φ fr (.expr e) s cs = (evK J Φ e s cs <| lk fun _ s cs => .nx s cs) := by rw [exS]; rfl
theorem xn (e : CE) : exS J Φ false (.ret e) s cs = (RR.of (varE e) (keepI (frE J e)) s (ev Φ false e (opnM (varE e) s) cs) <| lk fun v _ cs => .rt v cs) := by cases e <;> (unfold exS; rfl)
theorem xo (i : Nat) : exS J Φ true (.ret (.var i)) s cs = (RR.ofO (ownOf s i) <| lk fun xs => .rt (.lst xs) cs) := by rw [exS]; rfl
theorem xp : exS J Φ false .retN s cs = .rt .non cs := by rw [exS]; rfl
theorem xq (t : CE) (a b : CB) : exS J Φ fr (.ite t a b) s cs = (evT Φ t s cs <| lk fun k s cs => sel k (exB J Φ fr a s cs) (exB J Φ fr b s cs)) := by rw [exS]; rfl
def forD (J : Nat → Bool) (Φ : Fns) (fr : Bool) (tg : List Nat) (it : CI) (b : CB) (s : SE) (r : R (List IV)) : RR := match r with
      | .ok xs cs => forGo tg (exB J Φ fr b) xs (if isRng it then keep (varI it) s true cs else unoM (varI it) s) cs
      | .exc c pl cs => .ex c pl (keep (varI it) s (noLs pl) cs) cs
      | .stuck => .stuck
theorem xr (tg : List Nat) (it : CI) (b : CB) : exS J Φ fr (.for tg it b) s cs = forD J Φ fr tg it b s (evi Φ it (opnM (varI it) s) cs) := by rw [exS]; rfl
theorem xH (tg : List Nat) (it : CI) (b : CB) (xs : List IV) : forD J Φ fr tg it b s (.ok xs cs) = forGo tg (exB J Φ fr b) xs (if isRng it then keep (varI it) s true cs else unoM (varI it) s) cs := id rfl
theorem xt (i : Nat) (tg : List Nat) (it : CI) (b : CB) : exS J Φ fr (.fro i tg it b) s cs = RR.ofO (ownOf s i) (lk fun xs => sel (noP s) (froT i (forD J Φ fr tg it b (s.set i (.lnt xs)) (evi Φ it (opnM (varI it) (s.set i (.lnt xs))) cs))) .stuck) := by
  rw [exS]
  show RR.ofO _ _ = RR.ofO _ fun xs => _
  congr 1
theorem xy : noP [] = true := id rfl
theorem xz (x : IV) (s : SE) : noP (.val x :: s) = noP s := id rfl
theorem xA (s : SE) : noP (.no :: s) = noP s := id rfl
theorem xB (xs : List IV) (s : SE) : noP (.own xs :: s) = noP s := id rfl
def okLs (s : SE) : Bool := s.all okL
theorem xC : okLs [] = true := id rfl
theorem xD (x : IV) (s : SE) : okLs (.val x :: s) = (noL x && okLs s) := id rfl
theorem xE (s : SE) : okLs (.no :: s) = okLs s := id rfl
theorem xF (xs : List IV) (s : SE) : okLs (.own xs :: s) = (noLs xs && okLs s) := id rfl
def lntG : Option SL → Option (List IV)
  | some (.lnt xs) => some xs
  | _ => none
theorem xG (fs : List IV) : lntG (some (.lnt fs)) = some fs := id rfl
theorem xu (i : Nat) : froT i (.nx s cs) = RR.ofO (lntG s[i]?) (lk fun xs => sel (noLs xs && okLs (s.set i .no) && cs.all noLC) (.nx (s.set i (.own xs)) cs) .stuck) := by
  unfold froT
  show RR.ofO (lntOf s i) _ = RR.ofO (lntOf s i) fun xs => _
  congr 1
theorem xw (i : Nat) (v : IV) : froT i (.rt v cs) = .rt v cs := id rfl
theorem exS_whl (t : CE) (b : CB) : exS J Φ fr (.whl t b) s cs = whlGo (evT Φ t) (exB J Φ fr b) fuel s cs := by rw [exS]
theorem xJ (b : CB) (c : Nat) (nm : Option Nat) (q : QE) : exS J Φ fr (.try b c nm q) s cs = tryD Φ fr c nm q (exB J Φ fr b s cs) := by rw [exS]
theorem xI (c : Nat) : exS J Φ fr (.raise c .no) s cs = .ex c [] s cs := by rw [exS]
def asBR (k : Bool → SE → Cs → RR) (v : IV) (s : SE) (cs : Cs) : RR := match v with
  | .bl b => k b s cs
  | _ => .stuck
theorem xP (e : CE) (k : Bool → SE → Cs → RR) : evT Φ e s cs k = RR.of (varE e) (fun _ => true) s (ev Φ true e (opnM (varE e) s) cs) (lk (asBR k)) := id rfl
theorem xR (k : Bool → SE → Cs → RR) [Tg k] (b : Bool) : asBR (lk k) (.bl b) s cs = k b s cs := id rfl
theorem xQ (e : CE) (k : IV → SE → Cs → RR) : evK J Φ e s cs k = RR.of (varE e) (keepI (frE J e)) s (ev Φ false e (opnM (varE e) s) cs) k := id rfl
theorem xK (b : CB) (c i : Nat) : exS J Φ fr (.tryI b c i) s cs = tryDI Φ c i (exB J Φ fr b s cs) := by rw [exS]
theorem xL (c i : Nat) : tryDI Φ c i (.nx s cs) = .nx s cs := id rfl
theorem tryI_ex (c i : Nat) (c' : Nat) (n : Int) (h1 : Φ.xok c' = true) (h2 : intOf s i = some n) (h3 : Φ.xsub c' c = true) : tryDI Φ c i (.ex c' [] s cs) = .nx (s.set i (.val (.int (n + 1)))) cs := by
  show (if (Φ.xok c' && ([] : List IV).isEmpty) = true then (if Φ.xsub c' c then RR.ofO (intOf s i) (fun n => RR.nx (s.set i (.val (.int (n + 1)))) cs) else .ex c' [] s cs) else .stuck) = _
  rw [h1, h2, h3]; rfl
theorem xM (c : Nat) (nm : Option Nat) (q : QE) : tryD Φ fr c nm q (.nx s cs) = .nx s cs := id rfl
theorem xN (c : Nat) (nm : Option Nat) (q : QE) (v : IV) : tryD Φ fr c nm q (.rt v cs) = .rt v cs := id rfl
theorem try_ex (c : Nat) (nm : Option Nat) (q : QE) (c' : Nat) (h1 : Φ.xok c' = true) (h2 : inL nm s.length = true) (h3 : Φ.xsub c' c = true) : tryD Φ false c nm q (.ex c' [] s cs) = .rt (EG.qv (Φ.xsub c') q) cs := by
  show (if (Φ.xok c' && ([] : List IV).isEmpty && inL nm s.length) = true then (if Φ.xsub c' c then (if false = true then RR.stuck else .rt (EG.qv (Φ.xsub c') q) cs) else .ex c' [] s cs) else .stuck) = _
  rw [h1, h2, h3]; rfl
theorem zf (b : CB) (hs : List (Nat × Option Nat × QE)) : exS J Φ fr (.tryM b hs) s cs = tryDM Φ fr hs (exB J Φ fr b s cs) := by rw [exS]
theorem zg (hs : List (Nat × Option Nat × QE)) : tryDM Φ fr hs (.nx s cs) = .nx s cs := id rfl
theorem zh (hs : List (Nat × Option Nat × QE)) (v : IV) : tryDM Φ fr hs (.rt v cs) = .rt v cs := id rfl
theorem tryM_ex (hs : List (Nat × Option Nat × QE)) (c' : Nat) (h1 : Φ.xok c' = true) : tryDM Φ false hs (.ex c' [] s cs) = pickM Φ c' s cs hs := by
  show (if (Φ.xok c' && ([] : List IV).isEmpty && !false) = true then pickM Φ c' s cs hs else .stuck) = _
  rw [h1]; rfl
theorem pick_yes (c' c : Nat) (nm : Option Nat) (q : QE) (r : List (Nat × Option Nat × QE)) (v : IV) (h2 : inL nm s.length = true) (h3 : Φ.xsub c' c = true) (h4 : qx (Φ.xsub c') (gNm nm s) q = some v) : pickM Φ c' s cs ((c, nm, q) :: r) = .rt v cs := by
  show (if inL nm s.length = true then (if Φ.xsub c' c = true then RR.ofO (qx (Φ.xsub c') (gNm nm s) q) (fun v => RR.rt v cs) else pickM Φ c' s cs r) else .stuck) = _
  rw [h2, h3, h4]; rfl
theorem pick_no (c' c : Nat) (nm : Option Nat) (q : QE) (r : List (Nat × Option Nat × QE)) (h2 : inL nm s.length = true) (h3 : Φ.xsub c' c = false) : pickM Φ c' s cs ((c, nm, q) :: r) = pickM Φ c' s cs r := by
  show (if inL nm s.length = true then (if Φ.xsub c' c = true then RR.ofO (qx (Φ.xsub c') (gNm nm s) q) (fun v => RR.rt v cs) else pickM Φ c' s cs r) else .stuck) = _
  rw [h2, h3]; rfl
def intG : Option SL → Option Int
  | some (.val (.int n)) => some n
  | _ => none
theorem zo (n : Int) : intG (some (.val (.int n))) = some n := id rfl
theorem int_of (i : Nat) : intOf s i = intG s[i]? := by
  unfold intOf intG
  cases s[i]? with
  | none => rfl
  | some x => cases x with
    | val y => cases y <;> rfl
    | _ => rfl
theorem zb (i c k : Nat) (n : Int) : exS J Φ fr (.caug i c k n) s cs = (RR.ofO (celAt s cs i) <| lk fun p => if p.2.1 = c then RR.ofO (intF p.2.2 k) (lk fun a => .nx s (cs.set p.1 (.ins c (p.2.2.set k (.int (a + n)))))) else .stuck) := by rw [exS]; rfl
theorem zm (i : Nat) (e : CE) : exS J Φ fr (.aug i e) s cs = (RR.ofO (intG s[i]?) <| lk fun n => RR.of (varE e) (keepI (frE J e)) s (ev Φ false e (opnM (varE e) s) cs) <| lk fun v s cs => RR.ofO (intO v) <| lk fun m => .nx (s.set i (.val (.int (n + m)))) cs) := by rw [exS, int_of]; rfl
theorem zp (i c : Nat) (ks : List Nat) (e : CE) : exS J Φ fr (.ctup i c ks e) s cs = (RR.of (varE e) (keepI (frE J e)) s (ev Φ false e (opnM (varE e) s) cs) <| lk fun v s cs => RR.ofO (tupO v) <| lk fun xs => RR.ofO (setFl c i ks xs s cs) <| lk fun cs => .nx s cs) := by rw [exS]; rfl
theorem zq (xs : List IV) : tupO (.tup xs) = some xs := id rfl
/-- with's body -/
def wthE (J : Nat → Bool) (Φ : Fns) (fr : Bool) (fx i : Nat) (b : CB) (v : IV) (s : SE) (r : R IV) : RR := match r with
  | .ok y cs => wthX Φ fx v (exB J Φ fr b (s.set i (.val y)) cs)
  | _ => .stuck
theorem zt (fx i : Nat) (b : CB) (v y : IV) : wthE J Φ fr fx i b v s (.ok y cs) = wthX Φ fx v (exB J Φ fr b (s.set i (.val y)) cs) := id rfl
def wthR (u : IV) (r : R IV) : RR := match r with
  | .ok _ cs => .rt u cs
  | _ => .stuck
theorem zv (u z : IV) : wthR u (.ok z cs) = .rt u cs := id rfl
theorem zu (fx : Nat) (v u : IV) : wthX Φ fx v (.rt u cs) = wthR u ((Φ.fn fx [v, .non, .non, .non] cs).noexc) := id rfl
theorem zr (c fe fx : Nat) (e : CE) (i : Nat) (b : CB) : exS J Φ fr (.wth c fe fx e i b) s cs = (RR.of (varE e) (keepI (frE J e)) s (ev Φ false e (opnM (varE e) s) cs) <| lk fun v s cs => sel (isOf c v cs && EG.noO s && !fr) (wthE J Φ fr fx i b v s ((Φ.fn fe [v] cs).noexc)) .stuck) := by rw [exS]; rfl
theorem zw : EG.noO [] = true := id rfl
theorem zx (x : IV) (s : SE) : EG.noO (.val x :: s) = EG.noO s := id rfl
theorem zy (s : SE) : EG.noO (.no :: s) = EG.noO s := id rfl
theorem zA (i j : Nat) : exS J Φ fr (.pop i j) s cs = (RR.ofO (ownOf s j) <| lk fun xs => RR.ofO (lastO xs) <| lk fun y => .nx ((s.set j (.own xs.dropLast)).set i (.val y)) cs) := by rw [exS]; rfl
/-- a loop's turn -/
def forT (tg : List Nat) (body : SE → Cs → RR) (xs : List IV) (r : RR) : RR := match r with
    | .nx s cs => forGo tg body xs s cs
    | .bk s cs => .nx s cs
    | .rt v cs => .rt v cs
    | .ex c pl s cs => .ex c pl s cs
    | .stuck => .stuck
theorem forGo_nil (tg : List Nat) (body : SE → Cs → RR) : forGo tg body [] s cs = .nx s cs := id rfl
theorem forGo_cons (tg : List Nat) (body : SE → Cs → RR) (x : IV) (xs : List IV) : forGo tg body (x :: xs) s cs = RR.ofO (setTS s tg x) (lk fun s => forT tg body xs (body s cs)) := id rfl
theorem xS (tg : List Nat) (body : SE → Cs → RR) (xs : List IV) : forT tg body xs (.nx s cs) = forGo tg body xs s cs := id rfl
theorem xT (tg : List Nat) (body : SE → Cs → RR) (xs : List IV) : forT tg body xs (.bk s cs) = .nx s cs := id rfl
theorem xU (tg : List Nat) (body : SE → Cs → RR) (xs : List IV) (v : IV) : forT tg body xs (.rt v cs) = .rt v cs := id rfl
def whlT (t : SE → Cs → (Bool → SE → Cs → RR) → RR) (body : SE → Cs → RR) (n : Nat) (r : RR) : RR := match r with
    | .nx s cs => whlGo t body n s cs
    | .bk s cs => .nx s cs
    | .rt v cs => .rt v cs
    | .ex c pl s cs => .ex c pl s cs
    | .stuck => .stuck
theorem whlGo_succ (t : SE → Cs → (Bool → SE → Cs → RR) → RR) (body : SE → Cs → RR) (n : Nat) : whlGo t body (n + 1) s cs = t s cs (lk fun b s cs => sel b (whlT t body n (body s cs)) (.nx s cs)) := id rfl
theorem whlT_nx (t : SE → Cs → (Bool → SE → Cs → RR) → RR) (body : SE → Cs → RR) (n : Nat) : whlT t body n (.nx s cs) = whlGo t body n s cs := id rfl
theorem xV (vs : List Nat) (b : Bool) : keep vs s b cs = if noOwn s then s else if hasO vs s then (if b && cs.all noLC then s else unoN vs 0 s) else s := by
  by_cases h : noOwn s = true
  · rw [if_pos h, keep_no h]
  · rw [if_neg h, ← uK]; rfl
end
/-! not by unfolding -/
theorem yJ {α β : Type} (a : α) (cs : Cs) (f : α → Cs → R β) [Tg f] : (R.ok a cs).bind (lk f) = f a cs := id rfl
theorem yK {α β : Type} (c : Nat) (pl : List IV) (cs : Cs) (f : α → Cs → R β) : (R.exc c pl cs : R α).bind f = .exc c pl cs := id rfl
theorem yL {α : Type} (a : α) (cs : Cs) : R.ofO (some a) cs = .ok a cs := id rfl
theorem zB {α : Type} (a : α) (cs : Cs) : (R.ok a cs).noexc = .ok a cs := id rfl
theorem yO (s : SE) (cs : Cs) (g : SE → Cs → RR) [Tg g] : (RR.nx s cs).andThen (lk g) = g s cs := id rfl
theorem yP (s : SE) (cs : Cs) (g : SE → Cs → RR) : (RR.bk s cs).andThen g = .bk s cs := id rfl
theorem yQ (v : IV) (cs : Cs) (g : SE → Cs → RR) : (RR.rt v cs).andThen g = .rt v cs := id rfl
theorem yR (c : Nat) (pl : List IV) (s : SE) (cs : Cs) (g : SE → Cs → RR) : (RR.ex c pl s cs).andThen g = .ex c pl s cs := id rfl
theorem yM {α : Type} (vs : List Nat) (b : α → Bool) (s : SE) (v : α) (cs : Cs) (k : α → SE → Cs → RR) [Tg k] : RR.of vs b s (.ok v cs) (lk k) = k v (keep vs s (b v) cs) cs := id rfl
theorem yN {α : Type} (vs : List Nat) (b : α → Bool) (s : SE) (c : Nat) (pl : List IV) (cs : Cs) (k : α → SE → Cs → RR) : RR.of vs b s (.exc c pl cs) k = .ex c pl (keep vs s (noLs pl) cs) cs := id rfl
theorem yS {α : Type} (x : α) (k : α → RR) [Tg k] : RR.ofO (some x) (lk k) = k x := id rfl
theorem yI (r : R IV) : tst false r = r := id rfl
theorem yH (r : R IV) : tst true r = r.bind (lk fun v cs => (R.ofO (truI v) cs).bind (lk fun b cs => .ok (.bl b) cs)) := id rfl
theorem uT (env : EG.Env) (i : Nat) (x : IV) : setTg env [i] x = some (env.set i (some x)) := id rfl
theorem uU (env : EG.Env) (i j : Nat) (x y : IV) : setTg env [i, j] (.tup [x, y]) = some ((env.set i (some x)).set j (some y)) := id rfl
theorem uV (env : EG.Env) (i j k : Nat) (x y z : IV) : setTg env [i, j, k] (.tup [x, y, z]) = some (((env.set i (some x)).set j (some y)).set k (some z)) := id rfl
theorem wf (s : SE) (i : Nat) (x : IV) : setTS s [i] x = some (s.set i (.val x)) := id rfl
theorem wg (s : SE) (i j : Nat) (x y : IV) : setTS s [i, j] (.tup [x, y]) = some ((s.set i (.val x)).set j (.val y)) := id rfl
theorem wi (s : SE) (i j k : Nat) (x y z : IV) : setTS s [i, j, k] (.tup [x, y, z]) = some (((s.set i (.val x)).set j (.val y)).set k (.val z)) := id rfl
theorem wj (s : SE) : setVals s [] [] = some s := id rfl
theorem wk (s : SE) (i : Nat) (is : List Nat) (x : IV) (xs : List IV) : setVals s (i :: is) (x :: xs) = setVals (s.set i (.val x)) is xs := id rfl
theorem uF (vs : List Nat) (k : Nat) : unoN vs k [] = [] := id rfl
theorem uG (vs : List Nat) (k : Nat) (x : IV) (s : SE) : unoN vs k (.val x :: s) = .val x :: unoN vs (k + 1) s := id rfl
theorem uH (vs : List Nat) (k : Nat) (s : SE) : unoN vs k (.no :: s) = .no :: unoN vs (k + 1) s := id rfl
theorem uI (vs : List Nat) (k c : Nat) (fs : List IV) (s : SE) : unoN vs k (.slf c fs :: s) = .slf c fs :: unoN vs (k + 1) s := id rfl
theorem uJ (vs : List Nat) (k : Nat) (xs : List IV) (s : SE) : unoN vs k (.own xs :: s) = (if vs.contains k then .val (.lst xs) else .own xs) :: unoN vs (k + 1) s := id rfl
theorem uA (vs : List Nat) (k : Nat) (xs : List IV) (s : SE) : unoN vs k (.lnt xs :: s) = .lnt xs :: unoN vs (k + 1) s := id rfl
theorem uy (xs : List IV) : isOw (.lnt xs) = false := id rfl
theorem uz (xs : List IV) (s : SE) : noOwn (.lnt xs :: s) = noOwn s := id rfl
theorem uB (x : IV) : isOw (.val x) = false := id rfl
theorem uC : isOw .no = false := id rfl
theorem uD (xs : List IV) : isOw (.own xs) = true := id rfl
theorem uE (c : Nat) (fs : List IV) : isOw (.slf c fs) = false := id rfl
theorem xW : noOwn [] = true := id rfl
theorem xX (x : IV) (s : SE) : noOwn (.val x :: s) = noOwn s := id rfl
theorem xY (s : SE) : noOwn (.no :: s) = noOwn s := id rfl
theorem xZ (c : Nat) (fs : List IV) (s : SE) : noOwn (.slf c fs :: s) = noOwn s := id rfl
theorem wa (xs : List IV) (s : SE) : noOwn (.own xs :: s) = false := id rfl
/-! operations -/
section
variable (Φ : Fns) (cs : Cs) (i j : Int) (a b : Bool)
theorem wl : binI Φ .add (.int i) (.int j) cs = .ok (.int (i + j)) cs := id rfl
theorem wm : binI Φ .sub (.int i) (.int j) cs = .ok (.int (i - j)) cs := id rfl
theorem b_mul : binI Φ .mul (.int i) (.int j) cs = if smallW i && smallW j then .ok (.int (i * j)) cs else .stuck := id rfl
theorem b_fdiv : binI Φ .fdiv (.int i) (.int j) cs = if j ≠ 0 ∧ smallI j = true then .ok (.int (i.fdiv j)) cs else .stuck := id rfl
theorem b_mod : binI Φ .mod (.int i) (.int j) cs = if j ≠ 0 then .ok (.int (i.fmod j)) cs else .stuck := id rfl
theorem b_pow : binI Φ .pow (.int i) (.int j) cs = if 0 ≤ j ∧ j ≤ 1000 ∧ i.natAbs < 1000 then .ok (.int (i ^ j.toNat)) cs else .stuck := id rfl
theorem wn (xs ys : List IV) : binI Φ .add (.tup xs) (.tup ys) cs = if xs.length + ys.length ≤ 1000000 then .ok (.tup (xs ++ ys)) cs else .stuck := id rfl
theorem b_rep (x : IV) (xs : List IV) (k : Nat) (h : 2 ≤ k ∧ k ≤ 1000 ∧ xs.length < 1000) : binI Φ .mul (.tup (x :: xs)) (.int (no_index (OfNat.ofNat k))) cs = .ok (.tup (List.replicate k (x :: xs)).flatten) cs := by
  show (if (x :: xs).isEmpty = false ∧ (2 : Int) ≤ (k : Int) ∧ (k : Int) ≤ 1000 ∧ (x :: xs).length ≤ 1000 then R.ok (IV.tup (List.replicate (k : Int).toNat (x :: xs)).flatten) cs else R.stuck) = _
  rw [if_pos ⟨rfl, by omega, by omega, by simp; omega⟩, Int.toNat_natCast]
theorem b_mulL (xs : List IV) (k : Int) : binI Φ .mul (.lst xs) (.int k) cs = if 0 ≤ k ∧ k ≤ 1000 ∧ xs.length ≤ 1000 then .ok (.lst (List.replicate k.toNat xs).flatten) cs else .stuck := id rfl
theorem wo (xs ys : List IV) : binI Φ .add (.lst xs) (.lst ys) cs = if xs.length + ys.length ≤ 1000000 then .ok (.lst (xs ++ ys)) cs else .stuck := id rfl
theorem wp (x y : IV) : cmpI Φ .Eq x y cs = ((R.ofO (eqG Φ x y) cs).bind <| lk fun b cs => .ok (.bl b) cs) := id rfl
theorem wq (x y : IV) : cmpI Φ .NotEq x y cs = ((R.ofO (eqG Φ x y) cs).bind <| lk fun b cs => .ok (.bl (!b)) cs) := id rfl
theorem wt : cmpI Φ .Lt (.int i) (.int j) cs = .ok (.bl (decide (i < j))) cs := id rfl
theorem wu : cmpI Φ .LtE (.int i) (.int j) cs = .ok (.bl (decide (i ≤ j))) cs := id rfl
theorem wv : cmpI Φ .Gt (.int i) (.int j) cs = .ok (.bl (decide (j < i))) cs := id rfl
theorem ww : cmpI Φ .GtE (.int i) (.int j) cs = .ok (.bl (decide (j ≤ i))) cs := id rfl
theorem wA (a : Bool) (b : Option Bool) : orI (some a) b = some a := id rfl
theorem orI_none (b : Option Bool) : orI none b = b := id rfl
theorem wx (x : IV) (ys : List IV) : cmpI Φ .In x (.tup ys) cs = ((R.ofO (orI (inI x ys) (inQ Φ x ys)) cs).bind <| lk fun b cs => .ok (.bl b) cs) := id rfl
theorem wy (x : IV) (ys : List IV) : cmpI Φ .In x (.lst ys) cs = ((R.ofO (orI (inI x ys) (inQ Φ x ys)) cs).bind <| lk fun b cs => .ok (.bl b) cs) := id rfl
theorem wz (x : IV) (ys : List IV) : cmpI Φ .NotIn x (.tup ys) cs = ((R.ofO (orI (inI x ys) (inQ Φ x ys)) cs).bind <| lk fun b cs => .ok (.bl (!b)) cs) := id rfl
theorem wB : eqG Φ (.int i) (.int j) = some (i == j) := by unfold eqG; cases Φ.eqk <;> rfl
theorem wC : truI .non = some false := id rfl
theorem wD : truI (.bl a) = some a := id rfl
theorem wE : truI (.int i) = some (i != 0) := id rfl
theorem wF (xs : List IV) : truI (.tup xs) = some (!xs.isEmpty) := id rfl
theorem wG (xs : List IV) : truI (.lst xs) = some (!xs.isEmpty) := id rfl
theorem wH : negI Φ (.int i) cs = .ok (.int (-i)) cs := id rfl
theorem wI : asB (.bl a) = some a := id rfl
theorem wJ : bltI .abs [.int i] cs = .ok (.int (if i < 0 then -i else i)) cs := id rfl
theorem wK : bltI .int [.int i] cs = .ok (.int i) cs := id rfl
theorem wL : bltI .int [.bl a] cs = .ok (.int (if a then 1 else 0)) cs := id rfl
theorem wM (x : IV) : bltI .len [x] cs = lenI x cs := id rfl
theorem wN (x : IV) : bltI .tuple [x] cs = tupI x cs := id rfl
theorem wO (x : IV) : bltI .list [x] cs = lstI x cs := id rfl
theorem wP (x : IV) : bltI .sum [x] cs = sumI x cs := id rfl
theorem wQ (x : IV) : bltI .all [x] cs = allI x cs := id rfl
theorem wR (x : IV) : bltI .any [x] cs = anyI x cs := id rfl
theorem wS : bltI .min [.int i, .int j] cs = .ok (.int (if j < i then j else i)) cs := id rfl
theorem wT : bltI .max [.int i, .int j] cs = .ok (.int (if j > i then j else i)) cs := id rfl
theorem zC (c f c' : Nat) (fs : List IV) : lenmI Φ c f [.obj c' fs] cs = sel (decide (c' = c)) ((Φ.fn f [.obj c' fs] cs).bind <| lk fun y cs => lenK y cs) .stuck := by
  unfold lenmI sel isOf
  dsimp only
  by_cases h : c' = c
  · subst h; simp; rfl
  · simp [h]
theorem lenm_cell (c f n : Nat) (h : isOf c (.cell n) cs = true) : lenmI Φ c f [.cell n] cs = ((Φ.fn f [.cell n] cs).bind <| lk fun y cs => lenK y cs) := by unfold lenmI; dsimp only; rw [if_pos h]; rfl
theorem lenK_int (i : Int) : lenK (.int i) cs = sel (decide (0 ≤ i ∧ i < 2 ^ 62)) (.ok (.int i) cs) .stuck := by
  show (if 0 ≤ i ∧ i < 2 ^ 62 then _ else _) = _
  exact sel_dec _ _ _
theorem vc (xs : List IV) : lenI (.tup xs) cs = .ok (.int xs.length) cs := id rfl
theorem vd (xs : List IV) : lenI (.lst xs) cs = .ok (.int xs.length) cs := id rfl
theorem ve (xs : List Int) : lenI (.scr xs) cs = .ok (.int xs.length) cs := id rfl
theorem vf (xs : List IV) : tupI (.lst xs) cs = .ok (.tup xs) cs := id rfl
theorem vg (xs : List IV) : tupI (.tup xs) cs = .ok (.tup xs) cs := id rfl
theorem vh (xs : List IV) : lstI (.lst xs) cs = .ok (.lst xs) cs := id rfl
theorem vi (xs : List IV) : lstI (.tup xs) cs = .ok (.lst xs) cs := id rfl
theorem wU (xs : List IV) : sumI (.lst xs) cs = ((R.ofO (intsOf xs) cs).bind <| lk fun ns cs => .ok (.int ns.sum) cs) := id rfl
theorem wV (xs : List IV) : allI (.lst xs) cs = ((R.ofO (blsOf xs) cs).bind <| lk fun ns cs => .ok (.bl (ns.all id)) cs) := id rfl
theorem wW (xs : List IV) : anyI (.lst xs) cs = ((R.ofO (blsOf xs) cs).bind <| lk fun ns cs => .ok (.bl (ns.any id)) cs) := id rfl
theorem wX : intsOf [] = some [] := id rfl
theorem wY (xs : List IV) : intsOf (.int i :: xs) = (intsOf xs).map (i :: ·) := id rfl
theorem wZ : blsOf [] = some [] := id rfl
theorem vb (xs : List IV) : blsOf (.bl a :: xs) = (blsOf xs).map (a :: ·) := id rfl
theorem vj (xs : List IV) : subI (.tup xs) (.int i) cs = R.ofO (atI xs i) cs := id rfl
theorem vk (xs : List IV) : subI (.lst xs) (.int i) cs = R.ofO (atI xs i) cs := id rfl
theorem vm (xs : List Int) : subI (.scr xs) (.int i) cs = ((R.ofO (atI xs i) cs).bind <| lk fun i cs => .ok (.int i) cs) := id rfl
def celS (o : Option CO) (i : Int) (cs : Cs) : R IV := match o with
  | some (.lst xs) => R.ofO (atI xs i) cs
  | _ => .stuck
theorem vn (n : Nat) : subI (.cell n) (.int i) cs = celS cs[n]? i cs := id rfl
theorem vp (xs : List IV) : celS (some (.lst xs)) i cs = R.ofO (atI xs i) cs := id rfl
theorem at_nil {α : Type} : atI ([] : List α) i = none := by
  unfold atI
  cases ixN 0 i <;> rfl
theorem vr {α : Type} (x : α) (xs : List α) : atI (x :: xs) 0 = some x := by
  unfold atI ixN
  simp
theorem at_nat {α : Type} (xs : List α) (n : Nat) : atI xs (n : Int) = xs[n]? := by
  unfold atI ixN
  by_cases h : n < xs.length
  · simp [h]
  · simp [h]
theorem vt {α : Type} (xs : List α) (n : Nat) : atI xs (no_index (OfNat.ofNat n : Int)) = xs[n]? := at_nat xs n
theorem vw (xs : List IV) : seqI (.tup xs) = some xs := id rfl
theorem vx (xs : List IV) : seqI (.lst xs) = some xs := id rfl
theorem rng_int : rngC (.int j) cs = if -(2 ^ 62) ≤ j ∧ j < 2 ^ 62 then .ok (rngI 0 j.toNat) cs else .stuck := id rfl
theorem rng_ints : rngD (.int i) (.int j) cs = if (-(2 ^ 62) ≤ i ∧ i < 2 ^ 62) ∧ (-(2 ^ 62) ≤ j ∧ j < 2 ^ 62) then .ok (rngI i (j - i).toNat) cs else .stuck := id rfl
theorem vy (xs ys : List IV) : zipC (.tup xs) (.tup ys) cs = .ok (List.zipWith (fun u v => .tup [u, v]) xs ys) cs := id rfl
theorem vz (xs ys : List IV) : zipC (.lst xs) (.lst ys) cs = .ok (List.zipWith (fun u v => .tup [u, v]) xs ys) cs := id rfl
theorem vA (xs ys : List IV) : zipC (.lst xs) (.tup ys) cs = .ok (List.zipWith (fun u v => .tup [u, v]) xs ys) cs := id rfl
theorem vB (xs ys : List IV) : zipC (.tup xs) (.lst ys) cs = .ok (List.zipWith (fun u v => .tup [u, v]) xs ys) cs := id rfl
theorem vI : intP (.int i) cs = .ok (some i) cs := id rfl
theorem vJ (c : Nat) (fs : List IV) (c' n : Nat) : attrI (.obj c fs) c' n cs = if c = c' then R.ofO fs[n]? cs else .stuck := id rfl
theorem vK (c c' : Nat) (fs : List IV) : isOf c (.obj c' fs) cs = (c' == c) := id rfl
theorem vL (f : Bool) : newS f (.int i) = .val (.int i) := id rfl
theorem vM (f : Bool) : newS f (.bl a) = .val (.bl a) := id rfl
theorem vN (f : Bool) : newS f .non = .val .non := id rfl
theorem vO (f : Bool) (x : Str) : newS f (.str x) = .val (.str x) := id rfl
theorem vP (f : Bool) (xs : List IV) : newS f (.tup xs) = .val (.tup xs) := id rfl
theorem vQ (f : Bool) (c : Nat) (xs : List IV) : newS f (.obj c xs) = .val (.obj c xs) := id rfl
theorem vR (f : Bool) (c : Nat) : newS f (.cell c) = .val (.cell c) := id rfl
theorem vS (f : Bool) (xs : List IV) : newS f (.lst xs) = if f then .own xs else .val (.lst xs) := id rfl
theorem vT (f : Bool) (xs : List Int) : newS f (.scr xs) = .val (.scr xs) := id rfl
theorem vU (f : Bool) (xs : List IV) : keepI f (.lst xs) = (f && noLs xs) := id rfl
theorem vV (f : Bool) : keepI f (.int i) = true := id rfl
theorem vW (f : Bool) : keepI f (.bl a) = true := id rfl
theorem vX (f : Bool) : keepI f .non = true := id rfl
theorem vY (f : Bool) (x : Str) : keepI f (.str x) = true := id rfl
theorem vZ (f : Bool) (c : Nat) : keepI f (.cell c) = true := id rfl
theorem ua (f : Bool) (xs : List IV) : keepI f (.tup xs) = noLs xs := by show noL (.tup xs) = _; rw [noL]
theorem ub (f : Bool) (c : Nat) (xs : List IV) : keepI f (.obj c xs) = noLs xs := by show noL (.obj c xs) = _; rw [noL]
theorem uj : EG.isNon IV.non = true := id rfl
theorem uk : EG.isNon (IV.bl a) = false := id rfl
theorem ul : EG.isNon (IV.int i) = false := id rfl
theorem um (x : Str) : EG.isNon (IV.str x) = false := id rfl
theorem uq (xs : List IV) : EG.isNon (IV.tup xs) = false := id rfl
theorem ur (xs : List IV) : EG.isNon (IV.lst xs) = false := id rfl
theorem ut (c : Nat) (xs : List IV) : EG.isNon (IV.obj c xs) = false := id rfl
theorem uc (n : Nat) (t : Ty) : isiN n (.int i) t = some (isiI (.int i) t) := id rfl
theorem ud (n : Nat) (t : Ty) : isiN n (.bl a) t = some (isiI (.bl a) t) := id rfl
theorem ue (n : Nat) (t : Ty) : isiN n .non t = some (isiI .non t) := id rfl
theorem uf (n : Nat) (x : Str) (t : Ty) : isiN n (.str x) t = some (isiI (.str x) t) := id rfl
theorem ug (n : Nat) (xs : List IV) (t : Ty) : isiN n (.tup xs) t = some (isiI (.tup xs) t) := id rfl
theorem uh (n : Nat) (xs : List IV) (t : Ty) : isiN n (.lst xs) t = some (isiI (.lst xs) t) := id rfl
theorem ui (n c : Nat) (xs : List IV) (t : Ty) : isiN n (.obj c xs) t = if c < n then some (isiI (.obj c xs) t) else none := id rfl
end
def slfG : Option SL → Option (Nat × List IV)
  | some (.slf c fs) => some (c, fs)
  | _ => none
def ownG : Option SL → Option (List IV)
  | some (.own xs) => some xs
  | _ => none
theorem uP (s : SE) (i : Nat) : slfOf s i = slfG s[i]? := id rfl
theorem uQ (s : SE) (i : Nat) : ownOf s i = ownG s[i]? := id rfl
theorem uR (c : Nat) (fs : List IV) : slfG (some (.slf c fs)) = some (c, fs) := id rfl
theorem uS (fs : List IV) : ownG (some (.own fs)) = some fs := id rfl
theorem uL (fr : Bool) (v : IV) (cs : Cs) : outF fr (.rt v cs) = .ok v cs := id rfl
theorem uM (s : SE) (cs : Cs) : outF false (.nx s cs) = .ok .non cs := id rfl
theorem uN (fr : Bool) (c : Nat) (pl : List IV) (s : SE) (cs : Cs) : outF fr (.ex c pl s cs) = .exc c pl cs := id rfl
theorem uO (b : Nat → List Str) (c' : Nat) (c : Nat) (pl : List IV) (s : SE) (cs : Cs) : outI b c' (.ex c pl s cs) = .exc c pl cs := id rfl
theorem outI_nx (b : Nat → List Str) (c : Nat) (fs : List IV) (s : SE) (cs : Cs) (h : fs.length = (b c).length) : outI b c (.nx (.slf c fs :: s) cs) = .ok fs cs := by
  show (if c = c ∧ fs.length = (b c).length then R.ok fs cs else R.stuck) = _
  rw [if_pos ⟨rfl, h⟩]
/-- a quotient -/
def qv (a : Rat) : IV := .obj 0 [.int a.num, .int a.den]
end EL

-- T
/-! the tables of law_k10_texts_of_reflectances (printed by gen.py) -/
namespace EL
open EG PySem L2
def top (i : Nat) : Stmt := PySem.Challenge.pw_colormatch_k10_texts_of_reflectances.main.body.getD i (.Pass ⟨0, 0, 0, 0⟩)
/-- _wall -/
def lb0_0 : CB := (.cons .pass .nil)
def bd0 : CB := (.cons (.whl (.bl true) lb0_0) .nil)
def nm0 : List Str := ["k"]
/-- common_part -/
def lb1_0 : CB := (.cons (.par [0, 1] (.cons (.var 1) (.cons (.bin .mod (.var 0) (.var 1)) .nil))) .nil)
def bd1 : CB := (.cons (.set false 0 (.blt .abs (.cons (.var 0) .nil))) (.cons (.set false 1 (.blt .abs (.cons (.var 1) .nil))) (.cons (.whl (.cmp .Gt (.var 1) (.int 0)) lb1_0) (.cons (.ret (.var 0)) .nil))))
def nm1 : List Str := ["first", "second"]
/-- Quotient.__eq__ -/
def bd2 : CB := (.cons (.ret (.and (.isi (.var 1) (.cls 0)) (.and (.cmp .Eq (.attr (.var 0) 0 0) (.attr (.var 1) 0 0)) (.cmp .Eq (.attr (.var 0) 0 1) (.attr (.var 1) 0 1))))) .nil)
def nm2 : List Str := ["self", "other"]
/-- Quotient.__lt__ -/
def bd3 : CB := (.cons (.ret (.cmp .Lt (.bin .mul (.attr (.var 0) 0 0) (.attr (.var 1) 0 1)) (.bin .mul (.attr (.var 1) 0 0) (.attr (.var 0) 0 1)))) .nil)
def nm3 : List Str := ["self", "other"]
/-- Quotient.__le__ -/
def bd4 : CB := (.cons (.ret (.cmp .LtE (.bin .mul (.attr (.var 0) 0 0) (.attr (.var 1) 0 1)) (.bin .mul (.attr (.var 1) 0 0) (.attr (.var 0) 0 1)))) .nil)
def nm4 : List Str := ["self", "other"]
/-- Quotient.__add__ -/
def bd5 : CB := (.cons (.ret (.mk 0 (.cons (.bin .add (.bin .mul (.attr (.var 0) 0 0) (.attr (.var 1) 0 1)) (.bin .mul (.attr (.var 1) 0 0) (.attr (.var 0) 0 1))) (.cons (.bin .mul (.attr (.var 0) 0 1) (.attr (.var 1) 0 1)) .nil)))) .nil)
def nm5 : List Str := ["self", "other"]
/-- Quotient.__sub__ -/
def bd6 : CB := (.cons (.ret (.mk 0 (.cons (.bin .sub (.bin .mul (.attr (.var 0) 0 0) (.attr (.var 1) 0 1)) (.bin .mul (.attr (.var 1) 0 0) (.attr (.var 0) 0 1))) (.cons (.bin .mul (.attr (.var 0) 0 1) (.attr (.var 1) 0 1)) .nil)))) .nil)
def nm6 : List Str := ["self", "other"]
/-- Quotient.__mul__ -/
def bd7 : CB := (.cons (.ret (.mk 0 (.cons (.bin .mul (.attr (.var 0) 0 0) (.attr (.var 1) 0 0)) (.cons (.bin .mul (.attr (.var 0) 0 1) (.attr (.var 1) 0 1)) .nil)))) .nil)
def nm7 : List Str := ["self", "other"]
/-- Quotient.__neg__ -/
def bd8 : CB := (.cons (.ret (.mk 0 (.cons (.neg (.attr (.var 0) 0 0)) (.cons (.attr (.var 0) 0 1) .nil)))) .nil)
def nm8 : List Str := ["self"]
/-- Quotient.__str__ -/
def bd9 : CB := (.cons (.ite (.cmp .Eq (.attr (.var 0) 0 1) (.int 1)) (.cons (.ret (.blt .str (.cons (.attr (.var 0) 0 0) .nil))) .nil) .nil) (.cons (.ret (.fs2 (.attr (.var 0) 0 0) "/" (.attr (.var 0) 0 1))) .nil))
def nm9 : List Str := ["self"]
/-- Quotient.over -/
def bd10 : CB := (.cons .stuck .nil)
def nm10 : List Str := ["self", "other"]
/-- ValueReader.char -/
def bd11 : CB := (.cons (.ret (.sli (.attr (.var 0) 1 0) (.some (.attr (.var 0) 1 1)) (.some (.bin .add (.attr (.var 0) 1 1) (.int 1))))) .nil)
def nm11 : List Str := ["self"]
/-- ValueReader.at_digit -/
def bd12 : CB := (.cons (.ret (.and (.cmp .NotEq (.meth 1 11 (.var 0) .nil) (.str "")) (.cmp .In (.meth 1 11 (.var 0) .nil) (.con 0)))) .nil)
def nm12 : List Str := ["self"]
/-- ValueReader.fail -/
def bd13 : CB := (.cons .stuck .nil)
def nm13 : List Str := ["self"]
/-- ValueReader.skip_spaces -/
def lb14_0 : CB := (.cons (.caug 0 1 1 1) .nil)
def bd14 : CB := (.cons (.whl (.cmp .Eq (.meth 1 11 (.var 0) .nil) (.str " ")) lb14_0) .nil)
def nm14 : List Str := ["self"]
/-- ValueReader.take_top -/
def lb15_0 : CB := (.cons (.ite (.and (.cmp .Eq (.sub (.attr (.var 0) 1 0) (.var 1)) (.str "0")) (.cmp .Gt (.attr (.var 0) 1 1) (.var 1))) (.cons (.expr (.meth 1 13 (.var 0) .nil)) .nil) .nil) (.cons (.ite (.cmp .Eq (.bin .sub (.attr (.var 0) 1 1) (.var 1)) (.con 1)) (.cons (.expr (.meth 1 13 (.var 0) .nil)) .nil) .nil) (.cons (.caug 0 1 1 1) .nil)))
def bd15 : CB := (.cons (.ite (.not (.meth 1 12 (.var 0) .nil)) (.cons (.expr (.meth 1 13 (.var 0) .nil)) .nil) .nil) (.cons (.set false 1 (.attr (.var 0) 1 1)) (.cons (.whl (.meth 1 12 (.var 0) .nil) lb15_0) (.cons (.ret (.blt .int (.cons (.sli (.attr (.var 0) 1 0) (.some (.var 1)) (.some (.attr (.var 0) 1 1))) .nil))) .nil))))
def nm15 : List Str := ["self", "start"]
/-- ValueReader.take_bottom -/
def lb16_0 : CB := (.cons (.set false 3 (.sli (.attr (.var 0) 1 0) (.some (.var 2)) (.some (.bin .add (.attr (.var 0) 1 1) (.int 1))))) (.cons (.ite (.or (.cmp .Eq (.sub (.var 3) (.int 0)) (.str "0")) (.or (.cmp .Gt (.blt .len (.cons (.var 3) .nil)) (.con 1)) (.cmp .Lt (.call 18 (.cons (.var 3) .nil)) (.var 1)))) (.cons (.expr (.meth 1 13 (.var 0) .nil)) .nil) .nil) (.cons (.caug 0 1 1 1) .nil)))
def bd16 : CB := (.cons (.set false 2 (.attr (.var 0) 1 1)) (.cons (.whl (.meth 1 12 (.var 0) .nil) lb16_0) (.cons (.set false 3 (.sli (.attr (.var 0) 1 0) (.some (.var 2)) (.some (.attr (.var 0) 1 1)))) (.cons (.ite (.or (.cmp .Eq (.var 3) (.str "")) (.cmp .Lt (.blt .int (.cons (.var 3) .nil)) (.var 1))) (.cons (.expr (.meth 1 13 (.var 0) .nil)) .nil) .nil) (.cons (.ret (.blt .int (.cons (.var 3) .nil))) .nil)))))
def nm16 : List Str := ["self", "top", "start", "digits"]
/-- ValueReader.take_value -/
def bd17 : CB := (.cons (.set false 1 (.meth 1 15 (.var 0) .nil)) (.cons (.ite (.cmp .Eq (.meth 1 11 (.var 0) .nil) (.str "/")) (.cons (.caug 0 1 1 1) (.cons (.ret (.mk 0 (.cons (.var 1) (.cons (.meth 1 16 (.var 0) (.cons (.var 1) .nil)) .nil)))) .nil)) .nil) (.cons (.ite (.and (.cmp .Eq (.meth 1 11 (.var 0) .nil) (.str "c")) (.cmp .LtE (.var 1) (.int 100))) (.cons (.caug 0 1 1 1) (.cons (.ret (.mk 0 (.cons (.var 1) (.cons (.int 100) .nil)))) .nil)) .nil) (.cons (.ite (.cmp .Gt (.var 1) (.int 1)) (.cons (.expr (.meth 1 13 (.var 0) .nil)) .nil) .nil) (.cons (.ret (.mk 0 (.cons (.var 1) (.cons (.int 1) .nil)))) .nil)))))
def nm17 : List Str := ["self", "top"]
/-- greatest_number -/
def bd18 : CB := (.cons (.ret (.blt .int (.cons (.bin .add (.var 0) (.bin .mul (.str "9") (.bin .sub (.con 1) (.blt .len (.cons (.var 0) .nil))))) .nil))) .nil)
def nm18 : List Str := ["digits"]
/-- parse_reflectance -/
def lb19_0 : CB := (.cons (.expr (.meth 1 14 (.var 1) .nil)) (.cons (.ite (.cmp .Eq (.meth 1 11 (.var 1) .nil) (.str "")) (.cons .brk .nil) .nil) (.cons (.ite (.cmp .Eq (.blt .len (.cons (.var 2) .nil)) (.con 2)) (.cons (.expr (.meth 1 13 (.var 1) .nil)) .nil) .nil) (.cons (.app 2 (.meth 1 17 (.var 1) .nil)) .nil))))
def bd19 : CB := (.cons (.set false 1 (.mk 1 (.cons (.var 0) .nil))) (.cons (.expr (.meth 1 14 (.var 1) .nil)) (.cons (.set true 2 (.lst (.cons (.meth 1 17 (.var 1) .nil) .nil))) (.cons (.whl (.cmp .Eq (.meth 1 11 (.var 1) .nil) (.str " ")) lb19_0) (.cons (.ite (.cmp .NotEq (.meth 1 11 (.var 1) .nil) (.str "")) (.cons (.expr (.meth 1 13 (.var 1) .nil)) .nil) .nil) (.cons (.ret (.blt .tuple (.cons (.var 2) .nil))) .nil))))))
def nm19 : List Str := ["text", "reader", "values"]
/-- format_reflectance -/
def ce20_0 : CE := (.strm 0 9 (.cons (.var 1) .nil))
def bd20 : CB := (.cons (.ret (.join " " (.comp ce20_0 [1] [1] (.ex (.var 0)) .no))) .nil)
def nm20 : List Str := ["reflectance", "value"]
/-- _law_cell -/
def bd21 : CB := (.cons (.ite (.cmp .Lt (.var 1) (.blt .len (.cons (.var 0) .nil))) (.cons (.ret (.blt .int (.cons (.sub (.var 0) (.var 1)) .nil))) .nil) .nil) (.cons (.ret (.int 0)) .nil))
def nm21 : List Str := ["_law_script", "_law_k"]
/-- _law_draws -/
def lb22_0 : CB := (.cons (.ite (.and (.cmp .Lt (.var 5) (.var 1)) (.var 3)) (.cons (.app 4 (.bin .mod (.var 2) (.int 60))) (.cons (.set false 2 (.bin .fdiv (.var 2) (.int 60))) .nil)) (.cons (.ite (.cmp .Lt (.var 5) (.var 1)) (.cons (.set false 6 (.bin .mod (.bin .add (.bin .add (.bin .mul (.blt .int (.cons (.var 2) .nil)) (.int 48271)) (.bin .mul (.var 5) (.int 69621))) (.int 11)) (.int 2147483647))) (.cons (.set false 6 (.bin .mod (.bin .add (.bin .add (.bin .mul (.blt .int (.cons (.var 6) .nil)) (.blt .int (.cons (.var 6) .nil))) (.bin .mul (.var 5) (.int 7919))) (.int 5)) (.int 998244353))) (.cons (.app 4 (.bin .mod (.blt .int (.cons (.var 6) .nil)) (.int 60))) .nil))) .nil) .nil)) .nil)
def bd22 : CB := (.cons (.set false 2 (.blt .abs (.cons (.blt .int (.cons (.var 0) .nil)) .nil))) (.cons (.set false 3 (.cmp .GtE (.var 2) (.bin .pow (.int 10) (.int 18)))) (.cons (.set true 4 (.lst .nil)) (.cons (.for [5] (.rng1 (.int 60)) lb22_0) (.cons (.ret (.var 4)) .nil)))))
def nm22 : List Str := ["_law_cell_here", "_law_count", "_law_number", "_law_great", "_law_found", "_law_k", "_law_mixed"]
/-- _law_stream -/
def lb23_0 : CB := (.cons (.ext 3 (.call 22 (.cons (.call 21 (.cons (.var 0) (.cons (.bin .add (.var 1) (.var 4)) .nil))) (.cons (.int 12) .nil)))) .nil)
def bd23 : CB := (.cons (.set true 3 (.lst .nil)) (.cons (.for [4] (.rng1 (.var 2)) lb23_0) (.cons (.ret (.lst (.cons (.var 3) (.cons (.clst (.cons (.int 0) .nil)) .nil)))) .nil)))
def nm23 : List Str := ["_law_script", "_law_first", "_law_count", "_law_found", "_law_k"]
/-- _law_next -/
def bd24 : CB := (.cons (.set false 2 (.sub (.var 0) (.int 0))) (.cons (.set false 3 (.sub (.var 0) (.int 1))) (.cons (.set false 4 (.bin .mod (.blt .int (.cons (.sub (.var 2) (.bin .mod (.blt .int (.cons (.sub (.var 3) (.int 0)) .nil)) (.blt .len (.cons (.var 2) .nil)))) .nil)) (.var 1))) (.cons (.cidx (.var 3) (.int 0) (.bin .add (.sub (.var 3) (.int 0)) (.int 1))) (.cons (.ret (.var 4)) .nil)))))
def nm24 : List Str := ["_law_stream_here", "_law_many", "_law_digits", "_law_place", "_law_value"]
/-- _law_part -/
def lb25_0 : CB := (.cons (.ite (.cmp .Gt (.var 1) (.int 0)) (.cons (.set false 3 (.bin .mod (.var 0) (.var 1))) (.cons (.set false 0 (.var 1)) (.cons (.set false 1 (.var 3)) .nil))) .nil) .nil)
def bd25 : CB := (.cons (.set false 0 (.blt .abs (.cons (.var 0) .nil))) (.cons (.set false 1 (.blt .abs (.cons (.var 1) .nil))) (.cons (.for [2] (.rng1 (.int 600)) lb25_0) (.cons (.ret (.var 0)) .nil))))
def nm25 : List Str := ["_law_first", "_law_second", "_law_k", "_law_rest"]
/-- _law_least -/
def bd26 : CB := (.cons (.set false 2 (.call 25 (.cons (.var 0) (.cons (.var 1) .nil)))) (.cons (.ite (.cmp .Lt (.var 1) (.int 0)) (.cons (.set false 2 (.bin .sub (.int 0) (.var 2))) .nil) .nil) (.cons (.ret (.tup (.cons (.bin .fdiv (.var 0) (.var 2)) (.cons (.bin .fdiv (.var 1) (.var 2)) .nil)))) .nil)))
def nm26 : List Str := ["_law_top", "_law_bottom", "_law_part_here"]
/-- _law_is_integer -/
def bd27 : CB := (.cons (.ret (.and (.isi (.var 0) .int) (.not (.isi (.var 0) .bool)))) .nil)
def nm27 : List Str := ["_law_actual"]
/-- _law_same -/
def lb28_0 : CB := (.cons (.ite (.not (.call 28 (.cons (.sub (.var 0) (.var 2)) (.cons (.sub (.var 1) (.var 2)) .nil)))) (.cons (.ret (.bl false)) .nil) .nil) .nil)
def bd28 : CB := (.cons (.ite (.isN (.var 1)) (.cons (.ret (.isN (.var 0))) .nil) .nil) (.cons (.ite (.isi (.var 1) .bool) (.cons (.ret (.and (.isi (.var 0) .bool) (.cmp .Eq (.var 0) (.var 1)))) .nil) .nil) (.cons (.ite (.isi (.var 1) .int) (.cons (.ret (.and (.call 27 (.cons (.var 0) .nil)) (.cmp .Eq (.var 0) (.var 1)))) .nil) .nil) (.cons (.ite (.isi (.var 1) .str) (.cons (.ret (.and (.isi (.var 0) .str) (.cmp .Eq (.var 0) (.var 1)))) .nil) .nil) (.cons (.ite (.and (.isi (.var 1) .tuple) (.not (.isi (.var 0) .tuple))) (.cons (.ret (.bl false)) .nil) .nil) (.cons (.ite (.and (.isi (.var 1) .list) (.not (.isi (.var 0) .list))) (.cons (.ret (.bl false)) .nil) .nil) (.cons (.ite (.cmp .NotEq (.blt .len (.cons (.var 0) .nil)) (.blt .len (.cons (.var 1) .nil))) (.cons (.ret (.bl false)) .nil) .nil) (.cons (.for [2] (.rng1 (.blt .len (.cons (.var 1) .nil))) lb28_0) (.cons (.ret (.bl true)) .nil)))))))))
def nm28 : List Str := ["_law_actual", "_law_expected", "_law_k"]
/-- _law_written -/
def bd29 : CB := (.cons (.set false 1 (.call 24 (.cons (.var 0) (.cons (.int 4) .nil)))) (.cons (.ite (.cmp .Eq (.var 1) (.int 0)) (.cons (.set false 4 (.call 24 (.cons (.var 0) (.cons (.int 2) .nil)))) (.cons (.ret (.tup (.cons (.blt .str (.cons (.var 4) .nil)) (.cons (.var 4) (.cons (.int 1) .nil))))) .nil)) .nil) (.cons (.ite (.cmp .Eq (.var 1) (.int 1)) (.cons (.set false 4 (.bin .mod (.bin .mul (.call 24 (.cons (.var 0) (.cons (.int 60) .nil))) (.int 2)) (.int 101))) (.cons (.ret (.tup (.cons (.bin .add (.blt .str (.cons (.var 4) .nil)) (.str "c")) (.cons (.var 4) (.cons (.int 100) .nil))))) .nil)) .nil) (.cons (.set false 2 (.bin .add (.int 1) (.bin .mul (.bin .add (.bin .mul (.call 24 (.cons (.var 0) (.cons (.int 60) .nil))) (.int 60)) (.call 24 (.cons (.var 0) (.cons (.int 60) .nil)))) (.sub (.lst (.cons (.int 1) (.cons (.int 1) (.cons (.int 1) (.cons (.int 0) .nil))))) (.call 24 (.cons (.var 0) (.cons (.int 4) .nil))))))) (.cons (.set false 3 (.bin .mod (.bin .add (.bin .mul (.call 24 (.cons (.var 0) (.cons (.int 60) .nil))) (.int 60)) (.call 24 (.cons (.var 0) (.cons (.int 60) .nil)))) (.bin .add (.var 2) (.int 1)))) (.cons (.ret (.tup (.cons (.bin .add (.bin .add (.blt .str (.cons (.var 3) .nil)) (.str "/")) (.blt .str (.cons (.var 2) .nil))) (.cons (.var 3) (.cons (.var 2) .nil))))) .nil))))))
def nm29 : List Str := ["_law_stream_here", "_law_kind", "_law_bottom", "_law_top", "_law_value"]
/-- law -/
def ce30_1 : CE := (.mk 0 (.cons (.var 9) (.cons (.var 10) .nil)))
def ce30_0 : CE := (.tup (.cons (.attr (.var 11) 0 0) (.cons (.attr (.var 11) 0 1) .nil)))
def lb30_0 : CB := (.cons (.tup [8, 9, 10] (.call 29 (.cons (.var 1) .nil))) (.cons (.ite (.cmp .Gt (.var 5) (.int 0)) (.cons (.set false 2 (.bin .add (.var 2) (.bin .mul (.str " ") (.bin .add (.int 1) (.call 24 (.cons (.var 1) (.cons (.int 3) .nil))))))) .nil) .nil) (.cons (.set false 2 (.bin .add (.var 2) (.var 8))) (.cons (.tup [9, 10] (.call 26 (.cons (.var 9) (.cons (.var 10) .nil)))) (.cons (.app 3 (.tup (.cons (.var 9) (.cons (.var 10) .nil)))) (.cons (.app 4 (.sub (.lst (.cons (.bin .add (.bin .add (.blt .str (.cons (.var 9) .nil)) (.str "/")) (.blt .str (.cons (.var 10) .nil))) (.cons (.blt .str (.cons (.var 9) .nil)) .nil))) (.blt .int (.cons (.cmp .Eq (.var 10) (.int 1)) .nil)))) .nil))))))
def bd30 : CB := (.cons (.set false 1 (.call 23 (.cons (.var 0) (.cons (.int 0) (.cons (.int 12) .nil))))) (.cons (.set false 2 (.bin .mul (.str " ") (.call 24 (.cons (.var 1) (.cons (.int 3) .nil))))) (.cons (.set true 3 (.lst .nil)) (.cons (.set true 4 (.lst .nil)) (.cons (.for [5] (.rng1 (.bin .add (.int 1) (.call 24 (.cons (.var 1) (.cons (.int 8) .nil))))) lb30_0) (.cons (.set false 6 (.call 19 (.cons (.bin .add (.var 2) (.bin .mul (.str " ") (.call 24 (.cons (.var 1) (.cons (.int 3) .nil))))) .nil))) (.cons (.ite (.or (.not (.isi (.var 6) .tuple)) (.cmp .NotEq (.comp ce30_0 [11] [11] (.ex (.var 6)) .no) (.var 3))) (.cons (.ret (.bl false)) .nil) .nil) (.cons (.set false 7 (.join " " (.var 4))) (.cons (.ite (.not (.call 28 (.cons (.call 20 (.cons (.var 6) .nil)) (.cons (.var 7) .nil)))) (.cons (.ret (.bl false)) .nil) .nil) (.cons (.ite (.not (.call 28 (.cons (.call 20 (.cons (.blt .tuple (.cons (.comp ce30_1 [9, 10] [9, 10] (.ex (.var 3)) .no) .nil)) .nil)) (.cons (.var 7) .nil)))) (.cons (.ret (.bl false)) .nil) .nil) (.cons (.ret (.cmp .Eq (.call 19 (.cons (.var 7) .nil)) (.var 6))) .nil)))))))))))
def nm30 : List Str := ["_law_script", "_law_stream_here", "_law_text", "_law_due", "_law_texts", "_law_k", "_law_told", "_law_normal", "_law_written_here", "_law_top", "_law_bottom", "_law_part_here"]
/-- Quotient.__init__ -/
def ib0 : CB := (.cons (.ite (.cmp .Eq (.var 2) (.int 0)) (.cons (.raise 3 .no) .nil) .nil) (.cons (.set false 3 (.call 1 (.cons (.var 1) (.cons (.var 2) .nil)))) (.cons (.ite (.cmp .Lt (.var 2) (.int 0)) (.cons (.set false 3 (.neg (.var 3))) .nil) .nil) (.cons (.fset 0 0 0 (.bin .fdiv (.var 1) (.var 3))) (.cons (.fset 0 0 1 (.bin .fdiv (.var 2) (.var 3))) .nil)))))
def in0 : List Str := ["self", "top", "bottom", "part"]
/-- ValueReader.__init__ -/
def ib1 : CB := (.cons (.fset 0 1 0 (.var 1)) (.cons (.fset 0 1 1 (.int 0)) .nil))
def in1 : List Str := ["self", "text"]
def fps : Nat → List Str
  | 0 => ["k"]
  | 1 => ["first", "second"]
  | 2 => ["self", "other"]
  | 3 => ["self", "other"]
  | 4 => ["self", "other"]
  | 5 => ["self", "other"]
  | 6 => ["self", "other"]
  | 7 => ["self", "other"]
  | 8 => ["self"]
  | 9 => ["self"]
  | 10 => ["self", "other"]
  | 11 => ["self"]
  | 12 => ["self"]
  | 13 => ["self"]
  | 14 => ["self"]
  | 15 => ["self"]
  | 16 => ["self", "top"]
  | 17 => ["self"]
  | 18 => ["digits"]
  | 19 => ["text"]
  | 20 => ["reflectance"]
  | 21 => ["_law_script", "_law_k"]
  | 22 => ["_law_cell_here", "_law_count"]
  | 23 => ["_law_script", "_law_first", "_law_count"]
  | 24 => ["_law_stream_here", "_law_many"]
  | 25 => ["_law_first", "_law_second"]
  | 26 => ["_law_top", "_law_bottom"]
  | 27 => ["_law_actual"]
  | 28 => ["_law_actual", "_law_expected"]
  | 29 => ["_law_stream_here"]
  | 30 => ["_law_script"]
  | _ => []
def ffr : Nat → Bool
  | 0 => false
  | 1 => false
  | 2 => false
  | 3 => false
  | 4 => false
  | 5 => false
  | 6 => false
  | 7 => false
  | 8 => false
  | 9 => false
  | 10 => false
  | 11 => false
  | 12 => false
  | 13 => false
  | 14 => false
  | 15 => false
  | 16 => false
  | 17 => false
  | 18 => false
  | 19 => false
  | 20 => false
  | 21 => false
  | 22 => false
  | 23 => false
  | 24 => false
  | 25 => false
  | 26 => false
  | 27 => false
  | 28 => false
  | 29 => false
  | 30 => false
  | _ => false
def fz : Nat → Bool
  | _ => false
def fnm : Nat → Str
  | 0 => "_wall"
  | 1 => "common_part"
  | 2 => "__eq__"
  | 3 => "__lt__"
  | 4 => "__le__"
  | 5 => "__add__"
  | 6 => "__sub__"
  | 7 => "__mul__"
  | 8 => "__neg__"
  | 9 => "__str__"
  | 10 => "over"
  | 11 => "char"
  | 12 => "at_digit"
  | 13 => "fail"
  | 14 => "skip_spaces"
  | 15 => "take_top"
  | 16 => "take_bottom"
  | 17 => "take_value"
  | 18 => "greatest_number"
  | 19 => "parse_reflectance"
  | 20 => "format_reflectance"
  | 21 => "_law_cell"
  | 22 => "_law_draws"
  | 23 => "_law_stream"
  | 24 => "_law_next"
  | 25 => "_law_part"
  | 26 => "_law_least"
  | 27 => "_law_is_integer"
  | 28 => "_law_same"
  | 29 => "_law_written"
  | 30 => "law"
  | _ => ""
def fql : Nat → Str
  | 0 => "_wall"
  | 1 => "common_part"
  | 2 => "Quotient.__eq__"
  | 3 => "Quotient.__lt__"
  | 4 => "Quotient.__le__"
  | 5 => "Quotient.__add__"
  | 6 => "Quotient.__sub__"
  | 7 => "Quotient.__mul__"
  | 8 => "Quotient.__neg__"
  | 9 => "Quotient.__str__"
  | 10 => "Quotient.over"
  | 11 => "ValueReader.char"
  | 12 => "ValueReader.at_digit"
  | 13 => "ValueReader.fail"
  | 14 => "ValueReader.skip_spaces"
  | 15 => "ValueReader.take_top"
  | 16 => "ValueReader.take_bottom"
  | 17 => "ValueReader.take_value"
  | 18 => "greatest_number"
  | 19 => "parse_reflectance"
  | 20 => "format_reflectance"
  | 21 => "_law_cell"
  | 22 => "_law_draws"
  | 23 => "_law_stream"
  | 24 => "_law_next"
  | 25 => "_law_part"
  | 26 => "_law_least"
  | 27 => "_law_is_integer"
  | 28 => "_law_same"
  | 29 => "_law_written"
  | 30 => "law"
  | _ => ""
def isM : Nat → Bool
  | 0 => false
  | 1 => false
  | 2 => true
  | 3 => true
  | 4 => true
  | 5 => true
  | 6 => true
  | 7 => true
  | 8 => true
  | 9 => true
  | 10 => true
  | 11 => true
  | 12 => true
  | 13 => true
  | 14 => true
  | 15 => true
  | 16 => true
  | 17 => true
  | 18 => false
  | 19 => false
  | 20 => false
  | 21 => false
  | 22 => false
  | 23 => false
  | 24 => false
  | 25 => false
  | 26 => false
  | 27 => false
  | 28 => false
  | 29 => false
  | 30 => false
  | _ => false
def fcl : Nat → Nat
  | 0 => 0
  | 1 => 0
  | 2 => 0
  | 3 => 0
  | 4 => 0
  | 5 => 0
  | 6 => 0
  | 7 => 0
  | 8 => 0
  | 9 => 0
  | 10 => 0
  | 11 => 1
  | 12 => 1
  | 13 => 1
  | 14 => 1
  | 15 => 1
  | 16 => 1
  | 17 => 1
  | 18 => 0
  | 19 => 0
  | 20 => 0
  | 21 => 0
  | 22 => 0
  | 23 => 0
  | 24 => 0
  | 25 => 0
  | 26 => 0
  | 27 => 0
  | 28 => 0
  | 29 => 0
  | 30 => 0
  | _ => 0
def bd : Nat → CB
  | 0 => bd0
  | 1 => bd1
  | 2 => bd2
  | 3 => bd3
  | 4 => bd4
  | 5 => bd5
  | 6 => bd6
  | 7 => bd7
  | 8 => bd8
  | 9 => bd9
  | 10 => bd10
  | 11 => bd11
  | 12 => bd12
  | 13 => bd13
  | 14 => bd14
  | 15 => bd15
  | 16 => bd16
  | 17 => bd17
  | 18 => bd18
  | 19 => bd19
  | 20 => bd20
  | 21 => bd21
  | 22 => bd22
  | 23 => bd23
  | 24 => bd24
  | 25 => bd25
  | 26 => bd26
  | 27 => bd27
  | 28 => bd28
  | 29 => bd29
  | 30 => bd30
  | _ => .nil
def nm : Nat → List Str
  | 0 => nm0
  | 1 => nm1
  | 2 => nm2
  | 3 => nm3
  | 4 => nm4
  | 5 => nm5
  | 6 => nm6
  | 7 => nm7
  | 8 => nm8
  | 9 => nm9
  | 10 => nm10
  | 11 => nm11
  | 12 => nm12
  | 13 => nm13
  | 14 => nm14
  | 15 => nm15
  | 16 => nm16
  | 17 => nm17
  | 18 => nm18
  | 19 => nm19
  | 20 => nm20
  | 21 => nm21
  | 22 => nm22
  | 23 => nm23
  | 24 => nm24
  | 25 => nm25
  | 26 => nm26
  | 27 => nm27
  | 28 => nm28
  | 29 => nm29
  | 30 => nm30
  | _ => []
def dst : Nat → Stmt
  | 0 => top 0
  | 1 => top 6
  | 2 => inClass (top 7) 1
  | 3 => inClass (top 7) 2
  | 4 => inClass (top 7) 3
  | 5 => inClass (top 7) 4
  | 6 => inClass (top 7) 5
  | 7 => inClass (top 7) 6
  | 8 => inClass (top 7) 7
  | 9 => inClass (top 7) 8
  | 10 => inClass (top 7) 9
  | 11 => inClass (top 12) 1
  | 12 => inClass (top 12) 2
  | 13 => inClass (top 12) 3
  | 14 => inClass (top 12) 4
  | 15 => inClass (top 12) 5
  | 16 => inClass (top 12) 6
  | 17 => inClass (top 12) 7
  | 18 => top 13
  | 19 => top 14
  | 20 => top 15
  | 21 => top 17
  | 22 => top 18
  | 23 => top 19
  | 24 => top 20
  | 25 => top 21
  | 26 => top 22
  | 27 => top 23
  | 28 => top 24
  | 29 => top 25
  | 30 => top 26
  | _ => .Pass ⟨0, 0, 0, 0⟩
def ips : Nat → List Str
  | 0 => ["self", "top", "bottom"]
  | 1 => ["self", "text"]
  | _ => []
def cnm : Nat → Str
  | 0 => "Quotient"
  | 1 => "ValueReader"
  | 2 => "ColorError"
  | 3 => "BadQuotient"
  | 4 => "TextFault"
  | _ => ""
def fld : Nat → List Str
  | 0 => ["top", "bottom"]
  | 1 => ["text", "place"]
  | _ => []
def ibd : Nat → CB
  | 0 => ib0
  | 1 => ib1
  | _ => .nil
def inm : Nat → List Str
  | 0 => in0
  | 1 => in1
  | _ => []
def idst : Nat → Stmt
  | 0 => inClass (top 7) 0
  | 1 => inClass (top 12) 0
  | _ => .Pass ⟨0, 0, 0, 0⟩
def iql : Nat → Str
  | 0 => "Quotient.__init__"
  | 1 => "ValueReader.__init__"
  | _ => ""
def knm : Nat → Str
  | 0 => "DIGITS"
  | 1 => "MOST_DIGITS"
  | 2 => "MOST_VALUES"
  | _ => ""
def kvl : Nat → IV
  | 0 => .str "0123456789"
  | 1 => .int 4
  | 2 => .int 8
  | _ => .non
def xsub : Nat → Nat → Bool
  | _, _ => false
def base : Fns := ⟨fun _ _ _ => .stuck, fun _ _ _ => .stuck, kvl, 0, 5, 6, 7, 8, 3, 4, 2, 9, fun c => ([1] : List Nat).contains c, 2, false, fun c => false, xsub⟩
def cvs : List (Nat × Str × Int) := []
def tprs : List (Nat × Str × Nat) := []
def tits : List (Nat × Nat × Nat) := []
def P : PD := ⟨31, 2, 3, fps, ffr, fnm, isM, fcl, ips, cnm, knm, cvs, fld, [2, 3], bd, nm, dst, fql, ibd, inm, idst, iql, base, fz, tprs, tits⟩
theorem ck0 : chkB (P.cs nm0) (ffr 0) (defScope (top 0)) bd0 (defBody (top 0)) = true := by decide +kernel
theorem ck1 : chkB (P.cs nm1) (ffr 1) (defScope (top 6)) bd1 (defBody (top 6)) = true := by decide +kernel
theorem ck2 : chkB (P.cs nm2) (ffr 2) (defScope (inClass (top 7) 1)) bd2 (defBody (inClass (top 7) 1)) = true := by decide +kernel
theorem ck3 : chkB (P.cs nm3) (ffr 3) (defScope (inClass (top 7) 2)) bd3 (defBody (inClass (top 7) 2)) = true := by decide +kernel
theorem ck4 : chkB (P.cs nm4) (ffr 4) (defScope (inClass (top 7) 3)) bd4 (defBody (inClass (top 7) 3)) = true := by decide +kernel
theorem ck5 : chkB (P.cs nm5) (ffr 5) (defScope (inClass (top 7) 4)) bd5 (defBody (inClass (top 7) 4)) = true := by decide +kernel
theorem ck6 : chkB (P.cs nm6) (ffr 6) (defScope (inClass (top 7) 5)) bd6 (defBody (inClass (top 7) 5)) = true := by decide +kernel
theorem ck7 : chkB (P.cs nm7) (ffr 7) (defScope (inClass (top 7) 6)) bd7 (defBody (inClass (top 7) 6)) = true := by decide +kernel
theorem ck8 : chkB (P.cs nm8) (ffr 8) (defScope (inClass (top 7) 7)) bd8 (defBody (inClass (top 7) 7)) = true := by decide +kernel
theorem ck9 : chkB (P.cs nm9) (ffr 9) (defScope (inClass (top 7) 8)) bd9 (defBody (inClass (top 7) 8)) = true := by decide +kernel
theorem ck10 : chkB (P.cs nm10) (ffr 10) (defScope (inClass (top 7) 9)) bd10 (defBody (inClass (top 7) 9)) = true := by decide +kernel
theorem ck11 : chkB (P.cs nm11) (ffr 11) (defScope (inClass (top 12) 1)) bd11 (defBody (inClass (top 12) 1)) = true := by decide +kernel
theorem ck12 : chkB (P.cs nm12) (ffr 12) (defScope (inClass (top 12) 2)) bd12 (defBody (inClass (top 12) 2)) = true := by decide +kernel
theorem ck13 : chkB (P.cs nm13) (ffr 13) (defScope (inClass (top 12) 3)) bd13 (defBody (inClass (top 12) 3)) = true := by decide +kernel
theorem ck14 : chkB (P.cs nm14) (ffr 14) (defScope (inClass (top 12) 4)) bd14 (defBody (inClass (top 12) 4)) = true := by decide +kernel
theorem ck15 : chkB (P.cs nm15) (ffr 15) (defScope (inClass (top 12) 5)) bd15 (defBody (inClass (top 12) 5)) = true := by decide +kernel
theorem ck16 : chkB (P.cs nm16) (ffr 16) (defScope (inClass (top 12) 6)) bd16 (defBody (inClass (top 12) 6)) = true := by decide +kernel
theorem ck17 : chkB (P.cs nm17) (ffr 17) (defScope (inClass (top 12) 7)) bd17 (defBody (inClass (top 12) 7)) = true := by decide +kernel
theorem ck18 : chkB (P.cs nm18) (ffr 18) (defScope (top 13)) bd18 (defBody (top 13)) = true := by decide +kernel
theorem ck19 : chkB (P.cs nm19) (ffr 19) (defScope (top 14)) bd19 (defBody (top 14)) = true := by decide +kernel
theorem ck20 : chkB (P.cs nm20) (ffr 20) (defScope (top 15)) bd20 (defBody (top 15)) = true := by decide +kernel
theorem ck21 : chkB (P.cs nm21) (ffr 21) (defScope (top 17)) bd21 (defBody (top 17)) = true := by decide +kernel
theorem ck22 : chkB (P.cs nm22) (ffr 22) (defScope (top 18)) bd22 (defBody (top 18)) = true := by decide +kernel
theorem ck23 : chkB (P.cs nm23) (ffr 23) (defScope (top 19)) bd23 (defBody (top 19)) = true := by decide +kernel
theorem ck24 : chkB (P.cs nm24) (ffr 24) (defScope (top 20)) bd24 (defBody (top 20)) = true := by decide +kernel
theorem ck25 : chkB (P.cs nm25) (ffr 25) (defScope (top 21)) bd25 (defBody (top 21)) = true := by decide +kernel
theorem ck26 : chkB (P.cs nm26) (ffr 26) (defScope (top 22)) bd26 (defBody (top 22)) = true := by decide +kernel
theorem ck27 : chkB (P.cs nm27) (ffr 27) (defScope (top 23)) bd27 (defBody (top 23)) = true := by decide +kernel
theorem ck28 : chkB (P.cs nm28) (ffr 28) (defScope (top 24)) bd28 (defBody (top 24)) = true := by decide +kernel
theorem ck29 : chkB (P.cs nm29) (ffr 29) (defScope (top 25)) bd29 (defBody (top 25)) = true := by decide +kernel
theorem ck30 : chkB (P.cs nm30) (ffr 30) (defScope (top 26)) bd30 (defBody (top 26)) = true := by decide +kernel
theorem ci0 : chkB (P.cs in0) false (defScope (inClass (top 7) 0)) ib0 (defBody (inClass (top 7) 0)) = true := by decide +kernel
theorem ci1 : chkB (P.cs in1) false (defScope (inClass (top 12) 0)) ib1 (defBody (inClass (top 12) 0)) = true := by decide +kernel
theorem sc0 : FnScope nm0 (fps 0) (defScope (top 0)) := ⟨rfl, rfl, rfl, by decide +kernel, rfl, by decide +kernel, by decide +kernel⟩
theorem sc1 : FnScope nm1 (fps 1) (defScope (top 6)) := ⟨rfl, rfl, rfl, by decide +kernel, rfl, by decide +kernel, by decide +kernel⟩
theorem sc2 : FnScope nm2 (fps 2) (defScope (inClass (top 7) 1)) := ⟨rfl, rfl, rfl, by decide +kernel, rfl, by decide +kernel, by decide +kernel⟩
theorem sc3 : FnScope nm3 (fps 3) (defScope (inClass (top 7) 2)) := ⟨rfl, rfl, rfl, by decide +kernel, rfl, by decide +kernel, by decide +kernel⟩
theorem sc4 : FnScope nm4 (fps 4) (defScope (inClass (top 7) 3)) := ⟨rfl, rfl, rfl, by decide +kernel, rfl, by decide +kernel, by decide +kernel⟩
theorem sc5 : FnScope nm5 (fps 5) (defScope (inClass (top 7) 4)) := ⟨rfl, rfl, rfl, by decide +kernel, rfl, by decide +kernel, by decide +kernel⟩
theorem sc6 : FnScope nm6 (fps 6) (defScope (inClass (top 7) 5)) := ⟨rfl, rfl, rfl, by decide +kernel, rfl, by decide +kernel, by decide +kernel⟩
theorem sc7 : FnScope nm7 (fps 7) (defScope (inClass (top 7) 6)) := ⟨rfl, rfl, rfl, by decide +kernel, rfl, by decide +kernel, by decide +kernel⟩
theorem sc8 : FnScope nm8 (fps 8) (defScope (inClass (top 7) 7)) := ⟨rfl, rfl, rfl, by decide +kernel, rfl, by decide +kernel, by decide +kernel⟩
theorem sc9 : FnScope nm9 (fps 9) (defScope (inClass (top 7) 8)) := ⟨rfl, rfl, rfl, by decide +kernel, rfl, by decide +kernel, by decide +kernel⟩
theorem sc10 : FnScope nm10 (fps 10) (defScope (inClass (top 7) 9)) := ⟨rfl, rfl, rfl, by decide +kernel, rfl, by decide +kernel, by decide +kernel⟩
theorem sc11 : FnScope nm11 (fps 11) (defScope (inClass (top 12) 1)) := ⟨rfl, rfl, rfl, by decide +kernel, rfl, by decide +kernel, by decide +kernel⟩
theorem sc12 : FnScope nm12 (fps 12) (defScope (inClass (top 12) 2)) := ⟨rfl, rfl, rfl, by decide +kernel, rfl, by decide +kernel, by decide +kernel⟩
theorem sc13 : FnScope nm13 (fps 13) (defScope (inClass (top 12) 3)) := ⟨rfl, rfl, rfl, by decide +kernel, rfl, by decide +kernel, by decide +kernel⟩
theorem sc14 : FnScope nm14 (fps 14) (defScope (inClass (top 12) 4)) := ⟨rfl, rfl, rfl, by decide +kernel, rfl, by decide +kernel, by decide +kernel⟩
theorem sc15 : FnScope nm15 (fps 15) (defScope (inClass (top 12) 5)) := ⟨rfl, rfl, rfl, by decide +kernel, rfl, by decide +kernel, by decide +kernel⟩
theorem sc16 : FnScope nm16 (fps 16) (defScope (inClass (top 12) 6)) := ⟨rfl, rfl, rfl, by decide +kernel, rfl, by decide +kernel, by decide +kernel⟩
theorem sc17 : FnScope nm17 (fps 17) (defScope (inClass (top 12) 7)) := ⟨rfl, rfl, rfl, by decide +kernel, rfl, by decide +kernel, by decide +kernel⟩
theorem sc18 : FnScope nm18 (fps 18) (defScope (top 13)) := ⟨rfl, rfl, rfl, by decide +kernel, rfl, by decide +kernel, by decide +kernel⟩
theorem sc19 : FnScope nm19 (fps 19) (defScope (top 14)) := ⟨rfl, rfl, rfl, by decide +kernel, rfl, by decide +kernel, by decide +kernel⟩
theorem sc20 : FnScope nm20 (fps 20) (defScope (top 15)) := ⟨rfl, rfl, rfl, by decide +kernel, rfl, by decide +kernel, by decide +kernel⟩
theorem sc21 : FnScope nm21 (fps 21) (defScope (top 17)) := ⟨rfl, rfl, rfl, by decide +kernel, rfl, by decide +kernel, by decide +kernel⟩
theorem sc22 : FnScope nm22 (fps 22) (defScope (top 18)) := ⟨rfl, rfl, rfl, by decide +kernel, rfl, by decide +kernel, by decide +kernel⟩
theorem sc23 : FnScope nm23 (fps 23) (defScope (top 19)) := ⟨rfl, rfl, rfl, by decide +kernel, rfl, by decide +kernel, by decide +kernel⟩
theorem sc24 : FnScope nm24 (fps 24) (defScope (top 20)) := ⟨rfl, rfl, rfl, by decide +kernel, rfl, by decide +kernel, by decide +kernel⟩
theorem sc25 : FnScope nm25 (fps 25) (defScope (top 21)) := ⟨rfl, rfl, rfl, by decide +kernel, rfl, by decide +kernel, by decide +kernel⟩
theorem sc26 : FnScope nm26 (fps 26) (defScope (top 22)) := ⟨rfl, rfl, rfl, by decide +kernel, rfl, by decide +kernel, by decide +kernel⟩
theorem sc27 : FnScope nm27 (fps 27) (defScope (top 23)) := ⟨rfl, rfl, rfl, by decide +kernel, rfl, by decide +kernel, by decide +kernel⟩
theorem sc28 : FnScope nm28 (fps 28) (defScope (top 24)) := ⟨rfl, rfl, rfl, by decide +kernel, rfl, by decide +kernel, by decide +kernel⟩
theorem sc29 : FnScope nm29 (fps 29) (defScope (top 25)) := ⟨rfl, rfl, rfl, by decide +kernel, rfl, by decide +kernel, by decide +kernel⟩
theorem sc30 : FnScope nm30 (fps 30) (defScope (top 26)) := ⟨rfl, rfl, rfl, by decide +kernel, rfl, by decide +kernel, by decide +kernel⟩
theorem si0 : FnScope in0 (ips 0) (defScope (inClass (top 7) 0)) := ⟨rfl, rfl, rfl, by decide +kernel, rfl, by decide +kernel, by decide +kernel⟩
theorem si1 : FnScope in1 (ips 1) (defScope (inClass (top 12) 0)) := ⟨rfl, rfl, rfl, by decide +kernel, rfl, by decide +kernel, by decide +kernel⟩
theorem pk (he : ∀ (Φ : Fns) (t b : Int) (y : IV) (cs : Cs) (r : Bool), Φ.q = P.b.q → Φ.nc = P.b.nc → eqQ P.b.q [.int t, .int b] y = some r → runF P Φ P.b.eq [.obj P.b.q [.int t, .int b], y] cs = .ok (.bl r) cs) : PKx P where
  scF := fun f h => match f, h with
    | 0, _ => ⟨sc0, ck0⟩
    | 1, _ => ⟨sc1, ck1⟩
    | 2, _ => ⟨sc2, ck2⟩
    | 3, _ => ⟨sc3, ck3⟩
    | 4, _ => ⟨sc4, ck4⟩
    | 5, _ => ⟨sc5, ck5⟩
    | 6, _ => ⟨sc6, ck6⟩
    | 7, _ => ⟨sc7, ck7⟩
    | 8, _ => ⟨sc8, ck8⟩
    | 9, _ => ⟨sc9, ck9⟩
    | 10, _ => ⟨sc10, ck10⟩
    | 11, _ => ⟨sc11, ck11⟩
    | 12, _ => ⟨sc12, ck12⟩
    | 13, _ => ⟨sc13, ck13⟩
    | 14, _ => ⟨sc14, ck14⟩
    | 15, _ => ⟨sc15, ck15⟩
    | 16, _ => ⟨sc16, ck16⟩
    | 17, _ => ⟨sc17, ck17⟩
    | 18, _ => ⟨sc18, ck18⟩
    | 19, _ => ⟨sc19, ck19⟩
    | 20, _ => ⟨sc20, ck20⟩
    | 21, _ => ⟨sc21, ck21⟩
    | 22, _ => ⟨sc22, ck22⟩
    | 23, _ => ⟨sc23, ck23⟩
    | 24, _ => ⟨sc24, ck24⟩
    | 25, _ => ⟨sc25, ck25⟩
    | 26, _ => ⟨sc26, ck26⟩
    | 27, _ => ⟨sc27, ck27⟩
    | 28, _ => ⟨sc28, ck28⟩
    | 29, _ => ⟨sc29, ck29⟩
    | 30, _ => ⟨sc30, ck30⟩
    | f + 31, h => absurd (show f + 31 < 31 from h) (by omega)
  scI := fun c h => match c, h with
    | 0, _ => ⟨si0, ci0, by decide⟩
    | 1, _ => ⟨si1, ci1, by decide⟩
    | c + 2, h => absurd (show c + 2 < 2 from h) (by omega)
  it := fun p hp => nomatch hp
  eq := he
theorem kit_self {K : PySem.W.Frag} {C : Addr} : PySem.W.kitOne K (.ref C) (.ref C) = some true := by unfold PySem.W.kitOne; rw [if_pos (beq_self_eq_true _)]
theorem kit_t {K : PySem.W.Frag} {t : Value} {T : String} {b : Bool} (h : PySem.W.kitMeta T = true) (e : PySem.W.subIn K t (.type T) = some b) (n : (t == .type T) = false) : PySem.W.kitOne K t (.type T) = some b := by unfold PySem.W.kitOne; rw [if_neg (by rw [n]; decide)]; unfold PySem.W.kitCls; dsimp only; rw [if_pos h]; exact e
theorem kit_r {K : PySem.W.Frag} {t : Value} {C : Addr} {b : Bool} (h : PySem.W.hasDictIn K C = true) (h2 : PySem.W.typeIn K (.ref C) = some (.type "type")) (e : PySem.W.subIn K t (.ref C) = some b) (n : (t == .ref C) = false) : PySem.W.kitOne K t (.ref C) = some b := by
  unfold PySem.W.kitOne; rw [if_neg (by rw [n]; decide)]; unfold PySem.W.kitCls; dsimp only
  have h3 : (PySem.W.clsIn K C).isSome = true := by
    unfold PySem.W.hasDictIn at h
    cases hc : PySem.W.clsIn K C with
    | none => rw [hc] at h; cases h
    | some _ => rfl
  rw [if_pos (by rw [h3, h2]; rfl)]; exact e
set_option maxHeartbeats 0 in
theorem kf_mk {K : PySem.W.Frag} {h : Heap} {mg : Str → Option Value} {fa f0 f1 f2 f3 f4 f5 f6 f7 f8 f9 f10 f11 f12 f13 f14 f15 f16 f17 f18 f19 f20 f21 f22 f23 f24 f25 f26 f27 f28 f29 f30 g0 g1 C0 C1 X2 X3 : Addr} (X : K.In h) (G : h.Ns mainGlobals mg) (hfa : mg "law" = some (.ref fa)) (hpk : PKx P)
    {tq0 tq1 tq2 : Tok}
    {od0 an0 od1 an1 od2 an2 od3 an3 od4 an4 od5 an5 od6 an6 od7 an7 od8 an8 od9 an9 od10 an10 od11 an11 od12 an12 od13 an13 od14 an14 od15 an15 od16 an16 od17 an17 od18 an18 od19 an19 od20 an20 od21 an21 od22 an22 od23 an23 od24 an24 od25 an25 od26 an26 od27 an27 od28 an28 od29 an29 od30 an30 odI0 anI0 odI1 anI1 : Option Addr} {sl0 sl1 sl2 sl3 sl4 sl5 sl6 sl7 sl8 sl9 sl10 sl11 sl12 sl13 sl14 sl15 sl16 sl17 sl18 sl19 sl20 sl21 sl22 sl23 sl24 sl25 sl26 sl27 sl28 sl29 sl30 slI0 slI1 : Array (Option Value)} {oc0 kV0 dc0 pm0 cd0 ct0 oc1 kV1 dc1 pm1 cd1 ct1 oc2 kV2 dc2 pm2 cd2 ct2 oc3 kV3 dc3 pm3 cd3 ct3 oc4 kV4 dc4 pm4 cd4 ct4 oc5 kV5 dc5 pm5 cd5 ct5 oc6 kV6 dc6 pm6 cd6 ct6 oc7 kV7 dc7 pm7 cd7 ct7 oc8 kV8 dc8 pm8 cd8 ct8 oc9 kV9 dc9 pm9 cd9 ct9 oc10 kV10 dc10 pm10 cd10 ct10 oc11 kV11 dc11 pm11 cd11 ct11 oc12 kV12 dc12 pm12 cd12 ct12 oc13 kV13 dc13 pm13 cd13 ct13 oc14 kV14 dc14 pm14 cd14 ct14 oc15 kV15 dc15 pm15 cd15 ct15 oc16 kV16 dc16 pm16 cd16 ct16 oc17 kV17 dc17 pm17 cd17 ct17 oc18 kV18 dc18 pm18 cd18 ct18 oc19 kV19 dc19 pm19 cd19 ct19 oc20 kV20 dc20 pm20 cd20 ct20 oc21 kV21 dc21 pm21 cd21 ct21 oc22 kV22 dc22 pm22 cd22 ct22 oc23 kV23 dc23 pm23 cd23 ct23 oc24 kV24 dc24 pm24 cd24 ct24 oc25 kV25 dc25 pm25 cd25 ct25 oc26 kV26 dc26 pm26 cd26 ct26 oc27 kV27 dc27 pm27 cd27 ct27 oc28 kV28 dc28 pm28 cd28 ct28 oc29 kV29 dc29 pm29 cd29 ct29 oc30 kV30 dc30 pm30 cd30 ct30 ocI0 kVI0 dcI0 pmI0 cdI0 ctI0 ocI1 kVI1 dcI1 pmI1 cdI1 ctI1 : Value}
    (aC0 : PySem.W.nsIn K mainGlobals "Quotient" = some (some (.ref C0)))
    (aC1 : PySem.W.nsIn K mainGlobals "ValueReader" = some (some (.ref C1)))
    (a0 : PySem.W.nsIn K mainGlobals "_wall" = some (some (.ref f0)))
    (l0 : K.lookup f0 = some ⟨oc0, od0, .func (PySem.W.fnOf "_wall" "_wall" (defArgs (top 0)) (defBody (top 0)) (defScope (top 0)) .none kV0 dc0 pm0 an0 cd0 ct0), sl0⟩)
    (c0 : PySem.W.codeIn K cd0 "_wall" = true)
    (k0 : PySem.W.keepIn K (.ref f0) = true)
    (a1 : PySem.W.nsIn K mainGlobals "common_part" = some (some (.ref f1)))
    (l1 : K.lookup f1 = some ⟨oc1, od1, .func (PySem.W.fnOf "common_part" "common_part" (defArgs (top 6)) (defBody (top 6)) (defScope (top 6)) .none kV1 dc1 pm1 an1 cd1 ct1), sl1⟩)
    (c1 : PySem.W.codeIn K cd1 "common_part" = true)
    (k1 : PySem.W.keepIn K (.ref f1) = true)
    (a2 : PySem.W.findIn K (.ref C0) "__eq__" = some (some (.ref f2)))
    (i2 : PySem.W.isFn K (.ref f2) = true)
    (l2 : K.lookup f2 = some ⟨oc2, od2, .func (PySem.W.fnOf "__eq__" "Quotient.__eq__" (defArgs (inClass (top 7) 1)) (defBody (inClass (top 7) 1)) (defScope (inClass (top 7) 1)) .none kV2 dc2 pm2 an2 cd2 ct2), sl2⟩)
    (c2 : PySem.W.codeIn K cd2 "Quotient.__eq__" = true)
    (k2 : PySem.W.keepIn K (.ref f2) = true)
    (a3 : PySem.W.findIn K (.ref C0) "__lt__" = some (some (.ref f3)))
    (i3 : PySem.W.isFn K (.ref f3) = true)
    (l3 : K.lookup f3 = some ⟨oc3, od3, .func (PySem.W.fnOf "__lt__" "Quotient.__lt__" (defArgs (inClass (top 7) 2)) (defBody (inClass (top 7) 2)) (defScope (inClass (top 7) 2)) .none kV3 dc3 pm3 an3 cd3 ct3), sl3⟩)
    (c3 : PySem.W.codeIn K cd3 "Quotient.__lt__" = true)
    (k3 : PySem.W.keepIn K (.ref f3) = true)
    (a4 : PySem.W.findIn K (.ref C0) "__le__" = some (some (.ref f4)))
    (i4 : PySem.W.isFn K (.ref f4) = true)
    (l4 : K.lookup f4 = some ⟨oc4, od4, .func (PySem.W.fnOf "__le__" "Quotient.__le__" (defArgs (inClass (top 7) 3)) (defBody (inClass (top 7) 3)) (defScope (inClass (top 7) 3)) .none kV4 dc4 pm4 an4 cd4 ct4), sl4⟩)
    (c4 : PySem.W.codeIn K cd4 "Quotient.__le__" = true)
    (k4 : PySem.W.keepIn K (.ref f4) = true)
    (a5 : PySem.W.findIn K (.ref C0) "__add__" = some (some (.ref f5)))
    (i5 : PySem.W.isFn K (.ref f5) = true)
    (l5 : K.lookup f5 = some ⟨oc5, od5, .func (PySem.W.fnOf "__add__" "Quotient.__add__" (defArgs (inClass (top 7) 4)) (defBody (inClass (top 7) 4)) (defScope (inClass (top 7) 4)) .none kV5 dc5 pm5 an5 cd5 ct5), sl5⟩)
    (c5 : PySem.W.codeIn K cd5 "Quotient.__add__" = true)
    (k5 : PySem.W.keepIn K (.ref f5) = true)
    (a6 : PySem.W.findIn K (.ref C0) "__sub__" = some (some (.ref f6)))
    (i6 : PySem.W.isFn K (.ref f6) = true)
    (l6 : K.lookup f6 = some ⟨oc6, od6, .func (PySem.W.fnOf "__sub__" "Quotient.__sub__" (defArgs (inClass (top 7) 5)) (defBody (inClass (top 7) 5)) (defScope (inClass (top 7) 5)) .none kV6 dc6 pm6 an6 cd6 ct6), sl6⟩)
    (c6 : PySem.W.codeIn K cd6 "Quotient.__sub__" = true)
    (k6 : PySem.W.keepIn K (.ref f6) = true)
    (a7 : PySem.W.findIn K (.ref C0) "__mul__" = some (some (.ref f7)))
    (i7 : PySem.W.isFn K (.ref f7) = true)
    (l7 : K.lookup f7 = some ⟨oc7, od7, .func (PySem.W.fnOf "__mul__" "Quotient.__mul__" (defArgs (inClass (top 7) 6)) (defBody (inClass (top 7) 6)) (defScope (inClass (top 7) 6)) .none kV7 dc7 pm7 an7 cd7 ct7), sl7⟩)
    (c7 : PySem.W.codeIn K cd7 "Quotient.__mul__" = true)
    (k7 : PySem.W.keepIn K (.ref f7) = true)
    (a8 : PySem.W.findIn K (.ref C0) "__neg__" = some (some (.ref f8)))
    (i8 : PySem.W.isFn K (.ref f8) = true)
    (l8 : K.lookup f8 = some ⟨oc8, od8, .func (PySem.W.fnOf "__neg__" "Quotient.__neg__" (defArgs (inClass (top 7) 7)) (defBody (inClass (top 7) 7)) (defScope (inClass (top 7) 7)) .none kV8 dc8 pm8 an8 cd8 ct8), sl8⟩)
    (c8 : PySem.W.codeIn K cd8 "Quotient.__neg__" = true)
    (k8 : PySem.W.keepIn K (.ref f8) = true)
    (a9 : PySem.W.findIn K (.ref C0) "__str__" = some (some (.ref f9)))
    (i9 : PySem.W.isFn K (.ref f9) = true)
    (l9 : K.lookup f9 = some ⟨oc9, od9, .func (PySem.W.fnOf "__str__" "Quotient.__str__" (defArgs (inClass (top 7) 8)) (defBody (inClass (top 7) 8)) (defScope (inClass (top 7) 8)) .none kV9 dc9 pm9 an9 cd9 ct9), sl9⟩)
    (c9 : PySem.W.codeIn K cd9 "Quotient.__str__" = true)
    (k9 : PySem.W.keepIn K (.ref f9) = true)
    (a10 : PySem.W.findIn K (.ref C0) "over" = some (some (.ref f10)))
    (i10 : PySem.W.isFn K (.ref f10) = true)
    (l10 : K.lookup f10 = some ⟨oc10, od10, .func (PySem.W.fnOf "over" "Quotient.over" (defArgs (inClass (top 7) 9)) (defBody (inClass (top 7) 9)) (defScope (inClass (top 7) 9)) .none kV10 dc10 pm10 an10 cd10 ct10), sl10⟩)
    (c10 : PySem.W.codeIn K cd10 "Quotient.over" = true)
    (k10 : PySem.W.keepIn K (.ref f10) = true)
    (a11 : PySem.W.findIn K (.ref C1) "char" = some (some (.ref f11)))
    (i11 : PySem.W.isFn K (.ref f11) = true)
    (l11 : K.lookup f11 = some ⟨oc11, od11, .func (PySem.W.fnOf "char" "ValueReader.char" (defArgs (inClass (top 12) 1)) (defBody (inClass (top 12) 1)) (defScope (inClass (top 12) 1)) .none kV11 dc11 pm11 an11 cd11 ct11), sl11⟩)
    (c11 : PySem.W.codeIn K cd11 "ValueReader.char" = true)
    (k11 : PySem.W.keepIn K (.ref f11) = true)
    (a12 : PySem.W.findIn K (.ref C1) "at_digit" = some (some (.ref f12)))
    (i12 : PySem.W.isFn K (.ref f12) = true)
    (l12 : K.lookup f12 = some ⟨oc12, od12, .func (PySem.W.fnOf "at_digit" "ValueReader.at_digit" (defArgs (inClass (top 12) 2)) (defBody (inClass (top 12) 2)) (defScope (inClass (top 12) 2)) .none kV12 dc12 pm12 an12 cd12 ct12), sl12⟩)
    (c12 : PySem.W.codeIn K cd12 "ValueReader.at_digit" = true)
    (k12 : PySem.W.keepIn K (.ref f12) = true)
    (a13 : PySem.W.findIn K (.ref C1) "fail" = some (some (.ref f13)))
    (i13 : PySem.W.isFn K (.ref f13) = true)
    (l13 : K.lookup f13 = some ⟨oc13, od13, .func (PySem.W.fnOf "fail" "ValueReader.fail" (defArgs (inClass (top 12) 3)) (defBody (inClass (top 12) 3)) (defScope (inClass (top 12) 3)) .none kV13 dc13 pm13 an13 cd13 ct13), sl13⟩)
    (c13 : PySem.W.codeIn K cd13 "ValueReader.fail" = true)
    (k13 : PySem.W.keepIn K (.ref f13) = true)
    (a14 : PySem.W.findIn K (.ref C1) "skip_spaces" = some (some (.ref f14)))
    (i14 : PySem.W.isFn K (.ref f14) = true)
    (l14 : K.lookup f14 = some ⟨oc14, od14, .func (PySem.W.fnOf "skip_spaces" "ValueReader.skip_spaces" (defArgs (inClass (top 12) 4)) (defBody (inClass (top 12) 4)) (defScope (inClass (top 12) 4)) .none kV14 dc14 pm14 an14 cd14 ct14), sl14⟩)
    (c14 : PySem.W.codeIn K cd14 "ValueReader.skip_spaces" = true)
    (k14 : PySem.W.keepIn K (.ref f14) = true)
    (a15 : PySem.W.findIn K (.ref C1) "take_top" = some (some (.ref f15)))
    (i15 : PySem.W.isFn K (.ref f15) = true)
    (l15 : K.lookup f15 = some ⟨oc15, od15, .func (PySem.W.fnOf "take_top" "ValueReader.take_top" (defArgs (inClass (top 12) 5)) (defBody (inClass (top 12) 5)) (defScope (inClass (top 12) 5)) .none kV15 dc15 pm15 an15 cd15 ct15), sl15⟩)
    (c15 : PySem.W.codeIn K cd15 "ValueReader.take_top" = true)
    (k15 : PySem.W.keepIn K (.ref f15) = true)
    (a16 : PySem.W.findIn K (.ref C1) "take_bottom" = some (some (.ref f16)))
    (i16 : PySem.W.isFn K (.ref f16) = true)
    (l16 : K.lookup f16 = some ⟨oc16, od16, .func (PySem.W.fnOf "take_bottom" "ValueReader.take_bottom" (defArgs (inClass (top 12) 6)) (defBody (inClass (top 12) 6)) (defScope (inClass (top 12) 6)) .none kV16 dc16 pm16 an16 cd16 ct16), sl16⟩)
    (c16 : PySem.W.codeIn K cd16 "ValueReader.take_bottom" = true)
    (k16 : PySem.W.keepIn K (.ref f16) = true)
    (a17 : PySem.W.findIn K (.ref C1) "take_value" = some (some (.ref f17)))
    (i17 : PySem.W.isFn K (.ref f17) = true)
    (l17 : K.lookup f17 = some ⟨oc17, od17, .func (PySem.W.fnOf "take_value" "ValueReader.take_value" (defArgs (inClass (top 12) 7)) (defBody (inClass (top 12) 7)) (defScope (inClass (top 12) 7)) .none kV17 dc17 pm17 an17 cd17 ct17), sl17⟩)
    (c17 : PySem.W.codeIn K cd17 "ValueReader.take_value" = true)
    (k17 : PySem.W.keepIn K (.ref f17) = true)
    (a18 : PySem.W.nsIn K mainGlobals "greatest_number" = some (some (.ref f18)))
    (l18 : K.lookup f18 = some ⟨oc18, od18, .func (PySem.W.fnOf "greatest_number" "greatest_number" (defArgs (top 13)) (defBody (top 13)) (defScope (top 13)) .none kV18 dc18 pm18 an18 cd18 ct18), sl18⟩)
    (c18 : PySem.W.codeIn K cd18 "greatest_number" = true)
    (k18 : PySem.W.keepIn K (.ref f18) = true)
    (a19 : PySem.W.nsIn K mainGlobals "parse_reflectance" = some (some (.ref f19)))
    (l19 : K.lookup f19 = some ⟨oc19, od19, .func (PySem.W.fnOf "parse_reflectance" "parse_reflectance" (defArgs (top 14)) (defBody (top 14)) (defScope (top 14)) .none kV19 dc19 pm19 an19 cd19 ct19), sl19⟩)
    (c19 : PySem.W.codeIn K cd19 "parse_reflectance" = true)
    (k19 : PySem.W.keepIn K (.ref f19) = true)
    (a20 : PySem.W.nsIn K mainGlobals "format_reflectance" = some (some (.ref f20)))
    (l20 : K.lookup f20 = some ⟨oc20, od20, .func (PySem.W.fnOf "format_reflectance" "format_reflectance" (defArgs (top 15)) (defBody (top 15)) (defScope (top 15)) .none kV20 dc20 pm20 an20 cd20 ct20), sl20⟩)
    (c20 : PySem.W.codeIn K cd20 "format_reflectance" = true)
    (k20 : PySem.W.keepIn K (.ref f20) = true)
    (a21 : PySem.W.nsIn K mainGlobals "_law_cell" = some (some (.ref f21)))
    (l21 : K.lookup f21 = some ⟨oc21, od21, .func (PySem.W.fnOf "_law_cell" "_law_cell" (defArgs (top 17)) (defBody (top 17)) (defScope (top 17)) .none kV21 dc21 pm21 an21 cd21 ct21), sl21⟩)
    (c21 : PySem.W.codeIn K cd21 "_law_cell" = true)
    (k21 : PySem.W.keepIn K (.ref f21) = true)
    (a22 : PySem.W.nsIn K mainGlobals "_law_draws" = some (some (.ref f22)))
    (l22 : K.lookup f22 = some ⟨oc22, od22, .func (PySem.W.fnOf "_law_draws" "_law_draws" (defArgs (top 18)) (defBody (top 18)) (defScope (top 18)) .none kV22 dc22 pm22 an22 cd22 ct22), sl22⟩)
    (c22 : PySem.W.codeIn K cd22 "_law_draws" = true)
    (k22 : PySem.W.keepIn K (.ref f22) = true)
    (a23 : PySem.W.nsIn K mainGlobals "_law_stream" = some (some (.ref f23)))
    (l23 : K.lookup f23 = some ⟨oc23, od23, .func (PySem.W.fnOf "_law_stream" "_law_stream" (defArgs (top 19)) (defBody (top 19)) (defScope (top 19)) .none kV23 dc23 pm23 an23 cd23 ct23), sl23⟩)
    (c23 : PySem.W.codeIn K cd23 "_law_stream" = true)
    (k23 : PySem.W.keepIn K (.ref f23) = true)
    (a24 : PySem.W.nsIn K mainGlobals "_law_next" = some (some (.ref f24)))
    (l24 : K.lookup f24 = some ⟨oc24, od24, .func (PySem.W.fnOf "_law_next" "_law_next" (defArgs (top 20)) (defBody (top 20)) (defScope (top 20)) .none kV24 dc24 pm24 an24 cd24 ct24), sl24⟩)
    (c24 : PySem.W.codeIn K cd24 "_law_next" = true)
    (k24 : PySem.W.keepIn K (.ref f24) = true)
    (a25 : PySem.W.nsIn K mainGlobals "_law_part" = some (some (.ref f25)))
    (l25 : K.lookup f25 = some ⟨oc25, od25, .func (PySem.W.fnOf "_law_part" "_law_part" (defArgs (top 21)) (defBody (top 21)) (defScope (top 21)) .none kV25 dc25 pm25 an25 cd25 ct25), sl25⟩)
    (c25 : PySem.W.codeIn K cd25 "_law_part" = true)
    (k25 : PySem.W.keepIn K (.ref f25) = true)
    (a26 : PySem.W.nsIn K mainGlobals "_law_least" = some (some (.ref f26)))
    (l26 : K.lookup f26 = some ⟨oc26, od26, .func (PySem.W.fnOf "_law_least" "_law_least" (defArgs (top 22)) (defBody (top 22)) (defScope (top 22)) .none kV26 dc26 pm26 an26 cd26 ct26), sl26⟩)
    (c26 : PySem.W.codeIn K cd26 "_law_least" = true)
    (k26 : PySem.W.keepIn K (.ref f26) = true)
    (a27 : PySem.W.nsIn K mainGlobals "_law_is_integer" = some (some (.ref f27)))
    (l27 : K.lookup f27 = some ⟨oc27, od27, .func (PySem.W.fnOf "_law_is_integer" "_law_is_integer" (defArgs (top 23)) (defBody (top 23)) (defScope (top 23)) .none kV27 dc27 pm27 an27 cd27 ct27), sl27⟩)
    (c27 : PySem.W.codeIn K cd27 "_law_is_integer" = true)
    (k27 : PySem.W.keepIn K (.ref f27) = true)
    (a28 : PySem.W.nsIn K mainGlobals "_law_same" = some (some (.ref f28)))
    (l28 : K.lookup f28 = some ⟨oc28, od28, .func (PySem.W.fnOf "_law_same" "_law_same" (defArgs (top 24)) (defBody (top 24)) (defScope (top 24)) .none kV28 dc28 pm28 an28 cd28 ct28), sl28⟩)
    (c28 : PySem.W.codeIn K cd28 "_law_same" = true)
    (k28 : PySem.W.keepIn K (.ref f28) = true)
    (a29 : PySem.W.nsIn K mainGlobals "_law_written" = some (some (.ref f29)))
    (l29 : K.lookup f29 = some ⟨oc29, od29, .func (PySem.W.fnOf "_law_written" "_law_written" (defArgs (top 25)) (defBody (top 25)) (defScope (top 25)) .none kV29 dc29 pm29 an29 cd29 ct29), sl29⟩)
    (c29 : PySem.W.codeIn K cd29 "_law_written" = true)
    (k29 : PySem.W.keepIn K (.ref f29) = true)
    (a30 : PySem.W.nsIn K mainGlobals "law" = some (some (.ref f30)))
    (l30 : K.lookup f30 = some ⟨oc30, od30, .func (PySem.W.fnOf "law" "law" (defArgs (top 26)) (defBody (top 26)) (defScope (top 26)) .none kV30 dc30 pm30 an30 cd30 ct30), sl30⟩)
    (c30 : PySem.W.codeIn K cd30 "law" = true)
    (k30 : PySem.W.keepIn K (.ref f30) = true)
    (ai0 : PySem.W.findIn K (.ref C0) "__init__" = some (some (.ref g0)))
    (ii0 : PySem.W.isFn K (.ref g0) = true)
    (lI0 : K.lookup g0 = some ⟨ocI0, odI0, .func (PySem.W.fnOf "__init__" "Quotient.__init__" (defArgs (inClass (top 7) 0)) (defBody (inClass (top 7) 0)) (defScope (inClass (top 7) 0)) .none kVI0 dcI0 pmI0 anI0 cdI0 ctI0), slI0⟩)
    (cI0 : PySem.W.codeIn K cdI0 "Quotient.__init__" = true)
    (kI0 : PySem.W.keepIn K (.ref g0) = true)
    (pg0 : PySem.W.plainGet K C0 Str.empty = true)
    (hd0 : PySem.W.hasDictIn K C0 = true)
    (po0 : PySem.W.plainOver K C0 = true)
    (sa0 : PySem.W.findIn K (.ref C0) "__setattr__" = some (some (.builtin "object.__setattr__")))
    (mk0 : PySem.W.makesIn K C0 = true)
    (kc0 : PySem.W.keepIn K (.ref C0) = true)
    (n0_0 : PySem.W.findIn K (.ref C0) "top" = some none)
    (n0_1 : PySem.W.findIn K (.ref C0) "bottom" = some none)
    (kt0_int : PySem.W.subIn K (.ref C0) (.type "int") = some false)
    (kt0_bool : PySem.W.subIn K (.ref C0) (.type "bool") = some false)
    (kt0_str : PySem.W.subIn K (.ref C0) (.type "str") = some false)
    (kt0_tuple : PySem.W.subIn K (.ref C0) (.type "tuple") = some false)
    (kt0_list : PySem.W.subIn K (.ref C0) (.type "list") = some false)
    (tC0 : PySem.W.typeIn K (.ref C0) = some (.type "type"))
    (kk0_1 : PySem.W.subIn K (.ref C0) (.ref C1) = some false)
    (ne0_1 : ((Value.ref C0) == (Value.ref C1)) = false)
    (kb0_NoneType : PySem.W.subIn K (.type "NoneType") (.ref C0) = some false)
    (kb0_int : PySem.W.subIn K (.type "int") (.ref C0) = some false)
    (kb0_bool : PySem.W.subIn K (.type "bool") (.ref C0) = some false)
    (kb0_str : PySem.W.subIn K (.type "str") (.ref C0) = some false)
    (kb0_tuple : PySem.W.subIn K (.type "tuple") (.ref C0) = some false)
    (kb0_list : PySem.W.subIn K (.type "list") (.ref C0) = some false)
    (cA0 : PySem.W.findIn K (.ref C0) "__class__" = some (some (.builtin "object.__class__")))
    (cM0 : PySem.W.mroIn K C0 (.type "object") = some true)
    (ai1 : PySem.W.findIn K (.ref C1) "__init__" = some (some (.ref g1)))
    (ii1 : PySem.W.isFn K (.ref g1) = true)
    (lI1 : K.lookup g1 = some ⟨ocI1, odI1, .func (PySem.W.fnOf "__init__" "ValueReader.__init__" (defArgs (inClass (top 12) 0)) (defBody (inClass (top 12) 0)) (defScope (inClass (top 12) 0)) .none kVI1 dcI1 pmI1 anI1 cdI1 ctI1), slI1⟩)
    (cI1 : PySem.W.codeIn K cdI1 "ValueReader.__init__" = true)
    (kI1 : PySem.W.keepIn K (.ref g1) = true)
    (pg1 : PySem.W.plainGet K C1 Str.empty = true)
    (hd1 : PySem.W.hasDictIn K C1 = true)
    (po1 : PySem.W.plainOver K C1 = true)
    (sa1 : PySem.W.findIn K (.ref C1) "__setattr__" = some (some (.builtin "object.__setattr__")))
    (mk1 : PySem.W.makesIn K C1 = true)
    (kc1 : PySem.W.keepIn K (.ref C1) = true)
    (n1_0 : PySem.W.findIn K (.ref C1) "text" = some none)
    (n1_1 : PySem.W.findIn K (.ref C1) "place" = some none)
    (kt1_int : PySem.W.subIn K (.ref C1) (.type "int") = some false)
    (kt1_bool : PySem.W.subIn K (.ref C1) (.type "bool") = some false)
    (kt1_str : PySem.W.subIn K (.ref C1) (.type "str") = some false)
    (kt1_tuple : PySem.W.subIn K (.ref C1) (.type "tuple") = some false)
    (kt1_list : PySem.W.subIn K (.ref C1) (.type "list") = some false)
    (tC1 : PySem.W.typeIn K (.ref C1) = some (.type "type"))
    (kk1_0 : PySem.W.subIn K (.ref C1) (.ref C0) = some false)
    (ne1_0 : ((Value.ref C1) == (Value.ref C0)) = false)
    (kb1_NoneType : PySem.W.subIn K (.type "NoneType") (.ref C1) = some false)
    (kb1_int : PySem.W.subIn K (.type "int") (.ref C1) = some false)
    (kb1_bool : PySem.W.subIn K (.type "bool") (.ref C1) = some false)
    (kb1_str : PySem.W.subIn K (.type "str") (.ref C1) = some false)
    (kb1_tuple : PySem.W.subIn K (.type "tuple") (.ref C1) = some false)
    (kb1_list : PySem.W.subIn K (.type "list") (.ref C1) = some false)
    (cA1 : PySem.W.findIn K (.ref C1) "__class__" = some (some (.builtin "object.__class__")))
    (cM1 : PySem.W.mroIn K C1 (.type "object") = some true)
    (cG : PySem.W.specialIn K (.builtin "object.__class__") "__get__" = some (some (.builtin "getset_descriptor.__get__")))
    (cT : PySem.W.takesIn K (.builtin "object.__class__") = some true)
    (qm : PySem.W.selfFirst K C0 = true)
    (qob : PySem.W.subIn K (.ref C0) (.type "object") = some true)
    (qne : PySem.W.findIn K (.ref C0) "__ne__" = some (some (.builtin "object.__ne__")))
    (qn_NoneType : PySem.W.subIn K (.type "NoneType") (.ref C0) = some false)
    (qn_int : PySem.W.subIn K (.type "int") (.ref C0) = some false)
    (qn_bool : PySem.W.subIn K (.type "bool") (.ref C0) = some false)
    (qn_str : PySem.W.subIn K (.type "str") (.ref C0) = some false)
    (qn_tuple : PySem.W.subIn K (.type "tuple") (.ref C0) = some false)
    (qn_list : PySem.W.subIn K (.type "list") (.ref C0) = some false)
    (kt0_NoneType : PySem.W.subIn K (.ref C0) (.type "NoneType") = some false)
    (q0 : PySem.W.nsIn K mainGlobals "DIGITS" = some (some (.str "0123456789" tq0)))
    (q1 : PySem.W.nsIn K mainGlobals "MOST_DIGITS" = some (some (.int 4 tq1)))
    (q2 : PySem.W.nsIn K mainGlobals "MOST_VALUES" = some (some (.int 8 tq2)))
    (z_len : PySem.W.nsIn K mainGlobals "len" = some none)
    (z_abs : PySem.W.nsIn K mainGlobals "abs" = some none)
    (z_int : PySem.W.nsIn K mainGlobals "int" = some none)
    (z_str : PySem.W.nsIn K mainGlobals "str" = some none)
    (z_tuple : PySem.W.nsIn K mainGlobals "tuple" = some none)
    (z_list : PySem.W.nsIn K mainGlobals "list" = some none)
    (z_sum : PySem.W.nsIn K mainGlobals "sum" = some none)
    (z_all : PySem.W.nsIn K mainGlobals "all" = some none)
    (z_any : PySem.W.nsIn K mainGlobals "any" = some none)
    (z_min : PySem.W.nsIn K mainGlobals "min" = some none)
    (z_max : PySem.W.nsIn K mainGlobals "max" = some none)
    (z_isinstance : PySem.W.nsIn K mainGlobals "isinstance" = some none)
    (z_range : PySem.W.nsIn K mainGlobals "range" = some none)
    (z_enumerate : PySem.W.nsIn K mainGlobals "enumerate" = some none)
    (z_zip : PySem.W.nsIn K mainGlobals "zip" = some none)
    (z_bool : PySem.W.nsIn K mainGlobals "bool" = some none)
    (xa2 : PySem.W.nsIn K mainGlobals "ColorError" = some (some (.ref X2)))
    (xq2 : PySem.W.excIn K X2 [.type "ValueError", .type "Exception", .type "BaseException", .type "object"] "ValueError.__new__" = true)
    (xk2 : PySem.W.keepIn K (.ref X2) = true)
    (xs2 : PySem.W.subIn K (.ref X2) (.type "BaseException") = some true)
    (xt2 : PySem.W.typeIn K (.ref X2) = some (.type "type"))
    (xa3 : PySem.W.nsIn K mainGlobals "BadQuotient" = some (some (.ref X3)))
    (xq3 : PySem.W.excIn K X3 [.type "ValueError", .type "Exception", .type "BaseException", .type "object"] "ValueError.__new__" = true)
    (xk3 : PySem.W.keepIn K (.ref X3) = true)
    (xs3 : PySem.W.subIn K (.ref X3) (.type "BaseException") = some true)
    (xt3 : PySem.W.typeIn K (.ref X3) = some (.type "type"))
    : ∃ a : AD, a.K = K ∧ KF P a mg ∧ PKx P ∧ a.fad 30 = fa ∧ ∀ (s : Shared) (u : Value), BindsTo s (a.fdt 30) ⟨[u], []⟩ [("_law_script", u)] := by
  have e := hfa.symm.trans (PySem.W.mg_of X G a30)
  cases e
  refine ⟨⟨K, (fun n => match n with | 0 => C0 | 1 => C1 | 2 => X2 | 3 => X3 | 4 => 0 | _ => 0), (fun n => match n with | 0 => f0 | 1 => f1 | 2 => f2 | 3 => f3 | 4 => f4 | 5 => f5 | 6 => f6 | 7 => f7 | 8 => f8 | 9 => f9 | 10 => f10 | 11 => f11 | 12 => f12 | 13 => f13 | 14 => f14 | 15 => f15 | 16 => f16 | 17 => f17 | 18 => f18 | 19 => f19 | 20 => f20 | 21 => f21 | 22 => f22 | 23 => f23 | 24 => f24 | 25 => f25 | 26 => f26 | 27 => f27 | 28 => f28 | 29 => f29 | 30 => fa | _ => 0), (fun n => match n with | 0 => PySem.W.fnOf "_wall" "_wall" (defArgs (top 0)) (defBody (top 0)) (defScope (top 0)) .none kV0 dc0 pm0 an0 cd0 ct0 | 1 => PySem.W.fnOf "common_part" "common_part" (defArgs (top 6)) (defBody (top 6)) (defScope (top 6)) .none kV1 dc1 pm1 an1 cd1 ct1 | 2 => PySem.W.fnOf "__eq__" "Quotient.__eq__" (defArgs (inClass (top 7) 1)) (defBody (inClass (top 7) 1)) (defScope (inClass (top 7) 1)) .none kV2 dc2 pm2 an2 cd2 ct2 | 3 => PySem.W.fnOf "__lt__" "Quotient.__lt__" (defArgs (inClass (top 7) 2)) (defBody (inClass (top 7) 2)) (defScope (inClass (top 7) 2)) .none kV3 dc3 pm3 an3 cd3 ct3 | 4 => PySem.W.fnOf "__le__" "Quotient.__le__" (defArgs (inClass (top 7) 3)) (defBody (inClass (top 7) 3)) (defScope (inClass (top 7) 3)) .none kV4 dc4 pm4 an4 cd4 ct4 | 5 => PySem.W.fnOf "__add__" "Quotient.__add__" (defArgs (inClass (top 7) 4)) (defBody (inClass (top 7) 4)) (defScope (inClass (top 7) 4)) .none kV5 dc5 pm5 an5 cd5 ct5 | 6 => PySem.W.fnOf "__sub__" "Quotient.__sub__" (defArgs (inClass (top 7) 5)) (defBody (inClass (top 7) 5)) (defScope (inClass (top 7) 5)) .none kV6 dc6 pm6 an6 cd6 ct6 | 7 => PySem.W.fnOf "__mul__" "Quotient.__mul__" (defArgs (inClass (top 7) 6)) (defBody (inClass (top 7) 6)) (defScope (inClass (top 7) 6)) .none kV7 dc7 pm7 an7 cd7 ct7 | 8 => PySem.W.fnOf "__neg__" "Quotient.__neg__" (defArgs (inClass (top 7) 7)) (defBody (inClass (top 7) 7)) (defScope (inClass (top 7) 7)) .none kV8 dc8 pm8 an8 cd8 ct8 | 9 => PySem.W.fnOf "__str__" "Quotient.__str__" (defArgs (inClass (top 7) 8)) (defBody (inClass (top 7) 8)) (defScope (inClass (top 7) 8)) .none kV9 dc9 pm9 an9 cd9 ct9 | 10 => PySem.W.fnOf "over" "Quotient.over" (defArgs (inClass (top 7) 9)) (defBody (inClass (top 7) 9)) (defScope (inClass (top 7) 9)) .none kV10 dc10 pm10 an10 cd10 ct10 | 11 => PySem.W.fnOf "char" "ValueReader.char" (defArgs (inClass (top 12) 1)) (defBody (inClass (top 12) 1)) (defScope (inClass (top 12) 1)) .none kV11 dc11 pm11 an11 cd11 ct11 | 12 => PySem.W.fnOf "at_digit" "ValueReader.at_digit" (defArgs (inClass (top 12) 2)) (defBody (inClass (top 12) 2)) (defScope (inClass (top 12) 2)) .none kV12 dc12 pm12 an12 cd12 ct12 | 13 => PySem.W.fnOf "fail" "ValueReader.fail" (defArgs (inClass (top 12) 3)) (defBody (inClass (top 12) 3)) (defScope (inClass (top 12) 3)) .none kV13 dc13 pm13 an13 cd13 ct13 | 14 => PySem.W.fnOf "skip_spaces" "ValueReader.skip_spaces" (defArgs (inClass (top 12) 4)) (defBody (inClass (top 12) 4)) (defScope (inClass (top 12) 4)) .none kV14 dc14 pm14 an14 cd14 ct14 | 15 => PySem.W.fnOf "take_top" "ValueReader.take_top" (defArgs (inClass (top 12) 5)) (defBody (inClass (top 12) 5)) (defScope (inClass (top 12) 5)) .none kV15 dc15 pm15 an15 cd15 ct15 | 16 => PySem.W.fnOf "take_bottom" "ValueReader.take_bottom" (defArgs (inClass (top 12) 6)) (defBody (inClass (top 12) 6)) (defScope (inClass (top 12) 6)) .none kV16 dc16 pm16 an16 cd16 ct16 | 17 => PySem.W.fnOf "take_value" "ValueReader.take_value" (defArgs (inClass (top 12) 7)) (defBody (inClass (top 12) 7)) (defScope (inClass (top 12) 7)) .none kV17 dc17 pm17 an17 cd17 ct17 | 18 => PySem.W.fnOf "greatest_number" "greatest_number" (defArgs (top 13)) (defBody (top 13)) (defScope (top 13)) .none kV18 dc18 pm18 an18 cd18 ct18 | 19 => PySem.W.fnOf "parse_reflectance" "parse_reflectance" (defArgs (top 14)) (defBody (top 14)) (defScope (top 14)) .none kV19 dc19 pm19 an19 cd19 ct19 | 20 => PySem.W.fnOf "format_reflectance" "format_reflectance" (defArgs (top 15)) (defBody (top 15)) (defScope (top 15)) .none kV20 dc20 pm20 an20 cd20 ct20 | 21 => PySem.W.fnOf "_law_cell" "_law_cell" (defArgs (top 17)) (defBody (top 17)) (defScope (top 17)) .none kV21 dc21 pm21 an21 cd21 ct21 | 22 => PySem.W.fnOf "_law_draws" "_law_draws" (defArgs (top 18)) (defBody (top 18)) (defScope (top 18)) .none kV22 dc22 pm22 an22 cd22 ct22 | 23 => PySem.W.fnOf "_law_stream" "_law_stream" (defArgs (top 19)) (defBody (top 19)) (defScope (top 19)) .none kV23 dc23 pm23 an23 cd23 ct23 | 24 => PySem.W.fnOf "_law_next" "_law_next" (defArgs (top 20)) (defBody (top 20)) (defScope (top 20)) .none kV24 dc24 pm24 an24 cd24 ct24 | 25 => PySem.W.fnOf "_law_part" "_law_part" (defArgs (top 21)) (defBody (top 21)) (defScope (top 21)) .none kV25 dc25 pm25 an25 cd25 ct25 | 26 => PySem.W.fnOf "_law_least" "_law_least" (defArgs (top 22)) (defBody (top 22)) (defScope (top 22)) .none kV26 dc26 pm26 an26 cd26 ct26 | 27 => PySem.W.fnOf "_law_is_integer" "_law_is_integer" (defArgs (top 23)) (defBody (top 23)) (defScope (top 23)) .none kV27 dc27 pm27 an27 cd27 ct27 | 28 => PySem.W.fnOf "_law_same" "_law_same" (defArgs (top 24)) (defBody (top 24)) (defScope (top 24)) .none kV28 dc28 pm28 an28 cd28 ct28 | 29 => PySem.W.fnOf "_law_written" "_law_written" (defArgs (top 25)) (defBody (top 25)) (defScope (top 25)) .none kV29 dc29 pm29 an29 cd29 ct29 | 30 => PySem.W.fnOf "law" "law" (defArgs (top 26)) (defBody (top 26)) (defScope (top 26)) .none kV30 dc30 pm30 an30 cd30 ct30 | _ => PySem.W.fnOf "_wall" "_wall" (defArgs (top 0)) (defBody (top 0)) (defScope (top 0)) .none kV0 dc0 pm0 an0 cd0 ct0), (fun n => match n with | 0 => g0 | 1 => g1 | _ => 0), (fun n => match n with | 0 => PySem.W.fnOf "__init__" "Quotient.__init__" (defArgs (inClass (top 7) 0)) (defBody (inClass (top 7) 0)) (defScope (inClass (top 7) 0)) .none kVI0 dcI0 pmI0 anI0 cdI0 ctI0 | 1 => PySem.W.fnOf "__init__" "ValueReader.__init__" (defArgs (inClass (top 12) 0)) (defBody (inClass (top 12) 0)) (defScope (inClass (top 12) 0)) .none kVI1 dcI1 pmI1 anI1 cdI1 ctI1 | _ => PySem.W.fnOf "__init__" "Quotient.__init__" (defArgs (inClass (top 7) 0)) (defBody (inClass (top 7) 0)) (defScope (inClass (top 7) 0)) .none kVI0 dcI0 pmI0 anI0 cdI0 ctI0)⟩, rfl, ?_, hpk, rfl, fun s u => .of_eq rfl⟩
  constructor
  · exact fun f h => match f, h with
    | 0, _ => fun_mk l0 c0 k0
    | 1, _ => fun_mk l1 c1 k1
    | 2, _ => fun_mk l2 c2 k2
    | 3, _ => fun_mk l3 c3 k3
    | 4, _ => fun_mk l4 c4 k4
    | 5, _ => fun_mk l5 c5 k5
    | 6, _ => fun_mk l6 c6 k6
    | 7, _ => fun_mk l7 c7 k7
    | 8, _ => fun_mk l8 c8 k8
    | 9, _ => fun_mk l9 c9 k9
    | 10, _ => fun_mk l10 c10 k10
    | 11, _ => fun_mk l11 c11 k11
    | 12, _ => fun_mk l12 c12 k12
    | 13, _ => fun_mk l13 c13 k13
    | 14, _ => fun_mk l14 c14 k14
    | 15, _ => fun_mk l15 c15 k15
    | 16, _ => fun_mk l16 c16 k16
    | 17, _ => fun_mk l17 c17 k17
    | 18, _ => fun_mk l18 c18 k18
    | 19, _ => fun_mk l19 c19 k19
    | 20, _ => fun_mk l20 c20 k20
    | 21, _ => fun_mk l21 c21 k21
    | 22, _ => fun_mk l22 c22 k22
    | 23, _ => fun_mk l23 c23 k23
    | 24, _ => fun_mk l24 c24 k24
    | 25, _ => fun_mk l25 c25 k25
    | 26, _ => fun_mk l26 c26 k26
    | 27, _ => fun_mk l27 c27 k27
    | 28, _ => fun_mk l28 c28 k28
    | 29, _ => fun_mk l29 c29 k29
    | 30, _ => fun_mk l30 c30 k30
    | f + 31, h => absurd (show f + 31 < 31 from h) (by omega)
  · exact fun f h => match f, h with
    | 0, _ => (fun_mk l0 c0 k0).binds (ps := fps 0) (fun _ _ _ _ _ _ us hl => match us, hl with | [_], _ => rfl)
    | 1, _ => (fun_mk l1 c1 k1).binds (ps := fps 1) (fun _ _ _ _ _ _ us hl => match us, hl with | [_, _], _ => rfl)
    | 2, _ => (fun_mk l2 c2 k2).binds (ps := fps 2) (fun _ _ _ _ _ _ us hl => match us, hl with | [_, _], _ => rfl)
    | 3, _ => (fun_mk l3 c3 k3).binds (ps := fps 3) (fun _ _ _ _ _ _ us hl => match us, hl with | [_, _], _ => rfl)
    | 4, _ => (fun_mk l4 c4 k4).binds (ps := fps 4) (fun _ _ _ _ _ _ us hl => match us, hl with | [_, _], _ => rfl)
    | 5, _ => (fun_mk l5 c5 k5).binds (ps := fps 5) (fun _ _ _ _ _ _ us hl => match us, hl with | [_, _], _ => rfl)
    | 6, _ => (fun_mk l6 c6 k6).binds (ps := fps 6) (fun _ _ _ _ _ _ us hl => match us, hl with | [_, _], _ => rfl)
    | 7, _ => (fun_mk l7 c7 k7).binds (ps := fps 7) (fun _ _ _ _ _ _ us hl => match us, hl with | [_, _], _ => rfl)
    | 8, _ => (fun_mk l8 c8 k8).binds (ps := fps 8) (fun _ _ _ _ _ _ us hl => match us, hl with | [_], _ => rfl)
    | 9, _ => (fun_mk l9 c9 k9).binds (ps := fps 9) (fun _ _ _ _ _ _ us hl => match us, hl with | [_], _ => rfl)
    | 10, _ => (fun_mk l10 c10 k10).binds (ps := fps 10) (fun _ _ _ _ _ _ us hl => match us, hl with | [_, _], _ => rfl)
    | 11, _ => (fun_mk l11 c11 k11).binds (ps := fps 11) (fun _ _ _ _ _ _ us hl => match us, hl with | [_], _ => rfl)
    | 12, _ => (fun_mk l12 c12 k12).binds (ps := fps 12) (fun _ _ _ _ _ _ us hl => match us, hl with | [_], _ => rfl)
    | 13, _ => (fun_mk l13 c13 k13).binds (ps := fps 13) (fun _ _ _ _ _ _ us hl => match us, hl with | [_], _ => rfl)
    | 14, _ => (fun_mk l14 c14 k14).binds (ps := fps 14) (fun _ _ _ _ _ _ us hl => match us, hl with | [_], _ => rfl)
    | 15, _ => (fun_mk l15 c15 k15).binds (ps := fps 15) (fun _ _ _ _ _ _ us hl => match us, hl with | [_], _ => rfl)
    | 16, _ => (fun_mk l16 c16 k16).binds (ps := fps 16) (fun _ _ _ _ _ _ us hl => match us, hl with | [_, _], _ => rfl)
    | 17, _ => (fun_mk l17 c17 k17).binds (ps := fps 17) (fun _ _ _ _ _ _ us hl => match us, hl with | [_], _ => rfl)
    | 18, _ => (fun_mk l18 c18 k18).binds (ps := fps 18) (fun _ _ _ _ _ _ us hl => match us, hl with | [_], _ => rfl)
    | 19, _ => (fun_mk l19 c19 k19).binds (ps := fps 19) (fun _ _ _ _ _ _ us hl => match us, hl with | [_], _ => rfl)
    | 20, _ => (fun_mk l20 c20 k20).binds (ps := fps 20) (fun _ _ _ _ _ _ us hl => match us, hl with | [_], _ => rfl)
    | 21, _ => (fun_mk l21 c21 k21).binds (ps := fps 21) (fun _ _ _ _ _ _ us hl => match us, hl with | [_, _], _ => rfl)
    | 22, _ => (fun_mk l22 c22 k22).binds (ps := fps 22) (fun _ _ _ _ _ _ us hl => match us, hl with | [_, _], _ => rfl)
    | 23, _ => (fun_mk l23 c23 k23).binds (ps := fps 23) (fun _ _ _ _ _ _ us hl => match us, hl with | [_, _, _], _ => rfl)
    | 24, _ => (fun_mk l24 c24 k24).binds (ps := fps 24) (fun _ _ _ _ _ _ us hl => match us, hl with | [_, _], _ => rfl)
    | 25, _ => (fun_mk l25 c25 k25).binds (ps := fps 25) (fun _ _ _ _ _ _ us hl => match us, hl with | [_, _], _ => rfl)
    | 26, _ => (fun_mk l26 c26 k26).binds (ps := fps 26) (fun _ _ _ _ _ _ us hl => match us, hl with | [_, _], _ => rfl)
    | 27, _ => (fun_mk l27 c27 k27).binds (ps := fps 27) (fun _ _ _ _ _ _ us hl => match us, hl with | [_], _ => rfl)
    | 28, _ => (fun_mk l28 c28 k28).binds (ps := fps 28) (fun _ _ _ _ _ _ us hl => match us, hl with | [_, _], _ => rfl)
    | 29, _ => (fun_mk l29 c29 k29).binds (ps := fps 29) (fun _ _ _ _ _ _ us hl => match us, hl with | [_], _ => rfl)
    | 30, _ => (fun_mk l30 c30 k30).binds (ps := fps 30) (fun _ _ _ _ _ _ us hl => match us, hl with | [_], _ => rfl)
    | f + 31, h => absurd (show f + 31 < 31 from h) (by omega)
  · exact fun f h hm => match f, h, hm with
    | 0, _, hm => PySem.W.mg_of X G a0
    | 1, _, hm => PySem.W.mg_of X G a1
    | 2, _, hm => absurd hm (by decide)
    | 3, _, hm => absurd hm (by decide)
    | 4, _, hm => absurd hm (by decide)
    | 5, _, hm => absurd hm (by decide)
    | 6, _, hm => absurd hm (by decide)
    | 7, _, hm => absurd hm (by decide)
    | 8, _, hm => absurd hm (by decide)
    | 9, _, hm => absurd hm (by decide)
    | 10, _, hm => absurd hm (by decide)
    | 11, _, hm => absurd hm (by decide)
    | 12, _, hm => absurd hm (by decide)
    | 13, _, hm => absurd hm (by decide)
    | 14, _, hm => absurd hm (by decide)
    | 15, _, hm => absurd hm (by decide)
    | 16, _, hm => absurd hm (by decide)
    | 17, _, hm => absurd hm (by decide)
    | 18, _, hm => PySem.W.mg_of X G a18
    | 19, _, hm => PySem.W.mg_of X G a19
    | 20, _, hm => PySem.W.mg_of X G a20
    | 21, _, hm => PySem.W.mg_of X G a21
    | 22, _, hm => PySem.W.mg_of X G a22
    | 23, _, hm => PySem.W.mg_of X G a23
    | 24, _, hm => PySem.W.mg_of X G a24
    | 25, _, hm => PySem.W.mg_of X G a25
    | 26, _, hm => PySem.W.mg_of X G a26
    | 27, _, hm => PySem.W.mg_of X G a27
    | 28, _, hm => PySem.W.mg_of X G a28
    | 29, _, hm => PySem.W.mg_of X G a29
    | 30, _, hm => PySem.W.mg_of X G a30
    | f + 31, h, _ => absurd (show f + 31 < 31 from h) (by omega)
  · exact fun f h hm hP => match f, h, hm, hP with
    | 0, _, hm, hP => absurd hm (by decide)
    | 1, _, hm, hP => absurd hm (by decide)
    | 2, _, hm, hP => ⟨by decide, ⟨a2, i2, k2⟩, by decide +kernel⟩
    | 3, _, hm, hP => ⟨by decide, ⟨a3, i3, k3⟩, by decide +kernel⟩
    | 4, _, hm, hP => ⟨by decide, ⟨a4, i4, k4⟩, by decide +kernel⟩
    | 5, _, hm, hP => ⟨by decide, ⟨a5, i5, k5⟩, by decide +kernel⟩
    | 6, _, hm, hP => ⟨by decide, ⟨a6, i6, k6⟩, by decide +kernel⟩
    | 7, _, hm, hP => ⟨by decide, ⟨a7, i7, k7⟩, by decide +kernel⟩
    | 8, _, hm, hP => ⟨by decide, ⟨a8, i8, k8⟩, by decide +kernel⟩
    | 9, _, hm, hP => ⟨by decide, ⟨a9, i9, k9⟩, by decide +kernel⟩
    | 10, _, hm, hP => ⟨by decide, ⟨a10, i10, k10⟩, by decide +kernel⟩
    | 11, _, hm, hP => ⟨by decide, ⟨a11, i11, k11⟩, by decide +kernel⟩
    | 12, _, hm, hP => ⟨by decide, ⟨a12, i12, k12⟩, by decide +kernel⟩
    | 13, _, hm, hP => ⟨by decide, ⟨a13, i13, k13⟩, by decide +kernel⟩
    | 14, _, hm, hP => ⟨by decide, ⟨a14, i14, k14⟩, by decide +kernel⟩
    | 15, _, hm, hP => ⟨by decide, ⟨a15, i15, k15⟩, by decide +kernel⟩
    | 16, _, hm, hP => ⟨by decide, ⟨a16, i16, k16⟩, by decide +kernel⟩
    | 17, _, hm, hP => ⟨by decide, ⟨a17, i17, k17⟩, by decide +kernel⟩
    | 18, _, hm, hP => absurd hm (by decide)
    | 19, _, hm, hP => absurd hm (by decide)
    | 20, _, hm, hP => absurd hm (by decide)
    | 21, _, hm, hP => absurd hm (by decide)
    | 22, _, hm, hP => absurd hm (by decide)
    | 23, _, hm, hP => absurd hm (by decide)
    | 24, _, hm, hP => absurd hm (by decide)
    | 25, _, hm, hP => absurd hm (by decide)
    | 26, _, hm, hP => absurd hm (by decide)
    | 27, _, hm, hP => absurd hm (by decide)
    | 28, _, hm, hP => absurd hm (by decide)
    | 29, _, hm, hP => absurd hm (by decide)
    | 30, _, hm, hP => absurd hm (by decide)
    | f + 31, h, _, _ => absurd (show f + 31 < 31 from h) (by omega)
  · exact fun c h => match c, h with
    | 0, _ => ⟨⟨pg0, hd0, po0, sa0⟩, (fun x hx => by
      have hx : x ∈ (["top", "bottom"] : List Str) := hx
      simp only [List.mem_cons, List.not_mem_nil, or_false] at hx
      rcases hx with rfl | rfl
      · exact n0_0
      · exact n0_1
     ), by decide +kernel, by decide⟩
    | 1, _ => ⟨⟨pg1, hd1, po1, sa1⟩, (fun x hx => by
      have hx : x ∈ (["text", "place"] : List Str) := hx
      simp only [List.mem_cons, List.not_mem_nil, or_false] at hx
      rcases hx with rfl | rfl
      · exact n1_0
      · exact n1_1
     ), by decide +kernel, by decide⟩
    | c + 2, h => absurd (show c + 2 < 2 from h) (by omega)
  · exact fun c h => match c, h with
    | 0, _ => ⟨fun_mk lI0 cI0 kI0, (fun_mk lI0 cI0 kI0).binds (ps := ips 0) (fun _ _ _ _ _ _ us hl => match us, hl with | [_, _, _], _ => rfl), ⟨mk0, ai0, ii0, kc0⟩, PySem.W.mg_of X G aC0⟩
    | 1, _ => ⟨fun_mk lI1 cI1 kI1, (fun_mk lI1 cI1 kI1).binds (ps := ips 1) (fun _ _ _ _ _ _ us hl => match us, hl with | [_, _], _ => rfl), ⟨mk1, ai1, ii1, kc1⟩, PySem.W.mg_of X G aC1⟩
    | c + 2, h => absurd (show c + 2 < 2 from h) (by omega)
  · exact fun k h => match k, h with
    | 0, _ => ⟨_, .str "0123456789", PySem.W.mg_of X G q0, ⟨_, rfl⟩, rfl, fun S κ H => by show RV _ S κ H (.str "0123456789") (.str "0123456789"); unfold RV; rfl⟩
    | 1, _ => ⟨_, .int 4, PySem.W.mg_of X G q1, ⟨_, rfl⟩, rfl, fun S κ H => by show RV _ S κ H (.int 4) (.int 4); unfold RV; rfl⟩
    | 2, _ => ⟨_, .int 8, PySem.W.mg_of X G q2, ⟨_, rfl⟩, rfl, fun S κ H => by show RV _ S κ H (.int 8) (.int 8); unfold RV; rfl⟩
    | k + 3, h => absurd (show k + 3 < 3 from h) (by omega)
  · exact fun p hp => nomatch hp
  · exact fun p hp => nomatch hp
  · exact fun p hp => nomatch hp
  · intro b; cases b
    · exact PySem.W.mg_none_of X G z_len
    · exact PySem.W.mg_none_of X G z_abs
    · exact PySem.W.mg_none_of X G z_int
    · exact PySem.W.mg_none_of X G z_str
    · exact PySem.W.mg_none_of X G z_tuple
    · exact PySem.W.mg_none_of X G z_list
    · exact PySem.W.mg_none_of X G z_sum
    · exact PySem.W.mg_none_of X G z_all
    · exact PySem.W.mg_none_of X G z_any
    · exact PySem.W.mg_none_of X G z_min
    · exact PySem.W.mg_none_of X G z_max
  · exact PySem.W.mg_none_of X G z_isinstance
  · exact PySem.W.mg_none_of X G z_range
  · exact PySem.W.mg_none_of X G z_enumerate
  · exact PySem.W.mg_none_of X G z_zip
  · exact PySem.W.mg_none_of X G z_bool
  · exact fun c h => match c, h with
    | 0, _ => (fun t ht => match t, ht with | .int, _ => EL.kit_t (by decide +kernel) kt0_int rfl | .bool, _ => EL.kit_t (by decide +kernel) kt0_bool rfl | .str, _ => EL.kit_t (by decide +kernel) kt0_str rfl | .tuple, _ => EL.kit_t (by decide +kernel) kt0_tuple rfl | .list, _ => EL.kit_t (by decide +kernel) kt0_list rfl | .cls c2, ht => (match c2, ht c2 rfl with | 0, _ => EL.kit_self | 1, _ => EL.kit_r hd1 tC1 kk0_1 ne0_1 | c2 + 2, h2 => absurd (show c2 + 2 < 2 from h2) (by omega)))
    | 1, _ => (fun t ht => match t, ht with | .int, _ => EL.kit_t (by decide +kernel) kt1_int rfl | .bool, _ => EL.kit_t (by decide +kernel) kt1_bool rfl | .str, _ => EL.kit_t (by decide +kernel) kt1_str rfl | .tuple, _ => EL.kit_t (by decide +kernel) kt1_tuple rfl | .list, _ => EL.kit_t (by decide +kernel) kt1_list rfl | .cls c2, ht => (match c2, ht c2 rfl with | 0, _ => EL.kit_r hd0 tC0 kk1_0 ne1_0 | 1, _ => EL.kit_self | c2 + 2, h2 => absurd (show c2 + 2 < 2 from h2) (by omega)))
    | c + 2, h => absurd (show c + 2 < 2 from h) (by omega)
  · exact fun n c h hn => match c, h with
    | 0, _ => (by
      have hn : n ∈ ["NoneType", "int", "bool", "str", "tuple", "list"] := List.contains_iff_mem.mp hn
      simp only [List.mem_cons, List.not_mem_nil, or_false] at hn
      rcases hn with rfl | rfl | rfl | rfl | rfl | rfl
      · exact EL.kit_r hd0 tC0 kb0_NoneType rfl
      · exact EL.kit_r hd0 tC0 kb0_int rfl
      · exact EL.kit_r hd0 tC0 kb0_bool rfl
      · exact EL.kit_r hd0 tC0 kb0_str rfl
      · exact EL.kit_r hd0 tC0 kb0_tuple rfl
      · exact EL.kit_r hd0 tC0 kb0_list rfl
     )
    | 1, _ => (by
      have hn : n ∈ ["NoneType", "int", "bool", "str", "tuple", "list"] := List.contains_iff_mem.mp hn
      simp only [List.mem_cons, List.not_mem_nil, or_false] at hn
      rcases hn with rfl | rfl | rfl | rfl | rfl | rfl
      · exact EL.kit_r hd1 tC1 kb1_NoneType rfl
      · exact EL.kit_r hd1 tC1 kb1_int rfl
      · exact EL.kit_r hd1 tC1 kb1_bool rfl
      · exact EL.kit_r hd1 tC1 kb1_str rfl
      · exact EL.kit_r hd1 tC1 kb1_tuple rfl
      · exact EL.kit_r hd1 tC1 kb1_list rfl
     )
    | c + 2, h => absurd (show c + 2 < 2 from h) (by omega)
  · decide
  · exact qm
  · intro p hp
    simp only [List.mem_cons, List.not_mem_nil, or_false] at hp
    rcases hp with rfl | rfl | rfl | rfl | rfl | rfl
    · exact ⟨by decide, a5, i5, rfl, rfl⟩
    · exact ⟨by decide, a6, i6, rfl, rfl⟩
    · exact ⟨by decide, a7, i7, rfl, rfl⟩
    · exact ⟨by decide, a3, i3, rfl, rfl⟩
    · exact ⟨by decide, a4, i4, rfl, rfl⟩
    · exact ⟨by decide, a2, i2, rfl, rfl⟩
  · exact fun n hn => by
      have hn : n ∈ ["NoneType", "int", "bool", "str", "tuple", "list"] := List.contains_iff_mem.mp hn
      simp only [List.mem_cons, List.not_mem_nil, or_false] at hn
      rcases hn with rfl | rfl | rfl | rfl | rfl | rfl
      · exact qn_NoneType
      · exact qn_int
      · exact qn_bool
      · exact qn_str
      · exact qn_tuple
      · exact qn_list
     
  · exact fun n hn => by
      have hn : n ∈ ["NoneType", "int", "bool", "str", "tuple", "list"] := List.contains_iff_mem.mp hn
      simp only [List.mem_cons, List.not_mem_nil, or_false] at hn
      rcases hn with rfl | rfl | rfl | rfl | rfl | rfl
      · exact kt0_NoneType
      · exact kt0_int
      · exact kt0_bool
      · exact kt0_str
      · exact kt0_tuple
      · exact kt0_list
     
  · exact fun c h => match c, h with
    | 0, _ => cA0
    | 1, _ => cA1
    | c + 2, h => absurd (show c + 2 < 2 from h) (by omega)
  · exact cG
  · exact cT
  · exact fun c h => match c, h with
    | 0, _ => cM0
    | 1, _ => cM1
    | c + 2, h => absurd (show c + 2 < 2 from h) (by omega)
  · exact ⟨by decide, a8, i8, rfl, rfl⟩
  · exact qob
  · rfl
  · exact qne
  · exact fun c hc => absurd hc Bool.false_ne_true
  · intro c hc
    have hc : c ∈ ([2, 3] : List Nat) := hc
    simp only [List.mem_cons, List.not_mem_nil, or_false] at hc
    rcases hc with rfl | rfl
    · exact ⟨⟨_, _, _, _, PySem.F.excBase_ValueError, xq2⟩, PySem.W.mg_of X G xa2, xk2, xs2, xt2⟩
    · exact ⟨⟨_, _, _, _, PySem.F.excBase_ValueError, xq3⟩, PySem.W.mg_of X G xa3, xk3, xs3, xt3⟩
  · exact fun c hc => absurd hc Bool.false_ne_true
end EL

-- PlQ
/-! Plain part Q: quotients. -/
namespace EL
open EG PySem L2
local macro_rules | `(tactic| simp_arith only [$l,*]) => `(tactic| simp -dsimp only [$l,*, za, zb, zc, zd, zf, zg, zh, zm, zo, zp, zq, zr, zt, zu, zv, zw, zx, zy, zA, zB, zC, zD, zE, zF, zG, zH, zI, zJ, zK, zL, zM, zN, zO, zP, zQ, zR, zS, zT, zU, zV, zW, zX, zY, zZ, ya, yb, yc, yd, ye, yf, yg, yh, yj, yk, ym, yn, yo, yp, yq, yr, yt, yu, yw, yx, yy, yz, yA, yB, yC, yD, yE, yF, yG, yH, yI, yJ, yK, yL, yM, yN, yO, yP, yQ, yR, yS, yT, yU, yV, yW, yX, yY, yZ, xa, xb, xf, xg, xh, xi, xj, xk, xl, xn, xo, xp, xq, xr, xt, xu, xw, xy, xz, xA, xB, xC, xD, xE, xF, xG, xH, xI, xJ, xK, xL, xM, xN, xP, xQ, xR, xS, xT, xU, xV, xW, xX, xY, xZ, wa, isRng, wd, we, wf, wg, wi, wj, wk, intO, lstO, celL, wl, wm, wn, wo, wp, wq, wt, wu, wv, ww, wx, wy, wz, wA, wB, wC, wD, wE, wF, wG, wH, wI, wJ, wK, wL, wM, wN, wO, wP, wQ, wR, wS, wT, wU, wV, wW, wX, wY, wZ, vb, Option.map_some, List.sum_cons, List.sum_nil, vc, vd, ve, vf, vg, vh, vi, vj, vk, vm, vn, vp, vr, vt, vw, vx, vy, vz, vA, vB, vC, vD, vE, vF, vG, vH, vI, vJ, vK, vL, vM, vN, vO, vP, vQ, vR, vS, vT, vU, vV, vW, vX, vY, vZ, ua, ub, uc, ud, ue, uf, ug, uh, ui, isiI, uj, uk, ul, um, uq, ur, ut, uw, ux, varE, varA, varI, varP, frE, bltFr, uy, uz, uA, uB, uC, uD, uE, uF, uG, uH, uI, uJ, uK, uL, uM, uN, uO, uP, uQ, uR, uS, startS, uT, uU, uV, List.getElem?_cons_succ, List.getElem?_cons_zero, List.set_cons_zero, List.set_cons_succ, List.cons_append, List.nil_append, List.append_nil, List.length_cons, List.length_nil, List.length_set, List.map_cons, List.map_nil, List.contains_cons, List.contains_nil, List.replicate_succ, List.replicate_zero, List.zipWith_cons_cons, List.zipWith_nil_left, List.zipWith_nil_right, Option.getD_some, Option.getD_none, Bool.or_false, Bool.false_or, Bool.or_true, Bool.true_or, Bool.and_true, Bool.true_and, Bool.and_false, Bool.false_and, Bool.not_true, Bool.not_false, Bool.false_eq_true, beq_self_eq_true, decide_true, decide_false, and_self, and_true, true_and, if_true, if_false, ↓reduceIte, reduceCtorEq, Nat.reduceAdd, Nat.reduceSub, Nat.reduceLT, Nat.reduceLeDiff, Nat.reduceEqDiff, Nat.reduceBEq, Int.reduceNeg, Nat.add_zero, Nat.zero_add, List.all_cons, List.all_nil, noLC, noLs, noL, Option.some.injEq])
theorem lvl_q (n : Nat) : (lvl P n).q = 0 := by cases n <;> rfl
theorem lvl_nc (n : Nat) : (lvl P n).nc = 2 := by cases n <;> rfl
theorem lvl_eqk (n : Nat) : (lvl P (n + 1)).eqk = true := rfl
theorem fn_eq (n f : Nat) (as : List IV) (cs : Cs) : (lvl P (n + 1)).fn f as cs = frzR (fz f && !ffr f) cs.length (outF (ffr f) (exB ffr (lvl P n) (ffr f) (bd f) (startS (nm f).length as) cs)) := rfl
theorem mk_eq (n c : Nat) (as : List IV) (cs : Cs) : mkI (lvl P n) c as cs = (((lvl P n).init c as cs).bind <| lk fun fs cs => sel ((lvl P n).cel c) (.ok (.cell cs.length) (cs ++ [.ins c fs])) (.ok (.obj c fs) cs)) := rfl
theorem whl_eu (n : Nat) (Φ : Fns) : ∀ (m : Nat) (x y g : Int) (cs : Cs), eu m x y = (g, 0) → m < n → whlGo (evT Φ (.cmp .Gt (.var 1) (.int 0))) (exB ffr Φ false lb1_0) n [.val (.int x), .val (.int y)] cs = .nx [.val (.int g), .val (.int 0)] cs := by
  induction n with
  | zero => intro m x y g cs h h2; omega
  | succ n ih =>
    intro m x y g cs h h2
    rw [whlGo_succ]
    simp_arith only [beq_self_eq_true]
    by_cases hy : 0 < y
    · cases m with
      | zero => simp [eu] at h; omega
      | succ m =>
        unfold eu at h
        rw [if_pos hy] at h
        simp_arith only [hy, lb1_0, b_mod, show y ≠ 0 from by omega, ne_eq, not_false_eq_true]
        rw [whlT_nx]
        exact ih m _ _ _ cs h (by omega)
    · have : eu m x y = (x, y) := by cases m <;> simp [eu, hy]
      rw [this] at h
      cases h
      simp_arith only [hy]
theorem abs_if (x : Int) : (if x < 0 then -x else x) = (x.natAbs : Int) := by split <;> omega
theorem f_common (n : Nat) (x y : Int) (cs : Cs) (k : Nat) (h : y.natAbs ≤ 2 ^ k) (hk : k ≤ 100000) : (lvl P (n + 1)).fn 1 [.int x, .int y] cs = .ok (.int (Int.gcd x y)) cs := by
  rw [fn_eq]
  show outF false (exB ffr (lvl P n) false bd1 (startS 2 [.int x, .int y]) cs) = _
  have e := eu_ok (n := 2 * k + 2) (x := (x.natAbs : Int)) (y := (y.natAbs : Int)) (by omega) (by omega) k (by simpa using h) (Nat.le_refl _)
  have w := whl_eu fuel (lvl P n) _ _ _ _ cs e (by unfold fuel; omega)
  simp_arith only [bd1, abs_if, exS_whl, w]
  simp [Int.gcd]
/-- the parts of a quotient -/
theorem f_init (n : Nat) (x y : Int) (cs : Cs) (k : Nat) (h : y.natAbs ≤ 2 ^ k) (hk : k < 8000) (hy : y ≠ 0) : (lvl P (n + 2)).init 0 [.int x, .int y] cs = .ok [.int ((x : Rat) / (y : Rat)).num, .int ((x : Rat) / (y : Rat)).den] cs := by
  show outI fld 0 (exB ffr (lvl P (n + 1)) false ib0 (.slf 0 [] :: startS (in0.length - 1) [.int x, .int y]) cs) = _
  have e1 := f_common n x y cs k h (by omega)
  have g0 : (Int.gcd x y : Int) ≠ 0 := fun z => hy (Int.eq_zero_of_gcd_eq_zero_right (a := x) (by omega))
  have gl : (Int.gcd x y) ≤ y.natAbs := Nat.le_of_dvd (by omega) (Int.natCast_dvd_natCast.mp (by rw [Int.dvd_natAbs]; exact Int.gcd_dvd_right x y))
  have sg : smallI (Int.gcd x y : Int) = true := smallI_le (n := k) (by simp; omega) hk
  have sn : smallI (-(Int.gcd x y : Int)) = true := smallI_le (n := k) (by simp; omega) hk
  have pn := part_num (x := x) (y := y) hy rfl
  have pd := part_den (x := x) (y := y) hy rfl
  have hyb : (y == 0) = false := by simpa using hy
  simp_arith only [ib0, in0, e1, hyb, ne_eq]
  by_cases h0 : y < 0
  · rw [if_pos h0] at pn pd
    simp_arith only [h0, b_fdiv, sn, pn, pd, ne_eq, not_false_eq_true, Int.neg_eq_zero, g0]
    exact outI_nx _ _ _ _ _ rfl
  · rw [if_neg h0] at pn pd
    simp_arith only [h0, b_fdiv, sg, pn, pd, ne_eq, not_false_eq_true, g0]
    exact outI_nx _ _ _ _ _ rfl
theorem f_bad (n : Nat) (x : Int) (cs : Cs) : (lvl P (n + 2)).init 0 [.int x, .int 0] cs = .exc 3 [] cs := by
  show outI fld 0 (exB ffr (lvl P (n + 1)) false ib0 (.slf 0 [] :: startS (in0.length - 1) [.int x, .int 0]) cs) = _
  simp_arith only [ib0, in0]
theorem cel_f (n : Nat) : (lvl P n).cel 0 = false := by cases n <;> rfl
theorem cel_r (n : Nat) : (lvl P n).cel 1 = true := by cases n <;> rfl
/-- Quotient(x, y) -/
theorem f_mk (n : Nat) (x y : Int) (cs : Cs) (k : Nat) (h : y.natAbs ≤ 2 ^ k) (hk : k < 8000) (hy : y ≠ 0) : mkI (lvl P (n + 2)) 0 [.int x, .int y] cs = .ok (qv ((x : Rat) / (y : Rat))) cs := by
  simp_arith only [mk_eq, f_init n x y cs k h hk hy, cel_f]
  rfl
theorem b_mulw {x y : Int} {k l : Nat} (h : x.natAbs ≤ 2 ^ k) (g : y.natAbs ≤ 2 ^ l) (hk : k < 60000) (hl : l < 60000) (Φ : Fns) (cs : Cs) : binI Φ .mul (.int x) (.int y) cs = .ok (.int (x * y)) cs := by
  rw [b_mul, smallW_le h (by omega), smallW_le g (by omega)]; rfl
theorem f_mkB (n : Nat) (x y : Int) (cs : Cs) {k : Nat} [A : Bi y k] (hk : k < 8000) (hy : y ≠ 0) : mkI (lvl P (n + 2)) 0 [.int x, .int y] cs = .ok (qv ((x : Rat) / (y : Rat))) cs := f_mk n x y cs k A.h hk hy
theorem b_imul (Φ : Fns) (x y : Int) (cs : Cs) {k l : Nat} [A : Bi x k] [B : Bi y l] (h : k + l < 60000) : binI Φ .mul (.int x) (.int y) cs = .ok (.int (x * y)) cs := by
  rw [b_mul, smallW_le A.h (by omega), smallW_le B.h (by omega)]; rfl
theorem q_num (a : Rat) (cs : Cs) : attrI (qv a) 0 0 cs = .ok (.int a.num) cs := rfl
theorem q_den (a : Rat) (cs : Cs) : attrI (qv a) 0 1 cs = .ok (.int a.den) cs := rfl
theorem q_keep (f : Bool) (a : Rat) : keepI f (qv a) = true := rfl
theorem q_noL (a : Rat) : noL (qv a) = true := rfl
theorem q_newS (f : Bool) (a : Rat) : newS f (qv a) = .val (qv a) := rfl
theorem q_of (a : Rat) (cs : Cs) : isOf 0 (qv a) cs = true := rfl
theorem q_isi (a : Rat) : isiN 2 (qv a) (.cls 0) = some true := rfl
theorem sub_q (a b : Rat) (n : Nat) (op : BO) (cs : Cs) (r : IV) (f : Nat) (h : (lvl P n).fn f [qv a, qv b] cs = .ok r cs) (e : (op = .add ∧ f = 5) ∨ (op = .sub ∧ f = 6) ∨ (op = .mul ∧ f = 7)) : binI (lvl P n) op (qv a) (qv b) cs = .ok r cs := by
  have hq : (lvl P n).q = 0 := lvl_q n
  rcases e with ⟨rfl, rfl⟩ | ⟨rfl, rfl⟩ | ⟨rfl, rfl⟩
  · show (if 0 = (lvl P n).q ∧ 0 = (lvl P n).q then (lvl P n).fn (lvl P n).add [qv a, qv b] cs else R.stuck) = _
    rw [if_pos ⟨hq.symm, hq.symm⟩, show (lvl P n).add = 5 from by cases n <;> rfl, h]
  · show (if 0 = (lvl P n).q ∧ 0 = (lvl P n).q then (lvl P n).fn (lvl P n).sub [qv a, qv b] cs else R.stuck) = _
    rw [if_pos ⟨hq.symm, hq.symm⟩, show (lvl P n).sub = 6 from by cases n <;> rfl, h]
  · show (if 0 = (lvl P n).q ∧ 0 = (lvl P n).q then (lvl P n).fn (lvl P n).mul [qv a, qv b] cs else R.stuck) = _
    rw [if_pos ⟨hq.symm, hq.symm⟩, show (lvl P n).mul = 7 from by cases n <;> rfl, h]
section
variable (n : Nat) (a b : Rat) (cs : Cs) {p q r s : Nat} [A : Bd a p q] [B : Bd b r s]
include A B
theorem den_le (h : q + s < 8000) : (((a.den : Int) * (b.den : Int)).natAbs) ≤ 2 ^ (q + s) := natAbs_mul_le2 (by simpa using A.b) (by simpa using B.b)
theorem f_add (hk : p + q + r + s < 8000) : (lvl P (n + 3)).fn 5 [qv a, qv b] cs = .ok (qv (a + b)) cs := by
  rw [fn_eq]
  show outF false (exB ffr (lvl P (n + 2)) false bd5 (startS 2 [qv a, qv b]) cs) = _
  have m1 := b_mulw (x := a.num) (y := (b.den : Int)) A.t (by simpa using B.b) (by omega) (by omega)
  have m2 := b_mulw (x := b.num) (y := (a.den : Int)) B.t (by simpa using A.b) (by omega) (by omega)
  have m3 := b_mulw (x := (a.den : Int)) (y := (b.den : Int)) (by simpa using A.b) (by simpa using B.b) (by omega) (by omega)
  have i := f_mk n (a.num * b.den + b.num * a.den) (a.den * b.den) cs (q + s) (den_le a b (by omega)) (by omega) (Int.mul_ne_zero (den_ne a) (den_ne b))
  rw [← rat_add] at i
  simp_arith only [bd5, q_num, q_den, m1, m2, m3, i]
theorem b_qadd (hk : p + q + r + s < 8000) : binI (lvl P (n + 3)) .add (qv a) (qv b) cs = .ok (qv (a + b)) cs := sub_q a b _ _ _ _ _ (f_add n a b cs hk) (by simp)
theorem f_sub (hk : p + q + r + s < 8000) : (lvl P (n + 3)).fn 6 [qv a, qv b] cs = .ok (qv (a - b)) cs := by
  rw [fn_eq]
  show outF false (exB ffr (lvl P (n + 2)) false bd6 (startS 2 [qv a, qv b]) cs) = _
  have m1 := b_mulw (x := a.num) (y := (b.den : Int)) A.t (by simpa using B.b) (by omega) (by omega)
  have m2 := b_mulw (x := b.num) (y := (a.den : Int)) B.t (by simpa using A.b) (by omega) (by omega)
  have m3 := b_mulw (x := (a.den : Int)) (y := (b.den : Int)) (by simpa using A.b) (by simpa using B.b) (by omega) (by omega)
  have i := f_mk n (a.num * b.den - b.num * a.den) (a.den * b.den) cs (q + s) (den_le a b (by omega)) (by omega) (Int.mul_ne_zero (den_ne a) (den_ne b))
  rw [← rat_sub] at i
  simp_arith only [bd6, q_num, q_den, m1, m2, m3, i]
theorem b_qsub (hk : p + q + r + s < 8000) : binI (lvl P (n + 3)) .sub (qv a) (qv b) cs = .ok (qv (a - b)) cs := sub_q a b _ _ _ _ _ (f_sub n a b cs hk) (by simp)
theorem f_mul (hk : p + q + r + s < 8000) : (lvl P (n + 3)).fn 7 [qv a, qv b] cs = .ok (qv (a * b)) cs := by
  rw [fn_eq]
  show outF false (exB ffr (lvl P (n + 2)) false bd7 (startS 2 [qv a, qv b]) cs) = _
  have m1 := b_mulw (x := a.num) (y := b.num) A.t B.t (by omega) (by omega)
  have m3 := b_mulw (x := (a.den : Int)) (y := (b.den : Int)) (by simpa using A.b) (by simpa using B.b) (by omega) (by omega)
  have i := f_mk n (a.num * b.num) (a.den * b.den) cs (q + s) (den_le a b (by omega)) (by omega) (Int.mul_ne_zero (den_ne a) (den_ne b))
  rw [← rat_mul] at i
  simp_arith only [bd7, q_num, q_den, m1, m3, i]
theorem b_qmul (hk : p + q + r + s < 8000) : binI (lvl P (n + 3)) .mul (qv a) (qv b) cs = .ok (qv (a * b)) cs := sub_q a b _ _ _ _ _ (f_mul n a b cs hk) (by simp)
theorem f_lt (hk : p + q + r + s < 8000) : (lvl P (n + 1)).fn 3 [qv a, qv b] cs = .ok (.bl (decide (a < b))) cs := by
  rw [fn_eq]
  show outF false (exB ffr (lvl P n) false bd3 (startS 2 [qv a, qv b]) cs) = _
  have m1 := b_mulw (x := a.num) (y := (b.den : Int)) A.t (by simpa using B.b) (by omega) (by omega)
  have m2 := b_mulw (x := b.num) (y := (a.den : Int)) B.t (by simpa using A.b) (by omega) (by omega)
  simp_arith only [bd3, q_num, q_den, m1, m2, Rat.lt_iff]
theorem c_qlt (hk : p + q + r + s < 8000) : cmpI (lvl P (n + 1)) .Lt (qv a) (qv b) cs = .ok (.bl (decide (a < b))) cs := by
  show (if 0 = (lvl P (n + 1)).q ∧ 0 = (lvl P (n + 1)).q then (lvl P (n + 1)).fn 3 [qv a, qv b] cs else R.stuck) = _
  rw [if_pos ⟨(lvl_q _).symm, (lvl_q _).symm⟩]; exact f_lt n a b cs hk
theorem f_le (hk : p + q + r + s < 8000) : (lvl P (n + 1)).fn 4 [qv a, qv b] cs = .ok (.bl (decide (a ≤ b))) cs := by
  rw [fn_eq]
  show outF false (exB ffr (lvl P n) false bd4 (startS 2 [qv a, qv b]) cs) = _
  have m1 := b_mulw (x := a.num) (y := (b.den : Int)) A.t (by simpa using B.b) (by omega) (by omega)
  have m2 := b_mulw (x := b.num) (y := (a.den : Int)) B.t (by simpa using A.b) (by omega) (by omega)
  simp_arith only [bd4, q_num, q_den, m1, m2, Rat.le_iff]
theorem c_qle (hk : p + q + r + s < 8000) : cmpI (lvl P (n + 1)) .LtE (qv a) (qv b) cs = .ok (.bl (decide (a ≤ b))) cs := by
  show (if 0 = (lvl P (n + 1)).q ∧ 0 = (lvl P (n + 1)).q then (lvl P (n + 1)).fn 4 [qv a, qv b] cs else R.stuck) = _
  rw [if_pos ⟨(lvl_q _).symm, (lvl_q _).symm⟩]; exact f_le n a b cs hk
end
section
variable (n : Nat) (a b : Rat) (cs : Cs) {p q : Nat} [A : Bd a p q]
include A in
theorem f_neg (hk : p + q < 8000) : (lvl P (n + 3)).fn 8 [qv a] cs = .ok (qv (-a)) cs := by
  rw [fn_eq]
  show outF false (exB ffr (lvl P (n + 2)) false bd8 (startS 1 [qv a]) cs) = _
  have i := f_mk n (-a.num) a.den cs q (by simpa using A.b) (by omega) (den_ne a)
  rw [← rat_neg] at i
  simp_arith only [bd8, q_num, q_den, i]
include A in
theorem n_q (hk : p + q < 8000) : negI (lvl P (n + 3)) (qv a) cs = .ok (qv (-a)) cs := by
  show (if 0 = (lvl P (n + 3)).q then (lvl P (n + 3)).fn 8 [qv a] cs else R.stuck) = _
  rw [if_pos (lvl_q _).symm]; exact f_neg n a cs hk
theorem f_whole (x : Int) : mkI (lvl P (n + 2)) 0 [.int x, .int 1] cs = .ok (qv (x : Rat)) cs := by
  rw [f_mk n x 1 cs 0 (by decide) (by omega) (by decide)]
  have : (x : Rat) / ((1 : Int) : Rat) = x := by
    rw [show ((1 : Int) : Rat) = 1 from rfl]; grind
  rw [this]
end
theorem rat_ext_iff (a b : Rat) : a = b ↔ a.num = b.num ∧ a.den = b.den := ⟨fun h => h ▸ ⟨rfl, rfl⟩, fun ⟨h, g⟩ => Rat.ext h g⟩
theorem eq_qq (a b : Rat) : eqQ 0 [.int a.num, .int a.den] (qv b) = some (decide (a = b)) := by
  show (if 0 = 0 then some (a.num == b.num && (a.den : Int) == (b.den : Int)) else none) = _
  rw [if_pos rfl]
  congr 1
  rw [Bool.eq_iff_iff]
  simp [rat_ext_iff]
  omega
theorem eF_qq (n : Nat) (a b : Rat) : eqF 0 (n + 1) (qv a) (qv b) = some (decide (a = b)) := by
  show (if 0 = 0 then eqQ 0 [.int a.num, .int a.den] (qv b) else none) = _
  rw [if_pos rfl, eq_qq]
theorem e_qq (n : Nat) (a b : Rat) : eqG (lvl P (n + 1)) (qv a) (qv b) = some (decide (a = b)) := by
  show eqF (lvl P (n + 1)).q 12 (qv a) (qv b) = _
  rw [lvl_q]; exact eF_qq 11 a b
theorem e_any (n : Nat) (x y : IV) : eqG (lvl P (n + 1)) x y = eqF 0 12 x y := by
  show eqF (lvl P (n + 1)).q 12 x y = _
  rw [lvl_q]
theorem eF_tup (n : Nat) (xs ys : List IV) : eqF 0 (n + 1) (.tup xs) (.tup ys) = eqL (eqF 0 n) xs ys := rfl
theorem eF_lst (n : Nat) (xs ys : List IV) : eqF 0 (n + 1) (.lst xs) (.lst ys) = eqL (eqF 0 n) xs ys := rfl
theorem eF_int (n : Nat) (i j : Int) : eqF 0 (n + 1) (.int i) (.int j) = some (i == j) := rfl
theorem eL_nil (f : IV → IV → Option Bool) : eqL f [] [] = some true := rfl
theorem eL_cons (f : IV → IV → Option Bool) (x y : IV) (xs ys : List IV) (b c : Bool) (h : f x y = some b) (g : eqL f xs ys = some c) : eqL f (x :: xs) (y :: ys) = some (b && c) := by
  unfold eqL
  rw [h]
  cases b
  · rfl
  · dsimp only; rw [g]; rfl
end EL

-- PlL
/-! Plain part L: what the laws share. -/
namespace EL
open EG PySem L2
local macro_rules | `(tactic| simp_arith only [$l,*]) => `(tactic| simp -dsimp only [$l,*, za, zb, zc, zd, zf, zg, zh, zm, zo, zp, zq, zr, zt, zu, zv, zw, zx, zy, zA, zB, zC, zD, zE, zF, zG, zH, zI, zJ, zK, zL, zM, zN, zO, zP, zQ, zR, zS, zT, zU, zV, zW, zX, zY, zZ, ya, yb, yc, yd, ye, yf, yg, yh, yj, yk, ym, yn, yo, yp, yq, yr, yt, yu, yw, yx, yy, yz, yA, yB, yC, yD, yE, yF, yG, yH, yI, yJ, yK, yL, yM, yN, yO, yP, yQ, yR, yS, yT, yU, yV, yW, yX, yY, yZ, xa, xb, xf, xg, xh, xi, xj, xk, xl, xn, xo, xp, xq, xr, xt, xu, xw, xy, xz, xA, xB, xC, xD, xE, xF, xG, xH, xI, xJ, xK, xL, xM, xN, xP, xQ, xR, xS, xT, xU, xV, xW, xX, xY, xZ, wa, isRng, wd, we, wf, wg, wi, wj, wk, intO, lstO, celL, wl, wm, wn, wo, wp, wq, wt, wu, wv, ww, wx, wy, wz, wA, wB, wC, wD, wE, wF, wG, wH, wI, wJ, wK, wL, wM, wN, wO, wP, wQ, wR, wS, wT, wU, wV, wW, wX, wY, wZ, vb, Option.map_some, List.sum_cons, List.sum_nil, vc, vd, ve, vf, vg, vh, vi, vj, vk, vm, vn, vp, vr, vt, vw, vx, vy, vz, vA, vB, vC, vD, vE, vF, vG, vH, vI, vJ, vK, vL, vM, vN, vO, vP, vQ, vR, vS, vT, vU, vV, vW, vX, vY, vZ, ua, ub, uc, ud, ue, uf, ug, uh, ui, isiI, uj, uk, ul, um, uq, ur, ut, uw, ux, varE, varA, varI, varP, frE, bltFr, uy, uz, uA, uB, uC, uD, uE, uF, uG, uH, uI, uJ, uK, uL, uM, uN, uO, uP, uQ, uR, uS, startS, uT, uU, uV, List.getElem?_cons_succ, List.getElem?_cons_zero, List.set_cons_zero, List.set_cons_succ, List.cons_append, List.nil_append, List.append_nil, List.length_cons, List.length_nil, List.length_set, List.map_cons, List.map_nil, List.contains_cons, List.contains_nil, List.replicate_succ, List.replicate_zero, List.zipWith_cons_cons, List.zipWith_nil_left, List.zipWith_nil_right, Option.getD_some, Option.getD_none, Bool.or_false, Bool.false_or, Bool.or_true, Bool.true_or, Bool.and_true, Bool.true_and, Bool.and_false, Bool.false_and, Bool.not_true, Bool.not_false, Bool.false_eq_true, beq_self_eq_true, decide_true, decide_false, and_self, and_true, true_and, if_true, if_false, ↓reduceIte, reduceCtorEq, Nat.reduceAdd, Nat.reduceSub, Nat.reduceLT, Nat.reduceLeDiff, Nat.reduceEqDiff, Nat.reduceBEq, Int.reduceNeg, Nat.add_zero, Nat.zero_add, List.all_cons, List.all_nil, noLC, noLs, noL, Option.some.injEq])
theorem turn_nx {tg : List Nat} {body : SE → Cs → RR} {x : IV} {xs : List IV} {s s' s'' : SE} {cs cs' : Cs} (h : setTS s tg x = some s') (g : body s' cs = .nx s'' cs') : forGo tg body (x :: xs) s cs = forGo tg body xs s'' cs' := by
  rw [forGo_cons, h, yS, g, xS]
theorem set1 (s : SE) (i : Nat) (x : IV) : setTS s [i] x = some (s.set i (.val x)) := rfl
theorem part_go (Φ : Fns) : ∀ (n : Nat) (xs : List IV) (x y g : Int) (z w : SL) (cs : Cs), xs.length = n → eu n x y = (g, 0) → (w = .no ∨ ∃ i, w = .val (.int i)) → ∃ z' w', forGo [2] (exB ffr Φ false lb25_0) xs [.val (.int x), .val (.int y), z, w] cs = .nx [.val (.int g), .val (.int 0), z', w'] cs ∧ (noOwn [z] = true → noOwn [z', w'] = true) := by
  intro n
  induction n with
  | zero =>
    intro xs x y g z w cs hl h hw
    have : xs = [] := List.length_eq_zero_iff.mp hl
    subst this
    cases h
    refine ⟨z, w, rfl, fun hz => ?_⟩
    rcases hw with rfl | ⟨i, rfl⟩ <;> cases z <;> simp_all [noOwn]
  | succ n ih =>
    intro xs x y g z w cs hl h hw
    cases xs with
    | nil => cases hl
    | cons v xs =>
      have hl' : xs.length = n := by simpa using hl
      have hno : noOwn [.val (.int x), .val (.int y), .val v, w] = true := by
        rcases hw with rfl | ⟨i, rfl⟩ <;> rfl
      by_cases hy : 0 < y
      · unfold eu at h
        rw [if_pos hy] at h
        obtain ⟨z', w', e, f⟩ := ih xs y (x.fmod y) g (.val v) (.val (.int (x.fmod y))) cs hl' h (.inr ⟨_, rfl⟩)
        refine ⟨z', w', ?_, fun _ => f rfl⟩
        rw [turn_nx (set1 _ _ _) (s'' := [.val (.int y), .val (.int (x.fmod y)), .val v, .val (.int (x.fmod y))]) (cs' := cs)]
        · exact e
        · rcases hw with rfl | ⟨i, rfl⟩ <;> simp_arith only [lb25_0, hy, b_mod, show y ≠ 0 from by omega, ne_eq, not_false_eq_true]
      · have e1 : eu (n + 1) x y = (x, y) := by simp [eu, hy]
        have e2 : eu n x y = (x, y) := by cases n <;> simp [eu, hy]
        obtain ⟨z', w', e, f⟩ := ih xs x y g (.val v) w cs hl' (by rw [e2, ← e1]; exact h) hw
        refine ⟨z', w', ?_, fun _ => f rfl⟩
        rw [turn_nx (set1 _ _ _) (s'' := [.val (.int x), .val (.int y), .val v, w]) (cs' := cs)]
        · exact e
        · rcases hw with rfl | ⟨i, rfl⟩ <;> simp_arith only [lb25_0, hy]
theorem rng_len (i : Int) (n : Nat) : (rngI i n).length = n := by unfold rngI; simp
theorem f_part (n : Nat) (x y : Int) (cs : Cs) (k : Nat) (h : y.natAbs ≤ 2 ^ k) (hk : k < 299) : (lvl P (n + 1)).fn 25 [.int x, .int y] cs = .ok (.int (Int.gcd x y)) cs := by
  rw [fn_eq]
  show outF false (exB ffr (lvl P n) false bd25 (startS 4 [.int x, .int y]) cs) = _
  have e := eu_ok (n := 600) (x := (x.natAbs : Int)) (y := (y.natAbs : Int)) (by omega) (by omega) k (by simpa using h) (by omega)
  obtain ⟨z', w', e1, f⟩ := part_go (lvl P n) 600 (rngI 0 600) _ _ _ .no .no cs (rng_len _ _) e (.inl rfl)
  have f := f rfl
  have hno : noOwn [.val (.int ((x.natAbs : Int).gcd (y.natAbs : Int))), .val (.int 0), z', w'] = true := f
  simp_arith only [bd25, abs_if, rng_int, Int.reducePow, Int.reduceLE, Int.reduceLT, Int.reduceToNat, e1, hno]
  simp [Int.gcd]
theorem f_least (n : Nat) (x y : Int) (cs : Cs) (k : Nat) (h : y.natAbs ≤ 2 ^ k) (hk : k < 299) (hy : y ≠ 0) : (lvl P (n + 2)).fn 26 [.int x, .int y] cs = .ok (.tup [.int ((x : Rat) / (y : Rat)).num, .int ((x : Rat) / (y : Rat)).den]) cs := by
  rw [fn_eq]
  show outF false (exB ffr (lvl P (n + 1)) false bd26 (startS 3 [.int x, .int y]) cs) = _
  have e1 := f_part n x y cs k h hk
  have g0 : (Int.gcd x y : Int) ≠ 0 := fun z => hy (Int.eq_zero_of_gcd_eq_zero_right (a := x) (by omega))
  have gl : (Int.gcd x y) ≤ y.natAbs := Nat.le_of_dvd (by omega) (Int.natCast_dvd_natCast.mp (by rw [Int.dvd_natAbs]; exact Int.gcd_dvd_right x y))
  have sg : smallI (Int.gcd x y : Int) = true := smallI_le (n := k) (by simp; omega) (by omega)
  have sn : smallI (-(Int.gcd x y : Int)) = true := smallI_le (n := k) (by simp; omega) (by omega)
  have pn := part_num (x := x) (y := y) hy rfl
  have pd := part_den (x := x) (y := y) hy rfl
  simp_arith only [bd26, e1]
  by_cases h0 : y < 0
  · rw [if_pos h0] at pn pd
    simp_arith only [h0, Int.zero_sub, b_fdiv, sn, pn, pd, ne_eq, not_false_eq_true, Int.neg_eq_zero, g0]
  · rw [if_neg h0] at pn pd
    simp_arith only [h0, b_fdiv, sg, pn, pd, ne_eq, not_false_eq_true, g0]
theorem f_isint (n : Nat) (x : Int) (cs : Cs) : (lvl P (n + 1)).fn 27 [.int x] cs = .ok (.bl true) cs := by
  rw [fn_eq]
  show outF false (exB ffr (lvl P n) false bd27 (startS 1 [.int x]) cs) = _
  simp_arith only [bd27]
end EL

-- PlS
/-! Plain part S: the stream of digits. -/
namespace EL
open EG PySem L2
local macro_rules | `(tactic| simp_arith only [$l,*]) => `(tactic| simp -dsimp only [$l,*, za, zb, zc, zd, zf, zg, zh, zm, zo, zp, zq, zr, zt, zu, zv, zw, zx, zy, zA, zB, zC, zD, zE, zF, zG, zH, zI, zJ, zK, zL, zM, zN, zO, zP, zQ, zR, zS, zT, zU, zV, zW, zX, zY, zZ, ya, yb, yc, yd, ye, yf, yg, yh, yj, yk, ym, yn, yo, yp, yq, yr, yt, yu, yw, yx, yy, yz, yA, yB, yC, yD, yE, yF, yG, yH, yI, yJ, yK, yL, yM, yN, yO, yP, yQ, yR, yS, yT, yU, yV, yW, yX, yY, yZ, xa, xb, xf, xg, xh, xi, xj, xk, xl, xn, xo, xp, xq, xr, xt, xu, xw, xy, xz, xA, xB, xC, xD, xE, xF, xG, xH, xI, xJ, xK, xL, xM, xN, xP, xQ, xR, xS, xT, xU, xV, xW, xX, xY, xZ, wa, isRng, wd, we, wf, wg, wi, wj, wk, intO, lstO, celL, wl, wm, wn, wo, wp, wq, wt, wu, wv, ww, wx, wy, wz, wA, wB, wC, wD, wE, wF, wG, wH, wI, wJ, wK, wL, wM, wN, wO, wP, wQ, wR, wS, wT, wU, wV, wW, wX, wY, wZ, vb, Option.map_some, List.sum_cons, List.sum_nil, vc, vd, ve, vf, vg, vh, vi, vj, vk, vm, vn, vp, vr, vt, vw, vx, vy, vz, vA, vB, vC, vD, vE, vF, vG, vH, vI, vJ, vK, vL, vM, vN, vO, vP, vQ, vR, vS, vT, vU, vV, vW, vX, vY, vZ, ua, ub, uc, ud, ue, uf, ug, uh, ui, isiI, uj, uk, ul, um, uq, ur, ut, uw, ux, varE, varA, varI, varP, frE, bltFr, uy, uz, uA, uB, uC, uD, uE, uF, uG, uH, uI, uJ, uK, uL, uM, uN, uO, uP, uQ, uR, uS, startS, uT, uU, uV, List.getElem?_cons_succ, List.getElem?_cons_zero, List.set_cons_zero, List.set_cons_succ, List.cons_append, List.nil_append, List.append_nil, List.length_cons, List.length_nil, List.length_set, List.map_cons, List.map_nil, List.contains_cons, List.contains_nil, List.replicate_succ, List.replicate_zero, List.zipWith_cons_cons, List.zipWith_nil_left, List.zipWith_nil_right, Option.getD_some, Option.getD_none, Bool.or_false, Bool.false_or, Bool.or_true, Bool.true_or, Bool.and_true, Bool.true_and, Bool.and_false, Bool.false_and, Bool.not_true, Bool.not_false, Bool.false_eq_true, beq_self_eq_true, decide_true, decide_false, and_self, and_true, true_and, if_true, if_false, ↓reduceIte, reduceCtorEq, Nat.reduceAdd, Nat.reduceSub, Nat.reduceLT, Nat.reduceLeDiff, Nat.reduceEqDiff, Nat.reduceBEq, Int.reduceNeg, Nat.add_zero, Nat.zero_add, List.all_cons, List.all_nil, noLC, noLs, noL, Option.some.injEq])
theorem rngI_succ (i : Int) (n : Nat) : rngI i (n + 1) = .int i :: rngI (i + 1) n := by
  unfold rngI
  rw [List.range_succ_eq_map, List.map_cons, List.map_map]
  congr 1
  · simp
  · apply List.map_congr_left
    intro a _
    simp -dsimp only [Function.comp, Nat.succ_eq_add_one, Int.natCast_add]
    congr 1
    omega
theorem rngI_zero (i : Int) : rngI i 0 = [] := rfl
def isDg (m : Int) (ds : List Int) : Prop := ∀ d ∈ ds, 0 ≤ d ∧ d < m
theorem isDg.app {m : Int} {ds es : List Int} (h : isDg m ds) (g : isDg m es) : isDg m (ds ++ es) := fun d hd => (List.mem_append.mp hd).elim (h d) (g d)
theorem isDg.one {m d : Int} (h : 0 ≤ d) (g : d < m) : isDg m [d] := fun e he => by rw [List.mem_singleton.mp he]; exact ⟨h, g⟩
theorem isDg.nil {m : Int} : isDg m [] := fun _ h => nomatch h
theorem noLs_ints (ds : List Int) : noLs (ds.map .int) = true := by
  induction ds with
  | nil => rfl
  | cons d ds ih => rw [List.map_cons, noLs, ih]; rfl
theorem smallI_lit (n : Nat) (h : n < 2 ^ 100) : smallI (n : Int) = true := smallI_le (n := 100) (by simp; omega) (by omega)
theorem fmod_rng (x : Int) {m : Int} (h : 0 < m) : 0 ≤ x.fmod m ∧ x.fmod m < m := ⟨Int.fmod_nonneg_of_pos x h, Int.fmod_lt_of_pos x h⟩
theorem fdiv_nn {x m : Int} (h : 0 ≤ x) (hm : 0 < m) : 0 ≤ x.fdiv m := Int.fdiv_nonneg h (by omega)
theorem natAbs_lt2 {x : Int} {k : Nat} (h : 0 ≤ x) (g : x < 2 ^ k) : x.natAbs ≤ 2 ^ k := by
  have e : ((2 ^ k : Nat) : Int) = (2 : Int) ^ k := by rw [Int.natCast_pow]; rfl
  omega
theorem rng_nat (m : Nat) (cs : Cs) (h : m < 1000000) : rngC (.int (m : Int)) cs = .ok (rngI 0 m) cs := by
  rw [rng_int, if_pos]
  · rw [Int.toNat_natCast]
  · refine ⟨?_, ?_⟩
    · exact Int.le_trans (by decide) (Int.natCast_nonneg m)
    · have : (m : Int) < 1000000 := by omega
      exact Int.lt_trans this (by decide)
theorem f_cell (n : Nat) (ns : List Int) (k : Nat) (cs : Cs) : (lvl P (n + 1)).fn 21 [.scr ns, .int k] cs = .ok (.int (ns.getD k 0)) cs := by
  rw [fn_eq]
  show outF false (exB ffr (lvl P n) false bd21 (startS 2 [.scr ns, .int k]) cs) = _
  simp_arith only [bd21]
  by_cases h : (k : Int) < ns.length
  · have h' : k < ns.length := by omega
    simp_arith only [h, at_nat, List.getElem?_eq_getElem h', List.getD_eq_getElem?_getD]
  · have h' : ns.length ≤ k := by omega
    simp_arith only [h, List.getD_eq_getElem?_getD, List.getElem?_eq_none h']
theorem draw_go (Φ : Fns) (fr : Bool) (c : Int) (cnt : Nat) (gr : Bool) : ∀ (m : Nat) (i : Nat) (num : Int) (ds : List Int) (w z : SL) (cs : Cs), 0 ≤ num → (gr = false → num < 10 ^ 18) → isDg 60 ds → ds.length ≤ i → i + m ≤ 60 → (z = .no ∨ ∃ v, z = .val v) →
    ∃ num' ds' w' z', forGo [5] (exB ffr Φ fr lb22_0) (rngI i m) [.val (.int c), .val (.int cnt), .val (.int num), .val (.bl gr), .own (ds.map .int), w, z] cs = .nx [.val (.int c), .val (.int cnt), .val (.int num'), .val (.bl gr), .own (ds'.map .int), w', z'] cs ∧ isDg 60 ds' ∧ ds'.length = ds.length + (min (i + m) cnt - min i cnt) := by
  intro m
  induction m with
  | zero => exact fun i num ds w z cs h1 h2 h3 h4 h5 h6 => ⟨num, ds, w, z, rfl, h3, by omega⟩
  | succ m ih =>
    intro i num ds w z cs h1 h2 h3 h4 h5 hz
    rw [rngI_succ]
    have hl : (ds.map IV.int).length < 1000000 := by simp; omega
    have hap : ∀ d : Int, ds.map IV.int ++ [.int d] = (ds ++ [d]).map IV.int := fun d => by simp
    by_cases hc : i < cnt
    · have hc' : (i : Int) < (cnt : Int) := by omega
      cases gr with
      | true =>
        have r := fmod_rng num (m := 60) (by decide)
        obtain ⟨num', ds', w', z', e, f1, f2⟩ := ih (i + 1) (num.fdiv 60) (ds ++ [num.fmod 60]) (.val (.int i)) z cs (fdiv_nn h1 (by decide)) (fun h => nomatch h) (h3.app (.one r.1 r.2)) (by simp; omega) (by omega) hz
        refine ⟨num', ds', w', z', ?_, f1, by rw [f2]; simp; omega⟩
        rw [turn_nx (set1 _ _ _) (s'' := [.val (.int c), .val (.int cnt), .val (.int (num.fdiv 60)), .val (.bl true), .own ((ds ++ [num.fmod 60]).map .int), .val (.int i), z]) (cs' := cs)]
        · exact e
        · have s60 : smallI 60 = true := by decide
          rcases hz with rfl | ⟨v, rfl⟩ <;> simp_arith only [lb22_0, hc', b_mod, b_fdiv, hl, hap, s60, ne_eq, not_false_eq_true, Int.reduceEq]
      | false =>
        have n2 := h2 rfl
        generalize hm : (num * 48271 + i * 69621 + 11).fmod 2147483647 = mx
        have r := fmod_rng (num * 48271 + i * 69621 + 11) (m := 2147483647) (by decide)
        rw [hm] at r
        generalize hm2 : (mx * mx + i * 7919 + 5).fmod 998244353 = my
        have r2 := fmod_rng (mx * mx + i * 7919 + 5) (m := 998244353) (by decide)
        rw [hm2] at r2
        have r3 := fmod_rng my (m := 60) (by decide)
        obtain ⟨num', ds', w', z', e, f1, f2⟩ := ih (i + 1) num (ds ++ [my.fmod 60]) (.val (.int i)) (.val (.int my)) cs h1 h2 (h3.app (.one r3.1 r3.2)) (by simp; omega) (by omega) (.inr ⟨_, rfl⟩)
        refine ⟨num', ds', w', z', ?_, f1, by rw [f2]; simp; omega⟩
        rw [turn_nx (set1 _ _ _) (s'' := [.val (.int c), .val (.int cnt), .val (.int num), .val (.bl false), .own ((ds ++ [my.fmod 60]).map .int), .val (.int i), .val (.int my)]) (cs' := cs)]
        · exact e
        · have s1 : smallW num = true := smallW_le (n := 60) (natAbs_lt2 h1 (by omega)) (by omega)
          have s2 : smallW 48271 = true := by decide
          have s3 : smallW (i : Int) = true := smallW_le (n := 60) (by simp; omega) (by omega)
          have s4 : smallW 69621 = true := by decide
          have s5 : smallW mx = true := smallW_le (n := 60) (natAbs_lt2 r.1 (by omega)) (by omega)
          have s6 : smallW 7919 = true := by decide
          rcases hz with rfl | ⟨v, rfl⟩ <;> simp_arith only [lb22_0, hc', b_mod, b_mul, hl, hap, s1, s2, s3, s4, s5, s6, hm, hm2, ne_eq, not_false_eq_true, Int.reduceEq]
    · have hc' : ¬ (i : Int) < (cnt : Int) := by omega
      obtain ⟨num', ds', w', z', e, f1, f2⟩ := ih (i + 1) num ds (.val (.int i)) z cs h1 h2 h3 (by omega) (by omega) hz
      refine ⟨num', ds', w', z', ?_, f1, by rw [f2]; omega⟩
      rw [turn_nx (set1 _ _ _) (s'' := [.val (.int c), .val (.int cnt), .val (.int num), .val (.bl gr), .own (ds.map .int), .val (.int i), z]) (cs' := cs)]
      · exact e
      · rcases hz with rfl | ⟨v, rfl⟩ <;> simp_arith only [lb22_0, hc']
theorem f_draws (n : Nat) (c : Int) (cnt : Nat) (cs : Cs) (h : cnt ≤ 60) : ∃ ds : List Int, ds.length = cnt ∧ isDg 60 ds ∧ (lvl P (n + 1)).fn 22 [.int c, .int cnt] cs = .ok (.lst (ds.map .int)) cs := by
  obtain ⟨num', ds', w', z', e, f1, f2⟩ := draw_go (lvl P n) false c cnt (decide ((10 : Int) ^ 18 ≤ (c.natAbs : Int))) 60 0 c.natAbs [] .no .no cs (by omega) (fun h => by simp at h; omega) .nil (Nat.le_refl _) (Nat.le_refl _) (.inl rfl)
  refine ⟨ds', by rw [f2]; simp; omega, f1, ?_⟩
  rw [fn_eq]
  show outF false (exB ffr (lvl P n) false bd22 (startS 7 [.int c, .int cnt]) cs) = _
  simp_arith only [bd22, abs_if, b_pow, show (0 : Int) ≤ 18 ∧ (18 : Int) ≤ 1000 ∧ (10 : Int).natAbs < 1000 from by decide, rng_int, Int.reducePow, Int.reduceLE, Int.reduceLT, Int.reduceToNat]
  simp -dsimp only [List.map_nil, Int.reducePow] at e
  rw [show ((0 : Nat) : Int) = 0 from rfl] at e
  simp_arith only [e]
theorem stream_go (n : Nat) (ns : List Int) (f m0 : Nat) : ∀ (m : Nat) (i : Nat) (ds : List Int) (w : SL) (cs : Cs), isDg 60 ds → ds.length = 12 * i → i + m ≤ 60 →
    ∃ ds' w', forGo [4] (exB ffr (lvl P (n + 1)) false lb23_0) (rngI i m) [.val (.scr ns), .val (.int f), .val (.int m0), .own (ds.map .int), w] cs = .nx [.val (.scr ns), .val (.int f), .val (.int m0), .own (ds'.map .int), w'] cs ∧ isDg 60 ds' ∧ ds'.length = 12 * (i + m) := by
  intro m
  induction m with
  | zero => exact fun i ds w cs h1 h2 h3 => ⟨ds, w, rfl, h1, h2⟩
  | succ m ih =>
    intro i ds w cs h1 h2 h3
    obtain ⟨es, g1, g2, g3⟩ := f_draws n (ns.getD (f + i) 0) 12 cs (by decide)
    obtain ⟨ds', w', e, f1, f2⟩ := ih (i + 1) (ds ++ es) (.val (.int i)) cs (h1.app g2) (by simp; omega) (by omega)
    refine ⟨ds', w', ?_, f1, by omega⟩
    rw [rngI_succ, turn_nx (set1 _ _ _) (s'' := [.val (.scr ns), .val (.int f), .val (.int m0), .own ((ds ++ es).map .int), .val (.int i)]) (cs' := cs)]
    · exact e
    · have hl : (ds.map IV.int).length + (es.map IV.int).length < 1000000 := by simp; omega
      have c := f_cell n ns (f + i) cs
      rw [Int.natCast_add] at c
      have g3 := g3
      rw [show ((12 : Nat) : Int) = 12 from rfl] at g3
      simp_arith only [lb23_0, c, g3, hl, noLs_ints]
      simp
theorem f_stream (n : Nat) (ns : List Int) (m : Nat) (cs : Cs) (h : m ≤ 60) : ∃ ds : List Int, ds.length = 12 * m ∧ isDg 60 ds ∧ (lvl P (n + 2)).fn 23 [.scr ns, .int 0, .int m] cs = .ok (.lst [.lst (ds.map .int), .cell cs.length]) (cs ++ [.lst [.int 0]]) := by
  obtain ⟨ds, w', e, f1, f2⟩ := stream_go n ns 0 m m 0 [] .no cs .nil (Eq.refl _) (by omega)

  refine ⟨ds, by omega, f1, ?_⟩
  rw [fn_eq]
  show outF false (exB ffr (lvl P (n + 1)) false bd23 (startS 5 [.scr ns, .int 0, .int m]) cs) = _
  simp -dsimp only [List.map_nil] at e
  rw [show ((0 : Nat) : Int) = 0 from rfl] at e
  simp_arith only [bd23, rng_nat m _ (show m < 1000000 by omega), e]
theorem f_stream0 (n : Nat) (ns : List Int) (m : Nat) (h : m ≤ 60) (hm : 0 < m) : ∃ ds : List Int, 0 < ds.length ∧ (lvl P (n + 2)).fn 23 [.scr ns, .int 0, .int m] [] = .ok (.lst [.lst (ds.map .int), .cell 0]) [.lst [.int 0]] := by
  obtain ⟨ds, h1, h2, h3⟩ := f_stream n ns m [] h
  exact ⟨ds, by omega, h3⟩
/-- a digit -/
def dg (ds : List Int) (p : Nat) (m : Int) : Int := (ds.getD (p % ds.length) 0).fmod m
/-- the place in the stream -/
def cst (p : Nat) : Cs := [.lst [.int p]]
theorem cst_all (p : Nat) : (cst p).all noLC = true := id rfl
theorem f_next (n : Nat) (ds : List Int) (p : Nat) (m : Int) (hm : m ≠ 0) (hd : 0 < ds.length) : (lvl P (n + 1)).fn 24 [.lst [.lst (ds.map .int), .cell 0], .int m] (cst p) = .ok (.int (dg ds p m)) (cst (p + 1)) := by
  unfold cst
  rw [fn_eq]
  show outF false (exB ffr (lvl P n) false bd24 (startS 5 [.lst [.lst (ds.map .int), .cell 0], .int m]) [.lst [.int p]]) = _
  have h1 : ((ds.length : Int) ≠ 0) := by omega
  have h2 : (p : Int).fmod (ds.length : Int) = ((p % ds.length : Nat) : Int) := (Int.ofNat_fmod _ _).symm
  have h3 : p % ds.length < ds.length := Nat.mod_lt _ hd
  have h4 : (ds.map IV.int)[p % ds.length]? = some (.int (ds.getD (p % ds.length) 0)) := by
    rw [List.getElem?_map, List.getElem?_eq_getElem h3, List.getD_eq_getElem?_getD, List.getElem?_eq_getElem h3]
    rfl
  simp_arith only [bd24, b_mod, hm, h1, h2, h4, at_nat, List.length_map, ne_eq, not_false_eq_true]
  simp_arith only [show ixN 1 0 = some 0 from by decide, Int.natCast_add, dg]
  rfl
theorem dg_rng (ds : List Int) (p : Nat) {m : Int} (h : 0 < m) : 0 ≤ dg ds p m ∧ dg ds p m < m := fmod_rng _ h
end EL

-- PlV
/-! Plain part V: vectors. -/
namespace EL
open EG PySem L2
/-- a vector -/
def vv (x y z : Rat) : IV := .tup [qv x, qv y, qv z]
abbrev dt (a0 a1 a2 b0 b1 b2 c0 c1 c2 : Rat) : Rat := a0 * (b1 * c2 - b2 * c1) - a1 * (b0 * c2 - b2 * c0) + a2 * (b0 * c1 - b1 * c0)
theorem vv_sub (x y z : Rat) (i : Int) (cs : Cs) : subI (vv x y z) (.int i) cs = R.ofO (atI [qv x, qv y, qv z] i) cs := id rfl
theorem vv_keep (f : Bool) (x y z : Rat) : keepI f (vv x y z) = true := id rfl
theorem vv_noL (x y z : Rat) : noL (vv x y z) = true := id rfl
theorem vv_newS (f : Bool) (x y z : Rat) : newS f (vv x y z) = .val (vv x y z) := id rfl
theorem vv_seq (x y z : Rat) : seqI (vv x y z) = some [qv x, qv y, qv z] := id rfl
theorem vv_zip (x y z x' y' z' : Rat) (cs : Cs) : zipC (vv x y z) (vv x' y' z') cs = .ok [.tup [qv x, qv x'], .tup [qv y, qv y'], .tup [qv z, qv z']] cs := id rfl
theorem tup_vv (x y z : Rat) : IV.tup [qv x, qv y, qv z] = vv x y z := id rfl
theorem e_vv (n : Nat) (x y z x' y' z' : Rat) : eqG (lvl P (n + 1)) (vv x y z) (vv x' y' z') = some (decide (x = x' ∧ y = y' ∧ z = z')) := by
  rw [e_any]
  unfold vv
  rw [eF_tup, eL_cons _ _ _ _ _ _ _ (eF_qq _ _ _) (eL_cons _ _ _ _ _ _ _ (eF_qq _ _ _) (eL_cons _ _ _ _ _ _ _ (eF_qq _ _ _) (eL_nil _)))]
  simp
theorem comp_nil (turn : IV → List IV → Cs → R (List IV)) (acc : List IV) (cs : Cs) : compGo turn [] acc cs = .ok acc cs := id rfl
theorem comp_cons (turn : IV → List IV → Cs → R (List IV)) (x : IV) (xs acc : List IV) (cs : Cs) : compGo turn (x :: xs) acc cs = ((turn x acc cs).bind <| lk fun acc cs => compGo turn xs acc cs) := id rfl
theorem turn_eq (Φ : Fns) (env : EG.Env) (own tg : List Nat) (cond : CP) (elt : CE) (x : IV) (acc : List IV) (cs : Cs) : cTurn Φ env own tg cond elt x acc cs = (((R.ofO (setTg (wipeE env own) tg x) cs).bind <| lk fun env' cs => (evc Φ cond env' cs).bind <| lk fun b cs =>
      sel b ((ev Φ false elt env' cs).bind <| lk fun y cs => .ok (acc ++ [y]) cs) (.ok acc cs)).noexc) := id rfl
/-- vectors -/
abbrev V3 := Rat × Rat × Rat
def vq (v : V3) : IV := vv v.1 v.2.1 v.2.2
def Bv (v : V3) (n d : Nat) : Prop := Bd v.1 n d ∧ Bd v.2.1 n d ∧ Bd v.2.2 n d
def addV (u v : V3) : V3 := (u.1 + v.1, u.2.1 + v.2.1, u.2.2 + v.2.2)
def sumV (l : List V3) : V3 := l.foldl addV (0, 0, 0)
theorem noLs_vq (l : List V3) : noLs (l.map vq) = true := by
  induction l with
  | nil => rfl
  | cons d ds ih => rw [List.map_cons, noLs, ih]; rfl
theorem addV_bd {u v : V3} {i n d : Nat} (hu : Bv u (n + i * (d + 1)) (i * d)) (hv : Bv v n d) : Bv (addV u v) (n + (i + 1) * (d + 1)) ((i + 1) * d) := by
  obtain ⟨a1, a2, a3⟩ := hu
  obtain ⟨b1, b2, b3⟩ := hv
  have e1 : max (n + i * (d + 1) + d) (n + i * d) + 1 ≤ n + (i + 1) * (d + 1) := by
    have : i * (d + 1) = i * d + i := by rw [Nat.mul_add, Nat.mul_one]
    have : (i + 1) * (d + 1) = i * d + i + d + 1 := by rw [Nat.add_mul, Nat.one_mul]; omega
    omega
  have e2 : i * d + d ≤ (i + 1) * d := by rw [Nat.add_mul, Nat.one_mul]; exact Nat.le_refl _
  exact ⟨Bd.add.mono e1 e2, Bd.add.mono e1 e2, Bd.add.mono e1 e2⟩
theorem zero_bd (n d : Nat) : Bv (0, 0, 0) n d := ⟨Bd.zero.mono (by omega) (by omega), Bd.zero.mono (by omega) (by omega), Bd.zero.mono (by omega) (by omega)⟩
end EL

-- PlT
/-! Plain part T: totals. -/
namespace EL
open EG PySem L2
theorem f_cell_lit (n : Nat) (ns : List Int) (k : Nat) (cs : Cs) : (lvl P (n + 1)).fn 21 [.scr ns, .int (no_index (OfNat.ofNat k))] cs = .ok (.int (ns.getD k 0)) cs := f_cell n ns k cs
theorem e_bl (n : Nat) (a b : Bool) : eqG (lvl P (n + 1)) (.bl a) (.bl b) = some (a == b) := id rfl
theorem sub_lst_q (l : List Rat) : noLs (l.map qv) = true := by
  induction l with
  | nil => rfl
  | cons d ds ih => rw [List.map_cons, noLs, ih]; rfl
theorem addR_bd {u v : Rat} {i n d : Nat} (hu : Bd u (n + i * (d + 1)) (i * d)) (hv : Bd v n d) : Bd (u + v) (n + (i + 1) * (d + 1)) ((i + 1) * d) := by
  have e1 : max (n + i * (d + 1) + d) (n + i * d) + 1 ≤ n + (i + 1) * (d + 1) := by
    have : i * (d + 1) = i * d + i := by rw [Nat.mul_add, Nat.mul_one]
    have : (i + 1) * (d + 1) = i * d + i + d + 1 := by rw [Nat.add_mul, Nat.one_mul]; omega
    omega
  have e2 : i * d + d ≤ (i + 1) * d := by rw [Nat.add_mul, Nat.one_mul]; exact Nat.le_refl _
  exact Bd.add.mono e1 e2
def sumR (l : List Rat) : Rat := l.foldl (· + ·) 0
end EL

-- PlP
/-! Plain part P: quotients as pairs, as the laws reckon them. -/
namespace EL
open EG PySem L2
def pv (a : Rat) : IV := .tup [.int a.num, .int a.den]
instance Bd.inum {a : Rat} {p q : Nat} [A : Bd a p q] : Bi a.num p := ⟨A.t⟩
instance Bd.iden {a : Rat} {p q : Nat} [A : Bd a p q] : Bi (a.den : Int) q := ⟨by simpa using A.b⟩
theorem pv_0 (a : Rat) (cs : Cs) : subI (pv a) (.int 0) cs = .ok (.int a.num) cs := id rfl
theorem pv_1 (a : Rat) (cs : Cs) : subI (pv a) (.int 1) cs = .ok (.int a.den) cs := id rfl
theorem pv_keep (f : Bool) (a : Rat) : keepI f (pv a) = true := id rfl
theorem pv_noL (a : Rat) : noL (pv a) = true := id rfl
theorem pv_newS (f : Bool) (a : Rat) : newS f (pv a) = .val (pv a) := id rfl
theorem pv_zero : IV.tup [.int 0, .int 1] = pv 0 := id rfl
theorem noLs_pv (l : List Rat) : noLs (l.map pv) = true := by
  induction l with
  | nil => rfl
  | cons d ds ih => rw [List.map_cons, noLs, ih]; rfl
section
variable (J : Nat → Bool) (Φ : Fns) (s : SE) (cs : Cs)
theorem exS_retL (as : CA) : exS J Φ true (.ret (.lst as)) s cs = RR.of (varE (.lst as)) (keepI true) s (ev Φ false (.lst as) (opnM (varE (.lst as)) s) cs) (lk fun v _ cs => .rt v cs) := by
  unfold exS; rfl
theorem exS_retC (elt : CE) (own tg : List Nat) (it : CI) (cond : CP) : exS J Φ true (.ret (.comp elt own tg it cond)) s cs = RR.of (varE (.comp elt own tg it cond)) (keepI true) s (ev Φ false (.comp elt own tg it cond) (opnM (varE (.comp elt own tg it cond)) s) cs) (lk fun v _ cs => .rt v cs) := by
  unfold exS; rfl
end
/-- a comprehension, item by item -/
theorem comp_map {turn : IV → List IV → Cs → R (List IV)} {α : Type} (g h : α → IV) (cs : Cs) : ∀ (l : List α) (acc : List IV), (∀ x ∈ l, ∀ acc, turn (g x) acc cs = .ok (acc ++ [h x]) cs) → compGo turn (l.map g) acc cs = .ok (acc ++ l.map h) cs := by
  intro l
  induction l with
  | nil => intro acc _; rw [List.map_nil, comp_nil, List.map_nil, List.append_nil]
  | cons x l ih =>
    intro acc w
    rw [List.map_cons, comp_cons, w x List.mem_cons_self, yJ, ih _ fun y hy => w y (List.mem_cons_of_mem _ hy)]
    simp
theorem comp_filter {turn : IV → List IV → Cs → R (List IV)} {α : Type} (g h : α → IV) (p : α → Bool) (cs : Cs) : ∀ (l : List α) (acc : List IV), (∀ x ∈ l, ∀ acc, turn (g x) acc cs = .ok (if p x then acc ++ [h x] else acc) cs) → compGo turn (l.map g) acc cs = .ok (acc ++ (l.filter p).map h) cs := by
  intro l
  induction l with
  | nil => intro acc _; rw [List.map_nil, comp_nil]; simp
  | cons x l ih =>
    intro acc w
    rw [List.map_cons, comp_cons, w x List.mem_cons_self, yJ, ih _ fun y hy => w y (List.mem_cons_of_mem _ hy), List.filter_cons]
    split <;> simp
section
variable (n : Nat) (a b : Rat) (cs : Cs) {p q r s : Nat} [A : Bd a p q] [B : Bd b r s]
theorem f_leastB (x y : Int) {k : Nat} [C : Bi y k] (hk : k < 299) (hy : y ≠ 0) : (lvl P (n + 2)).fn 26 [.int x, .int y] cs = .ok (pv ((x : Rat) / (y : Rat))) cs := f_least n x y cs k C.h hk hy
include A B
omit A
end
theorem rngI_map (n : Nat) : rngI 0 n = (List.range n).map fun k => IV.int (k : Nat) := by
  unfold rngI
  apply List.map_congr_left
  intro a _
  congr 1
  omega
/-- the stream -/
def strm (ds : List Int) : IV := .lst [.lst (ds.map .int), .cell 0]
theorem f_nextS (n : Nat) (ds : List Int) (hd : 0 < ds.length) (p : Nat) (m : Int) (hm : m ≠ 0) : (lvl P (n + 1)).fn 24 [strm ds, .int m] (cst p) = .ok (.int (dg ds p m)) (cst (p + 1)) := f_next n ds p m hm hd
theorem newS_strm (ds : List Int) : newS false (strm ds) = .val (strm ds) := id rfl
theorem f_streamS (n : Nat) (ns : List Int) (m : Nat) (h : m ≤ 60) (hm : 0 < m) : ∃ ds : List Int, 0 < ds.length ∧ (lvl P (n + 2)).fn 23 [.scr ns, .int 0, .int (no_index (OfNat.ofNat m))] [] = .ok (strm ds) (cst 0) := f_stream0 n ns m h hm
theorem strm_keep (f : Bool) (ds : List Int) : newS f (.lst [.lst (ds.map .int), .cell 0]) = if f then .own [.lst (ds.map .int), .cell 0] else .val (strm ds) := id rfl
end EL

-- PlM
/-! Plain part M: mixtures. -/
namespace EL
open EG PySem L2
def lv (x y z : Rat) : IV := .lst [pv x, pv y, pv z]
theorem lv_sub (x y z : Rat) (i : Int) (cs : Cs) : subI (lv x y z) (.int i) cs = R.ofO (atI [pv x, pv y, pv z] i) cs := id rfl
theorem lv_keep (x y z : Rat) : keepI false (lv x y z) = false := id rfl
theorem lv_newS (x y z : Rat) : newS false (lv x y z) = .val (lv x y z) := id rfl
theorem lst_lv (x y z : Rat) : IV.lst [pv x, pv y, pv z] = lv x y z := id rfl
def sclV (a : Rat) (v : V3) : V3 := (a * v.1, a * v.2.1, a * v.2.2)
abbrev dV (a b c : V3) : Rat := dt a.1 a.2.1 a.2.2 b.1 b.2.1 b.2.2 c.1 c.2.1 c.2.2
theorem Bv.mono {v : V3} {n d m e : Nat} (h : Bv v n d) (hn : n ≤ m) (hd : d ≤ e) : Bv v m e := ⟨h.1.mono hn hd, h.2.1.mono hn hd, h.2.2.mono hn hd⟩
theorem dt_bd {a0 a1 a2 b0 b1 b2 c0 c1 c2 : Rat} {k l m : Nat} (s : Nat) (A0 : Bd a0 k k) (A1 : Bd a1 k k) (A2 : Bd a2 k k) (B0 : Bd b0 l l) (B1 : Bd b1 l l) (B2 : Bd b2 l l) (C0 : Bd c0 m m) (C1 : Bd c1 m m) (C2 : Bd c2 m m) (h : k + l + m ≤ s) : Bd (dt a0 a1 a2 b0 b1 b2 c0 c1 c2) (9 * s + 4) (9 * s) := by
  have sq : ∀ {x y z w : Rat}, Bd x l l → Bd y m m → Bd z l l → Bd w m m → Bd (x * y - z * w) (2 * l + 2 * m + 1) (2 * l + 2 * m) := fun _ _ _ _ => Bd.sub.mono (by omega) (by omega)
  have m0 : Bd (a0 * (b1 * c2 - b2 * c1)) (k + 2 * l + 2 * m + 1) (k + 2 * l + 2 * m) := by
    have := sq B1 C2 B2 C1
    exact Bd.mul.mono (by omega) (by omega)
  have m1 : Bd (a1 * (b0 * c2 - b2 * c0)) (k + 2 * l + 2 * m + 1) (k + 2 * l + 2 * m) := by
    have := sq B0 C2 B2 C0
    exact Bd.mul.mono (by omega) (by omega)
  have m2 : Bd (a2 * (b0 * c1 - b1 * c0)) (k + 2 * l + 2 * m + 1) (k + 2 * l + 2 * m) := by
    have := sq B0 C1 B1 C0
    exact Bd.mul.mono (by omega) (by omega)
  have : Bd (a0 * (b1 * c2 - b2 * c1) - a1 * (b0 * c2 - b2 * c0)) (2 * k + 4 * l + 4 * m + 2) (2 * k + 4 * l + 4 * m) := Bd.sub.mono (by omega) (by omega)
  exact Bd.add.mono (by omega) (by omega)
theorem dV_bd {a b c : V3} {k l m : Nat} (s : Nat) (A : Bv a k k) (B : Bv b l l) (C : Bv c m m) (h : k + l + m ≤ s) : Bd (dV a b c) (9 * s + 4) (9 * s) := dt_bd s A.1 A.2.1 A.2.2 B.1 B.2.1 B.2.2 C.1 C.2.1 C.2.2 h
theorem dV_bd2 {a b c : V3} {n d : Nat} (A : Bv a n d) (B : Bv b n d) (C : Bv c n d) : Bd (dV a b c) (3 * n + 12 * d + 3) (15 * d) := by
  obtain ⟨A0, A1, A2⟩ := A
  obtain ⟨B0, B1, B2⟩ := B
  obtain ⟨C0, C1, C2⟩ := C
  have sq : ∀ {x y z w : Rat}, Bd x n d → Bd y n d → Bd z n d → Bd w n d → Bd (x * y - z * w) (2 * n + 2 * d + 1) (4 * d) := fun _ _ _ _ => Bd.sub.mono (by omega) (by omega)
  have s0 := sq B1 C2 B2 C1
  have s1 := sq B0 C2 B2 C0
  have s2 := sq B0 C1 B1 C0
  have m0 : Bd (a.1 * (b.2.1 * c.2.2 - b.2.2 * c.2.1)) (3 * n + 2 * d + 1) (5 * d) := Bd.mul.mono (by omega) (by omega)
  have m1 : Bd (a.2.1 * (b.1 * c.2.2 - b.2.2 * c.1)) (3 * n + 2 * d + 1) (5 * d) := Bd.mul.mono (by omega) (by omega)
  have m2 : Bd (a.2.2 * (b.1 * c.2.1 - b.2.1 * c.1)) (3 * n + 2 * d + 1) (5 * d) := Bd.mul.mono (by omega) (by omega)
  have : Bd (a.1 * (b.2.1 * c.2.2 - b.2.2 * c.2.1) - a.2.1 * (b.1 * c.2.2 - b.2.2 * c.1)) (3 * n + 7 * d + 2) (10 * d) := Bd.sub.mono (by omega) (by omega)
  exact Bd.add.mono (by omega) (by omega)
theorem cramer1 (a b c x : V3) (m1 m2 m3 : Rat) (h : x = (m1 * a.1 + m2 * b.1 + m3 * c.1, m1 * a.2.1 + m2 * b.2.1 + m3 * c.2.1, m1 * a.2.2 + m2 * b.2.2 + m3 * c.2.2)) : dV x b c = m1 * dV a b c ∧ dV a x c = m2 * dV a b c ∧ dV a b x = m3 * dV a b c := by
  subst h
  unfold dV dt
  dsimp only
  exact ⟨by grind, by grind, by grind⟩
theorem dV_lin1 (x y b c : V3) (f : Rat) : dV (addV x (sclV f y)) b c = dV x b c + f * dV y b c := by unfold dV dt addV sclV; dsimp only; grind
theorem dV_lin2 (x y b c : V3) (f : Rat) : dV b (addV x (sclV f y)) c = dV b x c + f * dV b y c := by unfold dV dt addV sclV; dsimp only; grind
theorem dV_lin3 (x y b c : V3) (f : Rat) : dV b c (addV x (sclV f y)) = dV b c x + f * dV b c y := by unfold dV dt addV sclV; dsimp only; grind
theorem dV_aab (a b : V3) : dV a a b = 0 ∧ dV a b a = 0 ∧ dV b a a = 0 := by unfold dV dt; exact ⟨by grind, by grind, by grind⟩
theorem dV_rot (a b c : V3) : dV b c a = dV a b c ∧ dV c a b = dV a b c := by unfold dV dt; exact ⟨by grind, by grind⟩
theorem vq_sub (v : V3) (i : Int) (cs : Cs) : subI (vq v) (.int i) cs = R.ofO (atI [qv v.1, qv v.2.1, qv v.2.2] i) cs := id rfl
theorem tup_pv (a : Rat) : IV.tup [.int a.num, .int (a.den : Int)] = pv a := id rfl
theorem pv_one : IV.tup [.int 1, .int 1] = pv 1 := id rfl
theorem sli_tup (xs : List IV) (lo hi : Option Int) (cs : Cs) : sliI (.tup xs) lo hi cs = .ok (.tup (cutI xs lo hi)) cs := id rfl
theorem sli_lst (xs : List IV) (lo hi : Option Int) (cs : Cs) : sliI (.lst xs) lo hi cs = .ok (.lst (cutI xs lo hi)) cs := id rfl
theorem sli_lv (x y z : Rat) (lo hi : Option Int) (cs : Cs) : sliI (lv x y z) lo hi cs = .ok (.lst (cutI [pv x, pv y, pv z] lo hi)) cs := id rfl
theorem cut_a (x y z : IV) : cutI [x, y, z] (some 1) none = [y, z] := id rfl
theorem cut_b (x y z : IV) : cutI [x, y, z] none (some 1) = [x] := id rfl
theorem vq_keep (f : Bool) (v : V3) : keepI f (vq v) = true := id rfl
theorem vq_noL (v : V3) : noL (vq v) = true := id rfl
theorem vq_newS (f : Bool) (v : V3) : newS f (vq v) = .val (vq v) := id rfl
theorem vq_non (v : V3) : isNon (vq v) = false := id rfl
/-- the amounts by determinants -/
abbrev amts (a b c x : V3) : V3 := (dV x b c / dV a b c, dV a x c / dV a b c, dV a b x / dV a b c)
theorem tup_vq (x y z : Rat) : IV.tup [qv x, qv y, qv z] = vq (x, y, z) := id rfl
theorem sumV_bd {n d : Nat} : ∀ (l : List V3) (i : Nat) (u : V3), (∀ v ∈ l, Bv v n d) → Bv u (n + i * (d + 1)) (i * d) → Bv (l.foldl addV u) (n + (i + l.length) * (d + 1)) ((i + l.length) * d)
  | [], _, _, _, h => h
  | v :: l, i, u, hl, hu => by
    have := sumV_bd l (i + 1) (addV u v) (fun z hz => hl z (List.mem_cons_of_mem _ hz)) (addV_bd hu (hl v List.mem_cons_self))
    rw [List.length_cons, show i + (l.length + 1) = i + 1 + l.length by omega]
    exact this
/-- a slot that holds a value or nothing -/
def so : Option IV → SL
  | none => .no
  | some x => .val x
theorem so_some (x : IV) : so (some x) = .val x := id rfl
theorem so_none : so none = .no := id rfl
theorem isOw_so (o : Option IV) : isOw (so o) = false := by cases o <;> rfl
theorem noO_so (o : Option IV) (s : SE) : noOwn (so o :: s) = noOwn s := by cases o <;> rfl
theorem unoN_so (vs : List Nat) (k : Nat) (o : Option IV) (s : SE) : unoN vs k (so o :: s) = so o :: unoN vs (k + 1) s := by cases o <;> rfl
end EL

-- PlTx
/-! Plain part Tx: texts. -/
namespace EL
open EG PySem L2
def tx (l : List Nat) : Str := ⟨l.toArray⟩
theorem tx_len (l : List Nat) : (tx l).length = l.length := List.size_toArray ..
theorem tx_app (a b : List Nat) : tx a ++ tx b = tx (a ++ b) := by
  show Str.mk (a.toArray ++ b.toArray) = Str.mk (a ++ b).toArray
  rw [List.append_toArray]
theorem tx_list (l : List Nat) : (tx l).cps.toList = l := rfl
theorem tx_inj {a b : List Nat} : tx a = tx b ↔ a = b := ⟨fun h => by have := congrArg (fun s : Str => s.cps.toList) h; exact this, fun h => by rw [h]⟩
theorem tx_of (s : Str) : s = tx s.cps.toList := by cases s with | mk c => show Str.mk c = Str.mk c.toList.toArray; rw [Array.toArray_toList]
theorem tx_beq (a b : List Nat) : (tx a == tx b) = decide (a = b) := by
  rw [Bool.eq_iff_iff, beq_iff_eq, decide_eq_true_iff, tx_inj]
theorem tx_lit (s : String) (l : List Nat) (h : s.toList.map Char.toNat = l) : Str.ofString s = tx l := by
  rw [Str.ofString_eq_toList, h]; rfl
theorem l_sp : Str.ofString " " = tx [32] := tx_lit _ _ rfl
theorem l_sl : Str.ofString "/" = tx [47] := tx_lit _ _ rfl
theorem l_c : Str.ofString "c" = tx [99] := tx_lit _ _ rfl
theorem l_0 : Str.ofString "0" = tx [48] := tx_lit _ _ rfl
theorem l_9 : Str.ofString "9" = tx [57] := tx_lit _ _ rfl
theorem l_e : Str.ofString "" = tx [] := tx_lit _ _ rfl
theorem tx_e (n : Nat) (a b : List Nat) : eqG (lvl P (n + 1)) (.str (tx a)) (.str (tx b)) = some (decide (a = b)) := by
  rw [e_any]
  show some (tx a == tx b) = _
  rw [tx_beq]
theorem tx_add (Φ : Fns) (a b : List Nat) (h : a.length + b.length ≤ 1000000) (cs : Cs) : binI Φ .add (.str (tx a)) (.str (tx b)) cs = .ok (.str (tx (a ++ b))) cs := by
  show (if (tx a).length + (tx b).length ≤ 1000000 then R.ok (IV.str (tx a ++ tx b)) cs else .stuck) = _
  rw [if_pos (by rw [tx_len, tx_len]; exact h), tx_app]
/-- signs repeated -/
theorem fold_rep (c : Nat) : ∀ (n : Nat) (acc : Array Nat), (List.replicate n #[c]).foldl (· ++ ·) acc = acc ++ (List.replicate n c).toArray
  | 0, acc => by simp
  | n + 1, acc => by
    rw [List.replicate_succ, List.foldl_cons, fold_rep c n]
    apply Array.toList_inj.mp
    simp [List.replicate_succ]
theorem tx_rep (c : Nat) (k : Nat) : Txt.mul (tx [c]) (k : Int) = tx (List.replicate k c) := by
  unfold Txt.mul
  by_cases h : (k : Int) < 1
  · rw [if_pos h, show k = 0 by omega]; rfl
  · rw [if_neg h]
    by_cases h1 : (((k : Int) == 1 || (tx [c]).length == 0) = true)
    · rw [if_pos h1]
      have : k = 1 := by
        rw [tx_len] at h1
        simp at h1
        omega
      rw [this]; rfl
    · rw [if_neg h1, Int.toNat_natCast, show (tx [c]).cps = #[c] from rfl, fold_rep]
      unfold tx
      simp
theorem tx_mul (Φ : Fns) (c k : Nat) (h : k ≤ 1000) (cs : Cs) : binI Φ .mul (.str (tx [c])) (.int (k : Nat)) cs = .ok (.str (tx (List.replicate k c))) cs := by
  show (if 0 ≤ (k : Int) ∧ (k : Int) ≤ 1000 ∧ (tx [c]).length ≤ 1000 then R.ok (IV.str (Txt.mul (tx [c]) k)) cs else .stuck) = _
  rw [if_pos ⟨by omega, by omega, by rw [tx_len]; exact (by omega : 1 ≤ 1000)⟩, tx_rep]
/-! ### cut out -/
theorem cut_nat {α : Type} (xs : List α) (a b : Nat) (h : a ≤ b) : cutI xs (some (a : Int)) (some (b : Int)) = (xs.drop a).take (b - a) := by
  unfold cutI
  rw [HT.sIx_nat, HT.sIx_nat]
  by_cases h1 : a ≤ xs.length
  · rw [Nat.min_eq_left h1]
    by_cases h2 : b ≤ xs.length
    · rw [Nat.min_eq_left h2]
    · rw [Nat.min_eq_right (by omega), List.take_of_length_le (by rw [List.length_drop]; omega), List.take_of_length_le (by rw [List.length_drop]; omega)]
  · rw [Nat.min_eq_right (by omega), List.drop_eq_nil_of_le (by omega), List.drop_eq_nil_of_le (by omega)]
    simp
theorem tx_sli (l : List Nat) (a b : Nat) (h : a ≤ b) (hl : l.length ≤ 1000000) (cs : Cs) : sliI (.str (tx l)) (some (a : Int)) (some (b : Int)) cs = .ok (.str (tx ((l.drop a).take (b - a)))) cs := by
  show (if (tx l).length ≤ 1000000 then R.ok (IV.str ⟨(cutI (tx l).cps.toList (some (a : Int)) (some (b : Int))).toArray⟩) cs else .stuck) = _
  rw [if_pos (by rw [tx_len]; exact hl), tx_list, cut_nat _ _ _ h]
  rfl
theorem tx_sub (l : List Nat) (i c : Nat) (h : l[i]? = some c) (hl : l.length ≤ 1000000) (cs : Cs) : subI (.str (tx l)) (.int (i : Nat)) cs = .ok (.str (tx [c])) cs := by
  show (if (tx l).length ≤ 1000000 then (R.ofO (atI (tx l).cps.toList (i : Nat)) cs).bind fun c cs => R.ok (IV.str ⟨#[c]⟩) cs else .stuck) = _
  rw [if_pos (by rw [tx_len]; exact hl), tx_list, at_nat, h]
  rfl
theorem tx_lenI (l : List Nat) (hl : l.length ≤ 1000000) (cs : Cs) : lenI (.str (tx l)) cs = .ok (.int (l.length : Nat)) cs := by
  show (if (tx l).length ≤ 1000000 then R.ok (IV.int ((tx l).length : Nat)) cs else .stuck) = _
  rw [if_pos (by rw [tx_len]; exact hl), tx_len]
/-! ### digits -/
def isD (c : Nat) : Bool := decide (48 ≤ c ∧ c ≤ 57)
def sD : Str := Str.ofString "0123456789"
theorem in_sD : ∀ c, c < 128 → (!(Builtin.Str.occurrences sD (tx [c]) 0 sD.length 1).isEmpty) = isD c := by
  have : ((List.range 128).all fun c => (!(Builtin.Str.occurrences sD (tx [c]) 0 sD.length 1).isEmpty) == isD c) = true := by decide +kernel
  intro c hc
  have := List.all_eq_true.mp this c (List.mem_range.mpr hc)
  exact beq_iff_eq.mp this
theorem in_D (Φ : Fns) (c : Nat) (h : c < 128) (cs : Cs) : cmpI Φ .In (.str (tx [c])) (.str sD) cs = .ok (.bl (isD c)) cs := by
  show R.ok (IV.bl (!(Builtin.Str.occurrences sD (tx [c]) 0 sD.length 1).isEmpty)) cs = _
  rw [in_sD c h]
/-- the digits of a number -/
def dg10 (n : Nat) : List Nat := (Nat.toDigits 10 n).map Char.toNat
theorem str_dg (n : Nat) : Str.ofString (toString ((n : Nat) : Int)) = tx (dg10 n) := by
  rw [tx_of (Str.ofString (toString ((n : Nat) : Int))), PySem.W.KIN.signs_num]; rfl
theorem int_dg (n : Nat) (h : n < 10 ^ 10) : PySem.intText? (tx (dg10 n)) = some (n : Int) := by
  rw [← str_dg, PySem.W.KIN.num_reads (by omega) (by omega)]
theorem s_dg (n : Nat) (h : n < 2 ^ 100) (cs : Cs) : strI (.int (n : Nat)) cs = .ok (.str (tx (dg10 n))) cs := by
  show (if ((n : Nat) : Int).natAbs.log2 < 1920 then R.ok (IV.str (Str.ofString (toString ((n : Nat) : Int)))) cs else .stuck) = _
  rw [if_pos, str_dg]
  rw [Int.natAbs_natCast]
  by_cases h0 : n = 0
  · rw [h0]; decide
  · exact (Nat.log2_lt h0).mpr (Nat.lt_of_lt_of_le h (Nat.pow_le_pow_right (by decide) (by decide)))
theorem i_dg (n : Nat) (h : n < 10000) (hl : (dg10 n).length ≤ 640) (cs : Cs) : intI (.str (tx (dg10 n))) cs = .ok (.int (n : Nat)) cs := by
  show (if (tx (dg10 n)).length ≤ 640 then (R.ofO (PySem.intText? (tx (dg10 n))) cs).bind fun i cs => R.ok (IV.int i) cs else .stuck) = _
  rw [if_pos (by rw [tx_len]; exact hl), int_dg n (by omega)]
  rfl
open PySem.NumText
theorem isD_all {l : List Nat} (h : ∀ c ∈ l, isD c = true) : AllDigits l := fun c hc => of_decide_eq_true (h c hc)
theorem dg10_lt {n : Nat} (h : n < 10) : dg10 n = [48 + n] := by
  unfold dg10
  rw [Nat.toDigits_of_lt_base h, List.map_singleton]
  have : ∀ d, d < 10 → (Nat.digitChar d).toNat = 48 + d := by decide
  rw [this n h]
theorem dg10_ge {n : Nat} (h : 10 ≤ n) : dg10 n = dg10 (n / 10) ++ [48 + n % 10] := by
  have t : Nat.toDigits 10 (n / 10) ++ Nat.toDigits 10 (n % 10) = Nat.toDigits 10 (10 * (n / 10) + n % 10) := Nat.toDigits_append_toDigits (by decide) (by omega) (Nat.mod_lt n (by decide))
  rw [Nat.div_add_mod] at t
  have e := dg10_lt (n := n % 10) (Nat.mod_lt n (by decide))
  unfold dg10 at e ⊢
  rw [← t, List.map_append, e]
/-- digits of a number below 10000 -/
structure Dg (n : Nat) (l : List Nat) : Prop where
  eq : l = dg10 n
  dig : ∀ c ∈ l, isD c = true
  ne : l ≠ []
  len : l.length ≤ 4
  hd : l.head? = some 48 → l = [48]
  gr : ∀ k, k < l.length → n ≤ digitsVal (l.take (k + 1) ++ List.replicate (3 - k) 57)
theorem dg_ok {n : Nat} (h : n < 10000) : Dg n (dg10 n) := by
  have d0 : ∀ a, a < 10 → isD (48 + a) = true := fun a ha => decide_eq_true (by omega)
  by_cases h1 : n < 10
  · rw [dg10_lt h1]
    refine ⟨(dg10_lt h1).symm, fun c hc => ?_, by simp, by simp, fun h => ?_, fun k hk => ?_⟩
    · rw [List.mem_singleton.mp hc]; exact d0 n h1
    · simp at h; simp [h]
    · have : k = 0 := by simpa using hk
      subst this
      simp [digitsVal]
      omega
  by_cases h2 : n < 100
  · have e : dg10 n = [48 + n / 10, 48 + n % 10] := by rw [dg10_ge (by omega), dg10_lt (by omega)]; rfl
    rw [e]
    refine ⟨e.symm, fun c hc => ?_, by simp, by simp, fun h => ?_, fun k hk => ?_⟩
    · simp at hc; rcases hc with rfl | rfl
      · exact d0 _ (by omega)
      · exact d0 _ (by omega)
    · simp at h; omega
    · have : k = 0 ∨ k = 1 := by have : k < 2 := by simpa using hk
                                 omega
      rcases this with rfl | rfl <;> simp [digitsVal] <;> omega
  by_cases h3 : n < 1000
  · have e : dg10 n = [48 + n / 100, 48 + n / 10 % 10, 48 + n % 10] := by
      rw [dg10_ge (by omega), dg10_ge (n := n / 10) (by omega), dg10_lt (by omega), Nat.div_div_eq_div_mul]; rfl
    rw [e]
    refine ⟨e.symm, fun c hc => ?_, by simp, by simp, fun h => ?_, fun k hk => ?_⟩
    · simp at hc; rcases hc with rfl | rfl | rfl
      · exact d0 _ (by omega)
      · exact d0 _ (by omega)
      · exact d0 _ (by omega)
    · simp at h; omega
    · have : k = 0 ∨ k = 1 ∨ k = 2 := by have : k < 3 := by simpa using hk
                                         omega
      rcases this with rfl | rfl | rfl <;> simp [digitsVal] <;> omega
  · have e : dg10 n = [48 + n / 1000, 48 + n / 100 % 10, 48 + n / 10 % 10, 48 + n % 10] := by
      rw [dg10_ge (by omega), dg10_ge (n := n / 10) (by omega), dg10_ge (n := n / 10 / 10) (by omega), dg10_lt (by omega)]
      show [48 + n / 10 / 10 / 10] ++ [48 + n / 10 / 10 % 10] ++ [48 + n / 10 % 10] ++ [48 + n % 10] = _
      rw [show n / 10 / 10 / 10 = n / 1000 by omega, show n / 10 / 10 = n / 100 by omega]; rfl
    rw [e]
    refine ⟨e.symm, fun c hc => ?_, by simp, by simp, fun h => ?_, fun k hk => ?_⟩
    · simp at hc; rcases hc with rfl | rfl | rfl | rfl
      · exact d0 _ (by omega)
      · exact d0 _ (by omega)
      · exact d0 _ (by omega)
      · exact d0 _ (by omega)
    · simp at h; omega
    · have : k = 0 ∨ k = 1 ∨ k = 2 ∨ k = 3 := by have : k < 4 := by simpa using hk
                                                 omega
      rcases this with rfl | rfl | rfl | rfl <;> simp [digitsVal] <;> omega
/-- int(..) of digits -/
theorem i_digs {l : List Nat} (h : ∀ c ∈ l, isD c = true) (h1 : l ≠ []) (h2 : l.length ≤ 640) (cs : Cs) : intI (.str (tx l)) cs = .ok (.int ((digitsVal l : Nat) : Int)) cs := by
  show (if (tx l).length ≤ 640 then (R.ofO (PySem.intText? (tx l)) cs).bind fun i cs => R.ok (IV.int i) cs else .stuck) = _
  rw [if_pos (by rw [tx_len]; exact h2), intText_digits (x := tx l) (isD_all h) h1 (by rw [tx_len]; omega)]
  rfl
end EL

-- PlRd
/-! Plain part Rd: a text is read. -/
namespace EL
open EG PySem L2
local macro_rules | `(tactic| simp_arith only [$l,*]) => `(tactic| simp -dsimp only [$l,*, za, zb, zc, zd, zf, zg, zh, zm, zo, zp, zq, zr, zt, zu, zv, zw, zx, zy, zA, zB, zC, zD, zE, zF, zG, zH, zI, zJ, zK, zL, zM, zN, zO, zP, zQ, zR, zS, zT, zU, zV, zW, zX, zY, zZ, ya, yb, yc, yd, ye, yf, yg, yh, yj, yk, ym, yn, yo, yp, yq, yr, yt, yu, yw, yx, yy, yz, yA, yB, yC, yD, yE, yF, yG, yH, yI, yJ, yK, yL, yM, yN, yO, yP, yQ, yR, yS, yT, yU, yV, yW, yX, yY, yZ, xa, xb, xf, xg, xh, xi, xj, xk, xl, xn, xo, xp, xq, xr, xt, xu, xw, xy, xz, xA, xB, xC, xD, xE, xF, xG, xH, xI, xJ, xK, xL, xM, xN, xP, xQ, xR, xS, xT, xU, xV, xW, xX, xY, xZ, wa, isRng, wd, we, wf, wg, wi, wj, wk, intO, lstO, celL, wl, wm, wn, wo, wp, wq, wt, wu, wv, ww, wx, wy, wz, wA, wB, wC, wD, wE, wF, wG, wH, wI, wJ, wK, wL, wM, wN, wO, wP, wQ, wR, wS, wT, wU, wV, wW, wX, wY, wZ, vb, Option.map_some, List.sum_cons, List.sum_nil, vc, vd, ve, vf, vg, vh, vi, vj, vk, vm, vn, vp, vr, vt, vw, vx, vy, vz, vA, vB, vC, vD, vE, vF, vG, vH, vI, vJ, vK, vL, vM, vN, vO, vP, vQ, vR, vS, vT, vU, vV, vW, vX, vY, vZ, ua, ub, uc, ud, ue, uf, ug, uh, ui, isiI, uj, uk, ul, um, uq, ur, ut, uw, ux, varE, varA, varI, varP, frE, bltFr, uy, uz, uA, uB, uC, uD, uE, uF, uG, uH, uI, uJ, uK, uL, uM, uN, uO, uP, uQ, uR, uS, startS, uT, uU, uV, List.getElem?_cons_succ, List.getElem?_cons_zero, List.set_cons_zero, List.set_cons_succ, List.cons_append, List.nil_append, List.append_nil, List.length_cons, List.length_nil, List.length_set, List.map_cons, List.map_nil, List.contains_cons, List.contains_nil, List.replicate_succ, List.replicate_zero, List.zipWith_cons_cons, List.zipWith_nil_left, List.zipWith_nil_right, Option.getD_some, Option.getD_none, Bool.or_false, Bool.false_or, Bool.or_true, Bool.true_or, Bool.and_true, Bool.true_and, Bool.and_false, Bool.false_and, Bool.not_true, Bool.not_false, Bool.false_eq_true, beq_self_eq_true, decide_true, decide_false, and_self, and_true, true_and, if_true, if_false, ↓reduceIte, reduceCtorEq, Nat.reduceAdd, Nat.reduceSub, Nat.reduceLT, Nat.reduceLeDiff, Nat.reduceEqDiff, Nat.reduceBEq, Int.reduceNeg, Nat.add_zero, Nat.zero_add, List.all_cons, List.all_nil, noLC, noLs, noL, Option.some.injEq])
open PySem.NumText
theorem r_mid {xs ys : Cs} {x : CO} : (xs ++ x :: ys)[xs.length]? = some x := by
  rw [List.getElem?_append_right (Nat.le_refl _), Nat.sub_self]; rfl
theorem r_at (xs : Cs) (x : CO) : (xs ++ [x])[xs.length]? = some x := r_mid
theorem r_set (xs : Cs) (x y : CO) : (xs ++ [x]).set xs.length y = xs ++ [y] := by
  rw [List.set_append_right _ _ (Nat.le_refl _), Nat.sub_self]; rfl
def rdC (l : List Nat) (p : Nat) : CO := .ins 1 [.str (tx l), .int (p : Nat)]
theorem con0 (n : Nat) : (lvl P n).con 0 = .str sD := by cases n <;> rfl
theorem con1 (n : Nat) : (lvl P n).con 1 = .int 4 := by cases n <;> rfl
theorem con2 (n : Nat) : (lvl P n).con 2 = .int 8 := by cases n <;> rfl
theorem bi_str (s : Str) (cs : Cs) : bltI .int [.str s] cs = intI (.str s) cs := id rfl
theorem intF_1 (s : IV) (a : Int) : intF [s, .int a] 1 = some a := id rfl
def At (l : List Nat) (p : Nat) (ds : List Nat) : Prop := ∀ j, j < ds.length → l[p + j]? = ds[j]?
def Stop (l : List Nat) (q : Nat) : Prop := ∀ c, l[q]? = some c → isD c = false
theorem At.get {l ds : List Nat} {p j : Nat} (h : At l p ds) (hj : j < ds.length) : l[p + j]? = some ds[j] := by rw [h j hj, List.getElem?_eq_getElem hj]
theorem At.cut {l ds : List Nat} {p : Nat} (h : At l p ds) (k : Nat) (hk : k ≤ ds.length) : (l.drop p).take k = ds.take k := by
  apply List.ext_getElem?
  intro j
  rw [List.getElem?_take, List.getElem?_take]
  split
  · rw [List.getElem?_drop, h j (by omega)]
  · rfl
theorem chr_some {l : List Nat} {p c : Nat} (h : l[p]? = some c) : (l.drop p).take 1 = [c] := by
  have h' : (l.drop p)[0]? = some c := by rw [List.getElem?_drop]; exact h
  cases hd : l.drop p with
  | nil => rw [hd] at h'; cases h'
  | cons a r => rw [hd] at h'; cases h'; rfl
theorem chr_none {l : List Nat} {p : Nat} (h : l[p]? = none) : (l.drop p).take 1 = [] := by
  rw [List.drop_eq_nil_of_le (List.getElem?_eq_none_iff.mp h)]; rfl
section
variable {xs : Cs} {l : List Nat} {p : Nat}
theorem rd_a0 : attrI (.cell xs.length) 1 0 (xs ++ [rdC l p]) = .ok (.str (tx l)) (xs ++ [rdC l p]) := by unfold attrI; dsimp only; rw [r_at]; rfl
theorem rd_a1 : attrI (.cell xs.length) 1 1 (xs ++ [rdC l p]) = .ok (.int (p : Nat)) (xs ++ [rdC l p]) := by unfold attrI; dsimp only; rw [r_at]; rfl
theorem rd_of : isOf 1 (.cell xs.length) (xs ++ [rdC l p]) = true := by unfold isOf; dsimp only; rw [r_at]; rfl
theorem rd_cel (s : SE) (h : s[0]? = some (.val (.cell xs.length))) : celAt s (xs ++ [rdC l p]) 0 = some (xs.length, 1, [.str (tx l), .int (p : Nat)]) := by unfold celAt; rw [h]; unfold celI; dsimp only; rw [r_at]; rfl
theorem rd_set : (xs ++ [rdC l p]).set xs.length (.ins 1 [.str (tx l), .int ((p : Nat) + 1)]) = xs ++ [rdC l (p + 1)] := by rw [r_set]; rfl
theorem f_char (n : Nat) (hl : l.length ≤ 1000) : (lvl P (n + 1)).fn 11 [.cell xs.length] (xs ++ [rdC l p]) = .ok (.str (tx ((l.drop p).take 1))) (xs ++ [rdC l p]) := by
  rw [fn_eq]
  show outF false (exB ffr (lvl P n) false bd11 (startS 1 [.cell xs.length]) (xs ++ [rdC l p])) = _
  have sl : ∀ cs, sliI (.str (tx l)) (some (p : Int)) (some ((p : Int) + 1)) cs = .ok (.str (tx ((l.drop p).take 1))) cs := fun cs => by
    have := tx_sli l p (p + 1) (by omega) (by omega) cs
    rw [show p + 1 - p = 1 by omega] at this
    exact this
  simp_arith only [bd11, rd_a0, rd_a1, sl]
theorem f_atD (n : Nat) (hl : l.length ≤ 1000) {c : Nat} (h : l[p]? = some c) (hc : c < 128) : (lvl P (n + 2)).fn 12 [.cell xs.length] (xs ++ [rdC l p]) = .ok (.bl (isD c)) (xs ++ [rdC l p]) := by
  rw [fn_eq]
  show outF false (exB ffr (lvl P (n + 1)) false bd12 (startS 1 [.cell xs.length]) (xs ++ [rdC l p])) = _
  have ch := f_char (xs := xs) (l := l) (p := p) n hl
  rw [chr_some h] at ch
  have e := tx_e n [c] []
  rw [decide_eq_false (by simp)] at e
  have i := in_D (lvl P (n + 1)) c hc
  simp_arith only [bd12, ch, rd_of, l_e, e, con0, i]
theorem f_atE (n : Nat) (hl : l.length ≤ 1000) (h : l[p]? = none) : (lvl P (n + 2)).fn 12 [.cell xs.length] (xs ++ [rdC l p]) = .ok (.bl false) (xs ++ [rdC l p]) := by
  rw [fn_eq]
  show outF false (exB ffr (lvl P (n + 1)) false bd12 (startS 1 [.cell xs.length]) (xs ++ [rdC l p])) = _
  have ch := f_char (xs := xs) (l := l) (p := p) n hl
  rw [chr_none h] at ch
  have e := tx_e n [] []
  rw [decide_eq_true rfl] at e
  simp_arith only [bd12, ch, rd_of, l_e, e]
theorem f_stop (n : Nat) (hl : l.length ≤ 1000) (ha : ∀ c ∈ l, c < 128) (h : Stop l p) : (lvl P (n + 2)).fn 12 [.cell xs.length] (xs ++ [rdC l p]) = .ok (.bl false) (xs ++ [rdC l p]) := by
  cases e : l[p]? with
  | none => exact f_atE n hl e
  | some c => rw [f_atD n hl e (ha c (List.mem_of_getElem? e)), h c e]
/-! ### spaces -/
theorem sk_go (n : Nat) (hl : l.length ≤ 1000) : ∀ (m p f : Nat), (∀ j, j < m → l[p + j]? = some 32) → l[p + m]? ≠ some 32 → m < f →
    whlGo (evT (lvl P (n + 1)) (.cmp .Eq (.meth 1 11 (.var 0) .nil) (.str " "))) (exB ffr (lvl P (n + 1)) false lb14_0) f [.val (.cell xs.length)] (xs ++ [rdC l p]) = .nx [.val (.cell xs.length)] (xs ++ [rdC l (p + m)])
  | 0, p, 0, _, _, hf => absurd hf (Nat.lt_irrefl _)
  | m + 1, p, 0, _, _, hf => absurd hf (Nat.not_lt_zero _)
  | 0, p, f + 1, _, h, hf => by
    rw [whlGo_succ]
    have ch := f_char (xs := xs) (l := l) (p := p) n hl
    have e := tx_e n ((l.drop p).take 1) [32]
    rw [decide_eq_false (fun z => h (by
      have := congrArg (fun l : List Nat => l[0]?) z
      rw [List.getElem?_take, if_pos (by decide), List.getElem?_drop] at this
      exact this))] at e
    simp_arith only [ch, rd_of, l_sp, e, noO_so, unoN_so]
  | m + 1, p, f + 1, hs, h, hf => by
    rw [whlGo_succ]
    have ch := f_char (xs := xs) (l := l) (p := p) n hl
    have h0 : l[p]? = some 32 := hs 0 (by omega)
    rw [chr_some h0] at ch
    have e := tx_e n [32] [32]
    rw [decide_eq_true rfl] at e
    have ih := sk_go n hl m (p + 1) f (fun j hj => by have := hs (j + 1) (by omega); rw [show p + 1 + j = p + (j + 1) by omega]; exact this) (by rw [show p + 1 + m = p + (m + 1) by omega]; exact h) (by omega)
    rw [show p + 1 + m = p + (m + 1) by omega] at ih
    simp only [l_sp, lb14_0] at ih
    simp_arith only [ch, rd_of, l_sp, e, lb14_0, rd_cel, intF_1, rd_set, whlT_nx, ih, noO_so, unoN_so]
theorem f_skip (n : Nat) (hl : l.length ≤ 1000) (m : Nat) (hs : ∀ j, j < m → l[p + j]? = some 32) (h : l[p + m]? ≠ some 32) : (lvl P (n + 2)).fn 14 [.cell xs.length] (xs ++ [rdC l p]) = .ok .non (xs ++ [rdC l (p + m)]) := by
  rw [fn_eq]
  show outF false (exB ffr (lvl P (n + 1)) false bd14 (startS 1 [.cell xs.length]) (xs ++ [rdC l p])) = _
  have hm : m ≤ 1000 := by
    cases m with
    | zero => omega
    | succ m =>
      have := (List.getElem?_eq_some_iff.mp (hs m (by omega))).1
      omega
  have g := sk_go (xs := xs) n hl m p fuel hs h (by unfold fuel; omega)
  simp_arith only [bd14, exS_whl, g]
/-! ### a top -/
theorem int_sub (a k : Nat) : ((a + k : Nat) : Int) - (a : Nat) = (k : Nat) := by omega
set_option maxHeartbeats 1000000 in
theorem top_go (n : Nat) (hl : l.length ≤ 1000) (ha : ∀ c ∈ l, c < 128) (N : Nat) (ds : List Nat) (D : Dg N ds) (s : Nat) (A : At l s ds) (St : Stop l (s + ds.length)) : ∀ (m k f : Nat), k + m = ds.length → m < f →
    whlGo (evT (lvl P (n + 2)) (.meth 1 12 (.var 0) .nil)) (exB ffr (lvl P (n + 2)) false lb15_0) f [.val (.cell xs.length), .val (.int (s : Nat))] (xs ++ [rdC l (s + k)]) = .nx [.val (.cell xs.length), .val (.int (s : Nat))] (xs ++ [rdC l (s + ds.length)])
  | 0, k, 0, _, hf => absurd hf (Nat.lt_irrefl _)
  | m + 1, k, 0, _, hf => absurd hf (Nat.not_lt_zero _)
  | 0, k, f + 1, hk, _ => by
    rw [whlGo_succ]
    have e : k = ds.length := by omega
    subst e
    have st := f_stop (xs := xs) n hl ha St
    simp_arith only [st, rd_of, noO_so, unoN_so]
  | m + 1, k, f + 1, hk, hf => by
    rw [whlGo_succ]
    have hkl : k < ds.length := by omega
    have hc := A.get hkl
    have dg := D.dig _ (List.getElem_mem hkl)
    have at_ := f_atD (xs := xs) n hl hc (ha _ (List.mem_of_getElem? hc))
    rw [dg] at at_
    have h0 : 0 < ds.length := by omega
    have hc0 : l[s]? = some ds[0] := A.get h0
    have sb := tx_sub l s ds[0] hc0 (by omega)
    have eq := tx_e (n + 1) [ds[0]] [48]
    have ex : (decide ([ds[0]] = [48]) && decide ((s : Int) < ((s + k : Nat) : Int))) = false := by
      cases hd : decide ([ds[0]] = [48]) with
      | false => rfl
      | true =>
        have e0 : ds[0] = 48 := by have := of_decide_eq_true hd; simpa using this
        have := D.hd (by rw [List.head?_eq_getElem?, List.getElem?_eq_getElem h0, e0])
        have hl1 := congrArg List.length this
        rw [List.length_singleton] at hl1
        rw [Bool.true_and]
        exact decide_eq_false (by omega)
    have ei : ∀ a b : Int, eqG (lvl P (n + 2)) (.int a) (.int b) = some (a == b) := fun a b => wB _ a b
    have k4 : (((k : Nat) : Int) == 4) = false := by have := D.len; rw [beq_eq_false_iff_ne]; omega
    have sk := int_sub s k
    have ih := top_go n hl ha N ds D s A St m (k + 1) f (by omega) (by omega)
    rw [← Nat.add_assoc] at ih
    simp only [l_0, lb15_0] at ih
    generalize (s + k : Nat) = q at *
    cases hd : decide ([ds[0]] = [48]) with
    | false =>
      rw [hd] at eq
      simp_arith only [at_, rd_of, lb15_0, rd_a0, rd_a1, sb, l_0, eq, con1, sk, ei, k4, rd_cel, intF_1, rd_set, whlT_nx, ih, noO_so, unoN_so]
    | true =>
      rw [hd] at eq ex
      rw [Bool.true_and] at ex
      simp_arith only [at_, rd_of, lb15_0, rd_a0, rd_a1, sb, l_0, eq, ex, con1, sk, ei, k4, rd_cel, intF_1, rd_set, whlT_nx, ih, noO_so, unoN_so]
theorem f_top (n : Nat) (hl : l.length ≤ 1000) (ha : ∀ c ∈ l, c < 128) (N : Nat) (hN : N < 10000) (A : At l p (dg10 N)) (St : Stop l (p + (dg10 N).length)) : (lvl P (n + 3)).fn 15 [.cell xs.length] (xs ++ [rdC l p]) = .ok (.int (N : Nat)) (xs ++ [rdC l (p + (dg10 N).length)]) := by
  rw [fn_eq]
  show outF false (exB ffr (lvl P (n + 2)) false bd15 (startS 2 [.cell xs.length]) (xs ++ [rdC l p])) = _
  have D := dg_ok hN
  generalize hds : dg10 N = ds at *
  have h0 : 0 < ds.length := List.length_pos_iff.mpr D.ne
  have hc : l[p]? = some ds[0] := A.get h0
  have dg := D.dig _ (List.getElem_mem h0)
  have at_ := f_atD (xs := xs) n hl hc (ha _ (List.mem_of_getElem? hc))
  rw [dg] at at_
  have go := top_go (xs := xs) n hl ha N ds D p A St ds.length 0 fuel (by omega) (by have := D.len; unfold fuel; omega)
  rw [show p + 0 = p from rfl] at go
  have sl : ∀ cs, sliI (.str (tx l)) (some (p : Int)) (some ((p + ds.length : Nat) : Int)) cs = .ok (.str (tx ds)) cs := fun cs => by
    rw [tx_sli l p (p + ds.length) (by omega) (by omega) cs, show p + ds.length - p = ds.length by omega, A.cut _ (Nat.le_refl _), List.take_length]
  have it : ∀ cs, intI (.str (tx ds)) cs = .ok (.int (N : Nat)) cs := fun cs => by rw [← hds]; exact i_dg N hN (by rw [hds]; have := D.len; omega) cs
  simp_arith only [bd15, at_, rd_of, rd_a0, rd_a1, exS_whl, go, sl, bi_str, it, noO_so, unoN_so]
/-! ### a bottom -/
theorem f_great (n : Nat) (ds : List Nat) (h : ∀ c ∈ ds, isD c = true) (h1 : ds ≠ []) (h4 : ds.length ≤ 4) (cs : Cs) : (lvl P (n + 1)).fn 18 [.str (tx ds)] cs = .ok (.int ((digitsVal (ds ++ List.replicate (4 - ds.length) 57) : Nat) : Int)) cs := by
  rw [fn_eq]
  show outF false (exB ffr (lvl P n) false bd18 (startS 1 [.str (tx ds)]) cs) = _
  have le := fun cs => tx_lenI ds (by omega) cs
  have sb : (4 : Int) - (ds.length : Nat) = ((4 - ds.length : Nat) : Int) := by omega
  have mu := fun cs => tx_mul (lvl P n) 57 (4 - ds.length) (by omega) cs
  have ad := fun cs => tx_add (lvl P n) ds (List.replicate (4 - ds.length) 57) (by rw [List.length_replicate]; omega) cs
  have it := fun cs => i_digs (l := ds ++ List.replicate (4 - ds.length) 57) (fun c hc => by
    rcases List.mem_append.mp hc with z | z
    · exact h c z
    · rw [(List.mem_replicate.mp z).2]; rfl) (by simp [h1]) (by rw [List.length_append, List.length_replicate]; omega) cs
  simp_arith only [bd18, le, con1, sb, l_9, mu, ad, bi_str, it]
set_option maxHeartbeats 1000000 in
theorem bot_go (n : Nat) (hl : l.length ≤ 1000) (ha : ∀ c ∈ l, c < 128) (N : Nat) (hN : 1 ≤ N) (ds : List Nat) (D : Dg N ds) (hd : ds.head? ≠ some 48) (t : Int) (ht : t ≤ N) (s : Nat) (A : At l s ds) (St : Stop l (s + ds.length)) : ∀ (m k f : Nat) (o : Option IV), k + m = ds.length → m < f →
    ∃ o' : Option IV, whlGo (evT (lvl P (n + 2)) (.meth 1 12 (.var 0) .nil)) (exB ffr (lvl P (n + 2)) false lb16_0) f [.val (.cell xs.length), .val (.int t), .val (.int (s : Nat)), so o] (xs ++ [rdC l (s + k)]) = .nx [.val (.cell xs.length), .val (.int t), .val (.int (s : Nat)), so o'] (xs ++ [rdC l (s + ds.length)])
  | 0, k, 0, _, _, hf => absurd hf (Nat.lt_irrefl _)
  | m + 1, k, 0, _, _, hf => absurd hf (Nat.not_lt_zero _)
  | 0, k, f + 1, o, hk, _ => by
    refine ⟨o, ?_⟩
    rw [whlGo_succ]
    have e : k = ds.length := by omega
    subst e
    have st := f_stop (xs := xs) n hl ha St
    simp_arith only [st, rd_of, noO_so, unoN_so, isOw_so, ite_self]
  | m + 1, k, f + 1, o, hk, hf => by
    have hkl : k < ds.length := by omega
    have hc := A.get hkl
    have dg := D.dig _ (List.getElem_mem hkl)
    have at_ := f_atD (xs := xs) n hl hc (ha _ (List.mem_of_getElem? hc))
    rw [dg] at at_
    have h0 : 0 < ds.length := by omega
    have sl : ∀ cs, sliI (.str (tx l)) (some (s : Int)) (some (((s + k : Nat) : Int) + 1)) cs = .ok (.str (tx (ds.take (k + 1)))) cs := fun cs => by
      have := tx_sli l s (s + k + 1) (by omega) (by omega) cs
      rw [show s + k + 1 - s = k + 1 by omega, A.cut _ (by omega)] at this
      exact this
    have tl : (ds.take (k + 1)).length = k + 1 := by rw [List.length_take]; omega
    have t0 : (ds.take (k + 1))[0]? = some ds[0] := by rw [List.getElem?_take, if_pos (by omega), List.getElem?_eq_getElem h0]
    have sb := fun cs => tx_sub (ds.take (k + 1)) 0 ds[0] t0 (by have := D.len; omega) cs
    have sb : ∀ cs, subI (.str (tx (ds.take (k + 1)))) (.int 0) cs = .ok (.str (tx [ds[0]])) cs := sb
    have eq := tx_e (n + 1) [ds[0]] [48]
    rw [decide_eq_false (fun z => hd (by rw [List.head?_eq_getElem?, List.getElem?_eq_getElem h0]; simpa using z))] at eq
    have le := fun cs => tx_lenI (ds.take (k + 1)) (by have := D.len; omega) cs
    rw [tl] at le
    have l4 : decide ((4 : Int) < ((k + 1 : Nat) : Int)) = false := decide_eq_false (by have := D.len; omega)
    have gr := fun cs => f_great (n + 1) (ds.take (k + 1)) (fun c hc => D.dig c (List.mem_of_mem_take hc)) (by intro z; rw [z] at tl; cases tl) (by have := D.len; omega) cs
    rw [tl, show 4 - (k + 1) = 3 - k by omega] at gr
    have gg := D.gr k hkl
    have lt : decide (((digitsVal (ds.take (k + 1) ++ List.replicate (3 - k) 57) : Nat) : Int) < t) = false := decide_eq_false (by omega)
    obtain ⟨o', ih⟩ := bot_go n hl ha N hN ds D hd t ht s A St m (k + 1) f (some (.str (tx (ds.take (k + 1))))) (by omega) (by omega)
    refine ⟨o', ?_⟩
    rw [whlGo_succ]
    rw [← Nat.add_assoc] at ih
    simp only [so_some, l_0, lb16_0] at ih
    generalize (s + k : Nat) = q at *
    generalize ds.take (k + 1) = dk at *
    simp_arith only [at_, rd_of, lb16_0, rd_a0, rd_a1, sl, sb, l_0, eq, le, con1, l4, gr, lt, rd_cel, intF_1, rd_set, whlT_nx, ih, noO_so, unoN_so, isOw_so, ite_self]
set_option maxHeartbeats 1000000 in
theorem f_bottom (n : Nat) (hl : l.length ≤ 1000) (ha : ∀ c ∈ l, c < 128) (N : Nat) (hN : N < 10000) (h1 : 1 ≤ N) (t : Int) (ht : t ≤ N) (A : At l p (dg10 N)) (St : Stop l (p + (dg10 N).length)) : (lvl P (n + 3)).fn 16 [.cell xs.length, .int t] (xs ++ [rdC l p]) = .ok (.int (N : Nat)) (xs ++ [rdC l (p + (dg10 N).length)]) := by
  rw [fn_eq]
  show outF false (exB ffr (lvl P (n + 2)) false bd16 (startS 4 [.cell xs.length, .int t]) (xs ++ [rdC l p])) = _
  have D := dg_ok hN
  have hd : (dg10 N).head? ≠ some 48 := fun z => by
    have e := D.hd z
    have i := int_dg N (by omega)
    rw [e] at i
    have : (PySem.intText? (tx [48])) = some ((0 : Nat) : Int) := by
      have := int_dg 0 (by decide)
      rw [dg10_lt (by decide)] at this
      exact this
    rw [this] at i
    have := Option.some.inj i
    omega
  generalize hds : dg10 N = ds at *
  obtain ⟨o', go⟩ := bot_go (xs := xs) n hl ha N h1 ds D hd t ht p A St ds.length 0 fuel none (by omega) (by have := D.len; unfold fuel; omega)
  rw [show p + 0 = p from rfl] at go
  simp only [so_none] at go
  have sl : ∀ cs, sliI (.str (tx l)) (some (p : Int)) (some ((p + ds.length : Nat) : Int)) cs = .ok (.str (tx ds)) cs := fun cs => by
    rw [tx_sli l p (p + ds.length) (by omega) (by omega) cs, show p + ds.length - p = ds.length by omega, A.cut _ (Nat.le_refl _), List.take_length]
  have it : ∀ cs, intI (.str (tx ds)) cs = .ok (.int (N : Nat)) cs := fun cs => by rw [← hds]; exact i_dg N hN (by rw [hds]; have := D.len; omega) cs
  have e0 := tx_e (n + 1) ds []
  rw [decide_eq_false D.ne] at e0
  have lt : decide (((N : Nat) : Int) < t) = false := decide_eq_false (by omega)
  simp_arith only [bd16, rd_of, rd_a0, rd_a1, exS_whl, go, sl, bi_str, it, l_e, e0, lt, noO_so, unoN_so, isOw_so, ite_self]
/-! ### a value -/
/-- how a value is written: below 2; of 100; top and bottom -/
inductive Tk where
  | one (v : Nat)
  | cent (v : Nat)
  | frac (t b : Nat)
def Tk.txt : Tk → List Nat
  | .one v => dg10 v
  | .cent v => dg10 v ++ [99]
  | .frac t b => dg10 t ++ [47] ++ dg10 b
def Tk.val : Tk → Rat
  | .one v => ((v : Nat) : Int) / ((1 : Int) : Rat)
  | .cent v => ((v : Nat) : Int) / ((100 : Int) : Rat)
  | .frac t b => ((t : Nat) : Int) / (((b : Nat) : Int) : Rat)
def Tk.Ok : Tk → Prop
  | .one v => v ≤ 1
  | .cent v => v ≤ 100
  | .frac t b => t ≤ b ∧ 1 ≤ b ∧ b < 10000
/-- behind a value: a space or the end -/
def Bnd (l : List Nat) (q : Nat) : Prop := ∀ c, l[q]? = some c → c = 32
theorem Bnd.stop {q : Nat} (h : Bnd l q) : Stop l q := fun c hc => by rw [h c hc]; rfl
theorem At.app {a b : List Nat} (h : At l p (a ++ b)) : At l p a ∧ At l (p + a.length) b := by
  constructor
  · intro j hj
    rw [h j (by rw [List.length_append]; omega), List.getElem?_append_left hj]
  · intro j hj
    rw [Nat.add_assoc, h (a.length + j) (by rw [List.length_append]; omega), List.getElem?_append_right (by omega), show a.length + j - a.length = j by omega]
theorem f_mkR (n : Nat) (t b : Nat) (hb : 1 ≤ b) (hb2 : b < 10000) (cs : Cs) : mkI (lvl P (n + 2)) 0 [.int (t : Nat), .int (b : Nat)] cs = .ok (qv (((t : Nat) : Int) / (((b : Nat) : Int) : Rat))) cs := f_mk n _ _ cs 14 (by omega) (by decide) (by omega)
set_option maxHeartbeats 2000000 in
theorem f_value (n : Nat) (hl : l.length ≤ 1000) (ha : ∀ c ∈ l, c < 128) (k : Tk) (hk : k.Ok) (A : At l p k.txt) (B : Bnd l (p + k.txt.length)) : (lvl P (n + 4)).fn 17 [.cell xs.length] (xs ++ [rdC l p]) = .ok (qv k.val) (xs ++ [rdC l (p + k.txt.length)]) := by
  rw [fn_eq]
  show outF false (exB ffr (lvl P (n + 3)) false bd17 (startS 2 [.cell xs.length]) (xs ++ [rdC l p])) = _
  have chr : ∀ {q c : Nat}, l[q]? = some c → (lvl P (n + 3)).fn 11 [.cell xs.length] (xs ++ [rdC l q]) = .ok (.str (tx [c])) (xs ++ [rdC l q]) := fun h => by rw [f_char (n + 2) hl, chr_some h]
  have te := tx_e (n + 2)
  cases k with
  | one v =>
    have hv : v ≤ 1 := hk
    have to := f_top (xs := xs) n hl ha v (by omega) A B.stop
    have te2 : ∃ s, (lvl P (n + 3)).fn 11 [.cell xs.length] (xs ++ [rdC l (p + (dg10 v).length)]) = .ok (.str (tx s)) (xs ++ [rdC l (p + (dg10 v).length)]) ∧ decide (s = [47]) = false ∧ decide (s = [99]) = false := by
      cases e : l[p + (dg10 v).length]? with
      | none => exact ⟨[], by rw [f_char (n + 2) hl, chr_none e], rfl, rfl⟩
      | some c => exact ⟨[c], chr e, by rw [B c e]; rfl, by rw [B c e]; rfl⟩
    obtain ⟨s, ch, s1, s2⟩ := te2
    have lt : decide ((1 : Int) < ((v : Nat) : Int)) = false := decide_eq_false (by omega)
    have mk := f_mkR (n + 1) v 1 (by decide) (by decide)
    have mk : ∀ cs, mkI (lvl P (n + 3)) 0 [.int (v : Nat), .int 1] cs = .ok (qv (Tk.one v).val) cs := mk
    show _ = R.ok (qv (Tk.one v).val) (xs ++ [rdC l (p + (dg10 v).length)])
    generalize (Tk.one v).val = r at *
    simp_arith only [bd17, to, rd_of, ch, l_sl, l_c, te, s1, s2, lt, mk, noO_so, unoN_so, isOw_so, ite_self]
  | cent v =>
    have hv : v ≤ 100 := hk
    obtain ⟨A1, A2⟩ := At.app A
    have hc : l[p + (dg10 v).length]? = some 99 := A2 0 (by decide)
    have to := f_top (xs := xs) n hl ha v (by omega) A1 (fun c h => by rw [hc] at h; cases h; rfl)
    have ch := chr hc
    have s1 : decide (([99] : List Nat) = [47]) = false := rfl
    have s2 : decide (([99] : List Nat) = [99]) = true := rfl
    have lt : decide (((v : Nat) : Int) ≤ 100) = true := decide_eq_true (by omega)
    have mk := f_mkR (n + 1) v 100 (by decide) (by decide)
    have mk : ∀ cs, mkI (lvl P (n + 3)) 0 [.int (v : Nat), .int 100] cs = .ok (qv (Tk.cent v).val) cs := mk
    show _ = R.ok (qv (Tk.cent v).val) (xs ++ [rdC l (p + (dg10 v ++ [99]).length)])
    rw [List.length_append, ← Nat.add_assoc]
    show _ = R.ok (qv (Tk.cent v).val) (xs ++ [rdC l (p + (dg10 v).length + 1)])
    generalize (Tk.cent v).val = r at *
    simp_arith only [bd17, to, rd_of, ch, l_sl, l_c, te, s1, s2, lt, rd_cel, intF_1, rd_set, mk, noO_so, unoN_so, isOw_so, ite_self]
  | frac t b =>
    obtain ⟨k1, k2, k3⟩ := hk
    obtain ⟨A0, A3⟩ := At.app A
    obtain ⟨A1, A2⟩ := At.app A0
    have hc : l[p + (dg10 t).length]? = some 47 := A2 0 (by decide)
    have to := f_top (xs := xs) n hl ha t (by omega) A1 (fun c h => by rw [hc] at h; cases h; rfl)
    have ch := chr hc
    have s1 : decide (([47] : List Nat) = [47]) = true := rfl
    rw [List.length_append, ← Nat.add_assoc] at A3
    have e1 : p + (dg10 t).length + ([47] : List Nat).length = p + (dg10 t).length + 1 := rfl
    rw [e1] at A3
    have B : Bnd l (p + (dg10 t ++ [47] ++ dg10 b).length) := B
    have e2 : p + (dg10 t ++ [47] ++ dg10 b).length = p + (dg10 t).length + 1 + (dg10 b).length := by rw [List.length_append, List.length_append, List.length_singleton]; omega
    show _ = R.ok (qv (Tk.frac t b).val) (xs ++ [rdC l (p + (dg10 t ++ [47] ++ dg10 b).length)])
    rw [e2] at B ⊢
    have bo := f_bottom (xs := xs) n hl ha b k3 k2 (t : Nat) (by omega) A3 B.stop
    have mk := f_mkR (n + 1) t b k2 k3
    have mk : ∀ cs, mkI (lvl P (n + 3)) 0 [.int (t : Nat), .int (b : Nat)] cs = .ok (qv (Tk.frac t b).val) cs := mk
    generalize (Tk.frac t b).val = r at *
    simp_arith only [bd17, to, rd_of, ch, l_sl, te, s1, rd_cel, intF_1, rd_set, bo, mk, noO_so, unoN_so, isOw_so, ite_self]
end
end EL

-- K10
/-! law k10 -/
namespace EL
open EG PySem L2
local macro_rules | `(tactic| simp_arith only [$l,*]) => `(tactic| simp -dsimp only [$l,*, za, zb, zc, zd, zf, zg, zh, zm, zo, zp, zq, zr, zt, zu, zv, zw, zx, zy, zA, zB, zC, zD, zE, zF, zG, zH, zI, zJ, zK, zL, zM, zN, zO, zP, zQ, zR, zS, zT, zU, zV, zW, zX, zY, zZ, ya, yb, yc, yd, ye, yf, yg, yh, yj, yk, ym, yn, yo, yp, yq, yr, yt, yu, yw, yx, yy, yz, yA, yB, yC, yD, yE, yF, yG, yH, yI, yJ, yK, yL, yM, yN, yO, yP, yQ, yR, yS, yT, yU, yV, yW, yX, yY, yZ, xa, xb, xf, xg, xh, xi, xj, xk, xl, xn, xo, xp, xq, xr, xt, xu, xw, xy, xz, xA, xB, xC, xD, xE, xF, xG, xH, xI, xJ, xK, xL, xM, xN, xP, xQ, xR, xS, xT, xU, xV, xW, xX, xY, xZ, wa, isRng, wd, we, wf, wg, wi, wj, wk, intO, lstO, celL, wl, wm, wn, wo, wp, wq, wt, wu, wv, ww, wx, wy, wz, wA, wB, wC, wD, wE, wF, wG, wH, wI, wJ, wK, wL, wM, wN, wO, wP, wQ, wR, wS, wT, wU, wV, wW, wX, wY, wZ, vb, Option.map_some, List.sum_cons, List.sum_nil, vc, vd, ve, vf, vg, vh, vi, vj, vk, vm, vn, vp, vr, vt, vw, vx, vy, vz, vA, vB, vC, vD, vE, vF, vG, vH, vI, vJ, vK, vL, vM, vN, vO, vP, vQ, vR, vS, vT, vU, vV, vW, vX, vY, vZ, ua, ub, uc, ud, ue, uf, ug, uh, ui, isiI, uj, uk, ul, um, uq, ur, ut, uw, ux, varE, varA, varI, varP, frE, bltFr, uy, uz, uA, uB, uC, uD, uE, uF, uG, uH, uI, uJ, uK, uL, uM, uN, uO, uP, uQ, uR, uS, startS, uT, uU, uV, List.getElem?_cons_succ, List.getElem?_cons_zero, List.set_cons_zero, List.set_cons_succ, List.cons_append, List.nil_append, List.append_nil, List.length_cons, List.length_nil, List.length_set, List.map_cons, List.map_nil, List.contains_cons, List.contains_nil, List.replicate_succ, List.replicate_zero, List.zipWith_cons_cons, List.zipWith_nil_left, List.zipWith_nil_right, Option.getD_some, Option.getD_none, Bool.or_false, Bool.false_or, Bool.or_true, Bool.true_or, Bool.and_true, Bool.true_and, Bool.and_false, Bool.false_and, Bool.not_true, Bool.not_false, Bool.false_eq_true, beq_self_eq_true, decide_true, decide_false, and_self, and_true, true_and, if_true, if_false, ↓reduceIte, reduceCtorEq, Nat.reduceAdd, Nat.reduceSub, Nat.reduceLT, Nat.reduceLeDiff, Nat.reduceEqDiff, Nat.reduceBEq, Int.reduceNeg, Nat.add_zero, Nat.zero_add, List.all_cons, List.all_nil, noLC, noLs, noL, Option.some.injEq])
open PySem.NumText
theorem forGo_bc {β : Type} (tg : List Nat) (body : SE → Cs → RR) (st : β → SE) (cc : β → Cs) (I : Nat → β → Prop) (n : Nat) (b : β) (h : I 0 b)
    (H : ∀ (k : Nat) (b : β), k < n → I k b → ∃ b' s', I (k + 1) b' ∧ setTS (st b) tg (.int (k : Nat)) = some s' ∧ body s' (cc b) = .nx (st b') (cc b')) :
    ∃ b', I n b' ∧ forGo tg body (rngI 0 n) (st b) (cc b) = .nx (st b') (cc b') := by
  have key : ∀ (m k : Nat) (b : β), k + m = n → I k b → ∃ b', I n b' ∧ forGo tg body (rngI (k : Int) m) (st b) (cc b) = .nx (st b') (cc b') := by
    intro m
    induction m with
    | zero => exact fun k b e hb => ⟨b, by rw [← e]; exact hb, by rw [rngI_zero, forGo_nil]⟩
    | succ m ih =>
      intro k b e hb
      obtain ⟨b1, s1, i1, e1, e2⟩ := H k b (by omega) hb
      obtain ⟨b2, i2, e3⟩ := ih (k + 1) b1 (by omega) i1
      refine ⟨b2, i2, ?_⟩
      rw [rngI_succ, turn_nx e1 e2, ← e3]
      rfl
  exact key n 0 b (by omega) h
/-! ### a text of values -/
/-- values with spaces ahead, then spaces -/
def ptx : List (Nat × Tk) → Nat → List Nat
  | [], e => List.replicate e 32
  | (s, k) :: ts, e => List.replicate s 32 ++ (k.txt ++ ptx ts e)
def Good (ts : List (Nat × Tk)) : Prop := ∀ x ∈ ts, 1 ≤ x.1 ∧ x.2.Ok
theorem ptx_end (ts : List (Nat × Tk)) (e : Nat) : ptx ts e = ptx ts 0 ++ List.replicate e 32 := by
  induction ts with
  | nil => rfl
  | cons x ts ih => obtain ⟨s, k⟩ := x; unfold ptx; rw [ih]; simp
theorem ptx_snoc (ts : List (Nat × Tk)) (s : Nat) (k : Tk) : ptx (ts ++ [(s, k)]) 0 = ptx ts 0 ++ (List.replicate s 32 ++ k.txt) := by
  induction ts with
  | nil => show List.replicate s 32 ++ (k.txt ++ ptx [] 0) = _; unfold ptx; simp
  | cons x ts ih => obtain ⟨s', k'⟩ := x; rw [List.cons_append]; unfold ptx; rw [ih]; simp
theorem tk_hd (k : Tk) (h : k.Ok) : ∃ c, k.txt[0]? = some c ∧ isD c = true := by
  have key : ∀ n, n < 10000 → ∃ c, (dg10 n)[0]? = some c ∧ isD c = true := fun n hn => by
    have D := dg_ok hn
    have h0 : 0 < (dg10 n).length := List.length_pos_iff.mpr D.ne
    exact ⟨_, List.getElem?_eq_getElem h0, D.dig _ (List.getElem_mem h0)⟩
  have app : ∀ {a : List Nat} (b : List Nat) {c : Nat}, a[0]? = some c → (a ++ b)[0]? = some c := fun b c hc => by rw [List.getElem?_append_left (List.getElem?_eq_some_iff.mp hc).1]; exact hc
  cases k with
  | one v => exact key v (by have : v ≤ 1 := h; omega)
  | cent v => obtain ⟨c, h1, h2⟩ := key v (by have : v ≤ 100 := h; omega); exact ⟨c, app _ h1, h2⟩
  | frac t b => obtain ⟨c, h1, h2⟩ := key t (by obtain ⟨_, _, _⟩ := h; omega); exact ⟨c, app _ (app _ h1), h2⟩
theorem tk_len (k : Tk) (h : k.Ok) : k.txt.length ≤ 9 := by
  cases k with
  | one v => have : v ≤ 1 := h; have := (dg_ok (n := v) (by omega)).len; show (dg10 v).length ≤ 9; omega
  | cent v => have : v ≤ 100 := h; have := (dg_ok (n := v) (by omega)).len; show (dg10 v ++ [99]).length ≤ 9; rw [List.length_append, List.length_singleton]; omega
  | frac t b =>
    obtain ⟨h1, h2, h3⟩ := h
    have := (dg_ok (n := t) (by omega)).len
    have := (dg_ok (n := b) h3).len
    show (dg10 t ++ [47] ++ dg10 b).length ≤ 9
    rw [List.length_append, List.length_append, List.length_singleton]; omega
def As (l : List Nat) : Prop := ∀ c ∈ l, c < 128
theorem As.app {a b : List Nat} (ha : As a) (hb : As b) : As (a ++ b) := fun c hc => by
  rcases List.mem_append.mp hc with h | h
  · exact ha c h
  · exact hb c h
theorem As.rep (n : Nat) : As (List.replicate n 32) := fun c hc => by rw [(List.mem_replicate.mp hc).2]; decide
theorem As.dg {n : Nat} (h : n < 10000) : As (dg10 n) := fun c hc => by have := of_decide_eq_true ((dg_ok h).dig c hc); omega
theorem tk_as (k : Tk) (h : k.Ok) : As k.txt := by
  have one : ∀ c, c < 128 → As [c] := fun c hc d hd => by rw [List.mem_singleton.mp hd]; exact hc
  cases k with
  | one v => exact As.dg (by have : v ≤ 1 := h; omega)
  | cent v => exact (As.dg (by have : v ≤ 100 := h; omega)).app (one 99 (by decide))
  | frac t b => obtain ⟨h1, h2, h3⟩ := h; exact ((As.dg (by omega)).app (one 47 (by decide))).app (As.dg h3)
theorem drop_get {l X : List Nat} {p : Nat} (h : l.drop p = X) (j : Nat) : l[p + j]? = X[j]? := by rw [← h, List.getElem?_drop]
theorem ptx_hd {ts : List (Nat × Tk)} (G : Good ts) (e c : Nat) (h : (ptx ts e)[0]? = some c) : c = 32 := by
  cases ts with
  | nil =>
    unfold ptx at h
    rw [List.getElem?_replicate] at h
    split at h
    · exact (Option.some.inj h).symm
    · cases h
  | cons x ts =>
    obtain ⟨s, k⟩ := x
    have hs : 1 ≤ s := (G (s, k) List.mem_cons_self).1
    unfold ptx at h
    rw [List.getElem?_append_left (by rw [List.length_replicate]; omega), List.getElem?_replicate, if_pos (by omega)] at h
    exact (Option.some.inj h).symm
theorem whlT_bk (t : SE → Cs → (Bool → SE → Cs → RR) → RR) (body : SE → Cs → RR) (n : Nat) (s : SE) (cs : Cs) : whlT t body n (.bk s cs) = .nx s cs := id rfl
theorem noLs_q : ∀ us : List Rat, noLs (us.map qv) = true
  | [] => rfl
  | u :: us => by
    rw [List.map_cons, noLs, noLs_q us, Bool.and_true]
    show noL (.obj _ [_, _]) = true
    rw [noL]
    rfl
section
variable {xs : Cs} {l : List Nat}
theorem init_eq (n c : Nat) (as : List IV) (cs : Cs) : (lvl P (n + 1)).init c as cs = outI fld c (exB ffr (lvl P n) false (ibd c) (.slf c [] :: startS ((inm c).length - 1) as) cs) := rfl
theorem mk_rd (n : Nat) (l : List Nat) (cs : Cs) : mkI (lvl P (n + 2)) 1 [.str (tx l)] cs = .ok (.cell cs.length) (cs ++ [rdC l 0]) := by
  have ini : (lvl P (n + 2)).init 1 [.str (tx l)] cs = .ok [.str (tx l), .int 0] cs := by
    rw [init_eq, show ibd 1 = ib1 from rfl, show inm 1 = in1 from rfl]
    simp_arith only [ib1, in1]
    exact outI_nx _ _ _ _ _ rfl
  simp_arith only [mk_eq, ini, cel_r]
  rfl
theorem r_all (h : xs.all noLC = true) (p : Nat) : (xs ++ [rdC l p]).all noLC = true := by rw [List.all_append, h]; rfl
theorem all_eq (cs : Cs) (h : cs.all noLC = true) : List.all cs noLC = true := h
set_option maxHeartbeats 1000000 in
theorem parse_go (n : Nat) (hx : xs.all noLC = true) (hl : l.length ≤ 1000) (ha : As l) (e : Nat) : ∀ (ts : List (Nat × Tk)) (p f : Nat) (vs : List Rat), Good ts → l.drop p = ptx ts e → p ≤ l.length → vs.length + ts.length ≤ 8 → ts.length + 1 < f →
    whlGo (evT (lvl P (n + 5)) (.cmp .Eq (.meth 1 11 (.var 1) .nil) (.str " "))) (exB ffr (lvl P (n + 5)) false lb19_0) f ([.val (.str (tx l)), .val (.cell xs.length), .own ((vs).map qv)]) (xs ++ [rdC l p]) = .nx ([.val (.str (tx l)), .val (.cell xs.length), .own ((vs ++ ts.map fun x => x.2.val).map qv)]) (xs ++ [rdC l l.length])
  | ts, p, 0, _, _, _, _, _, hf => absurd hf (Nat.not_lt_zero _)
  | [], p, f + 1, vs, _, hd, hp, _, hf => by
    rw [whlGo_succ, List.map_nil, List.append_nil]
    have hdl := congrArg List.length hd
    unfold ptx at hdl
    rw [List.length_drop, List.length_replicate] at hdl
    have ch := f_char (xs := xs) (l := l) (p := p) (n + 4) hl
    have te := tx_e (n + 4)
    have all := r_all (l := l) hx
    by_cases h0 : e = 0
    · have hpl : p = l.length := by omega
      rw [chr_none (List.getElem?_eq_none (by omega))] at ch
      have s0 : decide (([] : List Nat) = [32]) = false := rfl
      rw [hpl] at ch ⊢
      simp_arith only [ch, rd_of, l_sp, te, s0, all, noO_so, unoN_so]
    · have g0 : l[p]? = some 32 := by
        have := drop_get hd 0
        unfold ptx at this
        rw [List.getElem?_replicate, if_pos (by omega)] at this
        exact this
      rw [chr_some g0] at ch
      have sk := f_skip (xs := xs) (l := l) (p := p) (n + 3) hl e (fun j hj => by
        have := drop_get hd j
        unfold ptx at this
        rw [List.getElem?_replicate, if_pos hj] at this
        exact this) (by
        have := drop_get hd e
        unfold ptx at this
        rw [List.getElem?_replicate, if_neg (Nat.lt_irrefl _)] at this
        rw [this]; intro z; cases z)
      rw [show p + e = l.length by omega] at sk
      have ch2 := f_char (xs := xs) (l := l) (p := l.length) (n + 4) hl
      rw [chr_none (List.getElem?_eq_none (Nat.le_refl _))] at ch2
      have s0 : decide (([32] : List Nat) = [32]) = true := rfl
      have s1 : decide (([] : List Nat) = []) = true := rfl
      simp_arith only [ch, rd_of, l_sp, l_e, te, s0, s1, sk, ch2, all, lb19_0, whlT_bk, noO_so, unoN_so]
  | (s, k) :: ts, p, f + 1, vs, G, hd, hp, h8, hf => by
    obtain ⟨hs, hk⟩ := G (s, k) List.mem_cons_self
    dsimp only at hs hk
    have G' : Good ts := fun x hx => G x (List.mem_cons_of_mem _ hx)
    unfold ptx at hd
    have all := r_all (l := l) hx
    have ch := f_char (xs := xs) (l := l) (p := p) (n + 4) hl
    have te := tx_e (n + 4)
    have rp : ∀ j, j < s → l[p + j]? = some 32 := fun j hj => by
      rw [drop_get hd j, List.getElem?_append_left (by rw [List.length_replicate]; exact hj), List.getElem?_replicate, if_pos hj]
    have g0 : l[p]? = some 32 := rp 0 (by omega)
    rw [chr_some g0] at ch
    have hd2 : l.drop (p + s) = k.txt ++ ptx ts e := by
      rw [← List.drop_drop, hd, List.drop_append_of_le_length (by rw [List.length_replicate]; exact Nat.le_refl _), List.drop_eq_nil_of_le (by rw [List.length_replicate]; exact Nat.le_refl _), List.nil_append]
    have hd3 : l.drop (p + s + k.txt.length) = ptx ts e := by
      rw [← List.drop_drop, hd2, List.drop_append_of_le_length (Nat.le_refl _), List.drop_eq_nil_of_le (Nat.le_refl _), List.nil_append]
    obtain ⟨c, hc, dc⟩ := tk_hd k hk
    have kl : 0 < k.txt.length := (List.getElem?_eq_some_iff.mp hc).1
    have gc : l[p + s]? = some c := by
      have := drop_get hd2 0
      rw [List.getElem?_append_left kl] at this
      rw [← hc]; exact this
    have c32 : c ≠ 32 := fun z => by rw [z] at dc; cases dc
    have sk := f_skip (xs := xs) (l := l) (p := p) (n + 3) hl s rp (by rw [gc]; intro z; exact c32 (Option.some.inj z))
    have ch2 := f_char (xs := xs) (l := l) (p := p + s) (n + 4) hl
    rw [chr_some gc] at ch2
    have A : At l (p + s) k.txt := fun j hj => by rw [drop_get hd2 j, List.getElem?_append_left hj]
    have B : Bnd l (p + s + k.txt.length) := fun d h => ptx_hd G' e d (by rw [← h]; exact (drop_get hd3 0).symm)
    have va := f_value (xs := xs) (l := l) (p := p + s) (n + 1) hl ha k hk A B
    have hpl : p + s + k.txt.length ≤ l.length := by
      have := congrArg List.length hd2
      rw [List.length_drop, List.length_append] at this
      omega
    have ih := parse_go n hx hl ha e ts (p + s + k.txt.length) f (vs ++ [k.val]) G' hd3 hpl (by rw [List.length_append, List.length_singleton]; rw [List.length_cons] at h8; omega) (by rw [List.length_cons] at hf; omega)
    rw [whlGo_succ, List.map_cons]
    rw [List.append_assoc] at ih
    simp only [l_sp, l_e, lb19_0] at ih
    have s0 : decide (([32] : List Nat) = [32]) = true := rfl
    have s1 : decide (([c] : List Nat) = []) = false := rfl
    have ei : ∀ a b : Int, eqG (lvl P (n + 5)) (.int a) (.int b) = some (a == b) := fun a b => wB _ a b
    have v8 : (((vs.length : Nat) : Int) == 8) = false := by rw [List.length_cons] at h8; rw [beq_eq_false_iff_ne]; omega
    have ap : vs.map qv ++ [qv k.val] = (vs ++ [k.val]).map qv := by rw [List.map_append]; rfl
    have lt : vs.length < 1000000 := by omega
    have hap : vs ++ [k.val] ++ ts.map (fun x => x.2.val) = vs ++ ([k.val] ++ ts.map (fun x => x.2.val)) := List.append_assoc ..
    simp_arith only [ch, rd_of, l_sp, l_e, te, s0, s1, sk, ch2, va, lb19_0, con2, ei, v8, ap, lt, all, ih, whlT_nx, List.length_map, noO_so, unoN_so]
def ptxt (s0 : Nat) (k0 : Tk) (ts : List (Nat × Tk)) (e : Nat) : List Nat := List.replicate s0 32 ++ (k0.txt ++ ptx ts e)
set_option maxHeartbeats 1000000 in
theorem f_parse (n : Nat) (hx : xs.all noLC = true) (s0 : Nat) (k0 : Tk) (ts : List (Nat × Tk)) (e : Nat) (hk : k0.Ok) (G : Good ts) (h7 : ts.length ≤ 7) (hl : (ptxt s0 k0 ts e).length ≤ 1000) (ha : As (ptxt s0 k0 ts e)) :
    (lvl P (n + 6)).fn 19 [.str (tx (ptxt s0 k0 ts e))] xs = .ok (.tup ((k0.val :: ts.map fun x => x.2.val).map qv)) (xs ++ [rdC (ptxt s0 k0 ts e) (ptxt s0 k0 ts e).length]) := by
  rw [fn_eq]
  show outF false (exB ffr (lvl P (n + 5)) false bd19 (startS 3 [.str (tx (ptxt s0 k0 ts e))]) xs) = _
  generalize hL : ptxt s0 k0 ts e = l at *
  have hd0 : l.drop 0 = List.replicate s0 32 ++ (k0.txt ++ ptx ts e) := by rw [← hL]; rfl
  have hd2 : l.drop s0 = k0.txt ++ ptx ts e := by
    rw [← hL]
    unfold ptxt
    rw [List.drop_append_of_le_length (by rw [List.length_replicate]; exact Nat.le_refl _), List.drop_eq_nil_of_le (by rw [List.length_replicate]; exact Nat.le_refl _), List.nil_append]
  have hd3 : l.drop (s0 + k0.txt.length) = ptx ts e := by
    rw [← List.drop_drop, hd2, List.drop_append_of_le_length (Nat.le_refl _), List.drop_eq_nil_of_le (Nat.le_refl _), List.nil_append]
  obtain ⟨c, hc, dc⟩ := tk_hd k0 hk
  have kl : 0 < k0.txt.length := (List.getElem?_eq_some_iff.mp hc).1
  have gc : l[0 + s0]? = some c := by
    have := drop_get hd2 0
    rw [List.getElem?_append_left kl] at this
    rw [Nat.zero_add, ← hc]; exact this
  have c32 : c ≠ 32 := fun z => by rw [z] at dc; cases dc
  have sk := f_skip (xs := xs) (l := l) (p := 0) (n + 3) hl s0 (fun j hj => by
    rw [drop_get hd0 j, List.getElem?_append_left (by rw [List.length_replicate]; exact hj), List.getElem?_replicate, if_pos hj]) (by rw [gc]; intro z; exact c32 (Option.some.inj z))
  rw [Nat.zero_add] at sk
  have A : At l s0 k0.txt := fun j hj => by rw [drop_get hd2 j, List.getElem?_append_left hj]
  have B : Bnd l (s0 + k0.txt.length) := fun d h => ptx_hd G e d (by rw [← h]; exact (drop_get hd3 0).symm)
  have va := f_value (xs := xs) (l := l) (p := s0) (n + 1) hl ha k0 hk A B
  have hpl : s0 + k0.txt.length ≤ l.length := by
    have := congrArg List.length hd2
    rw [List.length_drop, List.length_append] at this
    omega
  have go := parse_go (xs := xs) (l := l) n hx hl ha e ts (s0 + k0.txt.length) fuel [k0.val] G hd3 hpl (by rw [List.length_singleton]; omega) (by unfold fuel; omega)
  have ch := f_char (xs := xs) (l := l) (p := l.length) (n + 4) hl
  rw [chr_none (List.getElem?_eq_none (Nat.le_refl _))] at ch
  have te := tx_e (n + 4)
  have s1 : decide (([] : List Nat) = []) = true := rfl
  have mk := mk_rd (n + 3) l xs
  have all := r_all (l := l) hx
  have ap : [k0.val] ++ ts.map (fun x => x.2.val) = k0.val :: ts.map fun x => x.2.val := rfl
  rw [ap] at go
  rw [show ([k0.val].map qv) = [qv k0.val] from rfl] at go
  generalize (k0.val :: ts.map fun x => x.2.val) = us at *
  have kq := noLs_q us
  simp_arith only [bd19, mk, rd_of, sk, va, exS_whl, go, ch, l_e, te, s1, all, kq, noO_so, unoN_so]
end
/-! ### a value is written -/
theorem tk_vals (k : Tk) (h : k.Ok) : ∃ a b : Nat, a ≤ b ∧ 1 ≤ b ∧ b < 10000 ∧ k.val = ((a : Nat) : Int) / (((b : Nat) : Int) : Rat) := by
  cases k with
  | one v => exact ⟨v, 1, h, Nat.le_refl _, by decide, rfl⟩
  | cent v => exact ⟨v, 100, h, by decide, by decide, rfl⟩
  | frac t b => exact ⟨t, b, h.1, h.2.1, h.2.2, rfl⟩
/-- lowest terms -/
theorem low (a b : Nat) (h : a ≤ b) (h1 : 1 ≤ b) : ∃ u v : Nat, (((a : Nat) : Int) / (((b : Nat) : Int) : Rat) : Rat).num = (u : Int) ∧ (((a : Nat) : Int) / (((b : Nat) : Int) : Rat) : Rat).den = v ∧ u ≤ v ∧ v ≤ b ∧ 1 ≤ v := by
  generalize hr : (((a : Nat) : Int) / (((b : Nat) : Int) : Rat) : Rat) = r
  have hb : ((((b : Nat) : Int)) : Rat) ≠ 0 := fun z => by have := Rat.intCast_eq_zero_iff.mp z; omega
  have e1 : r * (((b : Nat) : Int) : Rat) = (((a : Nat) : Int) : Rat) := by rw [← hr]; exact Rat.div_mul_cancel hb
  have hd : (((r.den : Nat) : Int) : Rat) ≠ 0 := fun z => den_ne r (Rat.intCast_eq_zero_iff.mp z)
  have e2 : r * (((r.den : Nat) : Int) : Rat) = ((r.num : Int) : Rat) := by
    have h3 := Rat.div_mul_cancel (a := ((r.num : Int) : Rat)) hd
    rw [rat_self r] at h3
    exact h3
  have e3 : r.num * (b : Nat) = (a : Nat) * ((r.den : Nat) : Int) := by
    have : ((r.num * (b : Nat) : Int) : Rat) = (((a : Nat) * ((r.den : Nat) : Int) : Int) : Rat) := by
      push_cast at e1 e2 ⊢
      grind
    exact Rat.intCast_inj.mp this
  have dp : 1 ≤ r.den := by have := r.den_nz; omega
  have n0 : 0 ≤ r.num := by
    have : 0 ≤ r.num * (b : Nat) := by rw [e3]; exact Int.mul_nonneg (by omega) (by omega)
    exact Int.le_of_mul_le_mul_right (a := (b : Int)) (by rw [Int.zero_mul]; exact this) (by omega)
  obtain ⟨u, hu⟩ := Int.eq_ofNat_of_zero_le n0
  rw [hu] at e3
  have e4 : u * b = a * r.den := by exact_mod_cast e3
  refine ⟨u, r.den, hu, rfl, ?_, ?_, dp⟩
  · have : u * b ≤ r.den * b := by rw [e4, Nat.mul_comm r.den]; exact Nat.mul_le_mul_right _ h
    exact Nat.le_of_mul_le_mul_right this (by omega)
  · have co : Nat.Coprime r.den u := by
      have := r.reduced
      rw [hu] at this
      exact Nat.Coprime.symm this
    have : r.den ∣ u * b := ⟨a, by rw [e4, Nat.mul_comm]⟩
    exact Nat.le_of_dvd (by omega) (co.dvd_of_dvd_mul_left this)
/-- .. as it is written -/
def nk (u v : Nat) : Tk := if v = 1 then .one u else .frac u v
theorem nk_ok {u v : Nat} (h : u ≤ v) (h1 : 1 ≤ v) (h2 : v < 10000) : (nk u v).Ok := by
  unfold nk
  by_cases c : v = 1
  · rw [if_pos c]; show u ≤ 1; omega
  · rw [if_neg c]; exact ⟨h, h1, h2⟩
theorem nk_val {u v : Nat} : (nk u v).val = ((u : Nat) : Int) / (((v : Nat) : Int) : Rat) := by
  unfold nk
  by_cases c : v = 1
  · rw [if_pos c, c]; rfl
  · rw [if_neg c]; rfl
/-- what is kept of a value: as it was written, and its lowest terms -/
structure Ent where
  k : Tk
  u : Nat
  v : Nat
structure Ent.Ok (x : Ent) : Prop where
  k : x.k.Ok
  num : x.k.val.num = (x.u : Int)
  den : x.k.val.den = x.v
  uv : x.u ≤ x.v
  v1 : 1 ≤ x.v
  v2 : x.v < 10000
theorem ent (k : Tk) (h : k.Ok) : ∃ u v, (Ent.mk k u v).Ok := by
  obtain ⟨a, b, h1, h2, h3, h4⟩ := tk_vals k h
  obtain ⟨u, v, g1, g2, g3, g4, g5⟩ := low a b h1 h2
  exact ⟨u, v, h, by rw [h4]; exact g1, by rw [h4]; exact g2, g3, g5, by dsimp only; omega⟩
theorem Ent.Ok.val {x : Ent} (h : x.Ok) : ((x.u : Nat) : Int) / (((x.v : Nat) : Int) : Rat) = x.k.val := by
  rw [← h.num, ← h.den, rat_self]
theorem Ent.Ok.nval {x : Ent} (h : x.Ok) : (nk x.u x.v).val = x.k.val := by rw [nk_val, h.val]
theorem bs_int (i : Int) (cs : Cs) : bltI .str [.int i] cs = strI (.int i) cs := id rfl
theorem b_pos (l : List IV) (i : Int) (cs : Cs) : True := trivial
set_option maxHeartbeats 1000000 in
theorem f_written (n : Nat) (ds : List Int) (hd : 0 < ds.length) (p : Nat) : ∃ (k : Tk) (t b p' : Nat), k.Ok ∧ t ≤ b ∧ 1 ≤ b ∧ b < 10000 ∧ k.val = ((t : Nat) : Int) / (((b : Nat) : Int) : Rat) ∧ (lvl P (n + 2)).fn 29 [strm ds] (cst p) = .ok (.tup [.str (tx k.txt), .int (t : Nat), .int (b : Nat)]) (cst p') := by
  have nx : ∀ p (m : Int), m ≠ 0 → (lvl P (n + 1)).fn 24 [strm ds, .int m] (cst p) = .ok (.int (dg ds p m)) (cst (p + 1)) := fun p m hm => f_nextS n ds hd p m hm
  have n4 := fun p => nx p 4 (by decide)
  have n2 := fun p => nx p 2 (by decide)
  have n60 := fun p => nx p 60 (by decide)
  have ei : ∀ a b : Int, eqG (lvl P (n + 1)) (.int a) (.int b) = some (a == b) := fun a b => wB _ a b
  have r4 := fun p => dg_rng ds p (m := 4) (by decide)
  have r2 := fun p => dg_rng ds p (m := 2) (by decide)
  have r60 := fun p => dg_rng ds p (m := 60) (by decide)
  have nat : ∀ {z : Int}, 0 ≤ z → ∃ m : Nat, z = (m : Int) := fun {z} h => ⟨z.toNat, by omega⟩
  have sdg : ∀ m : Nat, m < 10000 → ∀ cs, strI (.int (m : Nat)) cs = .ok (.str (tx (dg10 m))) cs := fun m hm cs => s_dg m (Nat.lt_of_lt_of_le hm (by decide)) cs
  have mul : ∀ (x y : Int), 0 ≤ x → x ≤ 10000 → 0 ≤ y → y ≤ 10000 → ∀ cs, binI (lvl P (n + 1)) .mul (.int x) (.int y) cs = .ok (.int (x * y)) cs := fun x y h1 h2 h3 h4 cs => b_mulw (k := 14) (l := 14) (by omega) (by omega) (by decide) (by decide) _ cs
  have mk : ∀ (k : Tk) (t b p' : Nat), k.Ok → t ≤ b → 1 ≤ b → b < 10000 → k.val = ((t : Nat) : Int) / (((b : Nat) : Int) : Rat) → outF false (exB ffr (lvl P (n + 1)) false bd29 (startS 5 [strm ds]) (cst p)) = .ok (.tup [.str (tx k.txt), .int (t : Nat), .int (b : Nat)]) (cst p') → ∃ (k : Tk) (t b p' : Nat), k.Ok ∧ t ≤ b ∧ 1 ≤ b ∧ b < 10000 ∧ k.val = ((t : Nat) : Int) / (((b : Nat) : Int) : Rat) ∧ (lvl P (n + 2)).fn 29 [strm ds] (cst p) = .ok (.tup [.str (tx k.txt), .int (t : Nat), .int (b : Nat)]) (cst p') := fun k t b p' h1 h2 h3 h4 h5 h6 => ⟨k, t, b, p', h1, h2, h3, h4, h5, by rw [fn_eq]; exact h6⟩
  have all := cst_all
  cases c0 : (dg ds p 4 == 0) with
  | true =>
    obtain ⟨v, hv⟩ := nat (r2 (p + 1)).1
    have hv2 := (r2 (p + 1)).2
    have sv := sdg v (by omega)
    refine mk (.one v) v 1 (p + 2) (by show v ≤ 1; omega) (by omega) (by decide) (by decide) rfl ?_
    show _ = R.ok (IV.tup [.str (tx (dg10 v)), .int (v : Nat), .int ((1 : Nat) : Int)]) _
    simp_arith only [bd29, n4, n2, ei, c0, hv, bs_int, sv, noO_so, unoN_so]
    rfl
  | false =>
  cases c1 : (dg ds p 4 == 1) with
  | true =>
    obtain ⟨x, hx⟩ := nat (r60 (p + 1)).1
    have hx2 := (r60 (p + 1)).2
    rw [hx] at hx2
    have m2 := mul (x : Int) 2 (by omega) (by omega) (by decide) (by decide)
    have md : ∀ cs, binI (lvl P (n + 1)) .mod (.int ((x : Int) * 2)) (.int 101) cs = .ok (.int (((x * 2 % 101 : Nat)) : Int)) cs := fun cs => by
      rw [b_mod, if_pos (by decide)]
      congr 2
      rw [Int.fmod_eq_emod_of_nonneg _ (by decide)]
      omega
    have sv := sdg (x * 2 % 101) (by omega)
    have ad := fun cs => tx_add (lvl P (n + 1)) (dg10 (x * 2 % 101)) [99] (by have := (dg_ok (n := x * 2 % 101) (by omega)).len; simp; omega) cs
    have h100 : x * 2 % 101 ≤ 100 := by omega
    refine mk (.cent (x * 2 % 101)) (x * 2 % 101) 100 (p + 2) h100 h100 (by decide) (by decide) rfl ?_
    show _ = R.ok (IV.tup [.str (tx (dg10 (x * 2 % 101) ++ [99])), .int ((x * 2 % 101 : Nat) : Int), .int ((100 : Nat) : Int)]) _
    generalize x * 2 % 101 = w at *
    simp_arith only [bd29, n4, n60, ei, c0, c1, hx, m2, md, bs_int, sv, l_c, ad, noO_so, unoN_so]
    rfl
  | false =>
    obtain ⟨x, hx⟩ := nat (r60 (p + 1)).1
    have hx2 := (r60 (p + 1)).2
    rw [hx] at hx2
    obtain ⟨y, hy⟩ := nat (r60 (p + 1 + 1)).1
    have hy2 := (r60 (p + 1 + 1)).2
    rw [hy] at hy2
    obtain ⟨x', hx'⟩ := nat (r60 (p + 1 + 1 + 1 + 1)).1
    have hx2' := (r60 (p + 1 + 1 + 1 + 1)).2
    rw [hx'] at hx2'
    obtain ⟨y', hy'⟩ := nat (r60 (p + 1 + 1 + 1 + 1 + 1)).1
    have hy2' := (r60 (p + 1 + 1 + 1 + 1 + 1)).2
    rw [hy'] at hy2'
    have rz := r4 (p + 1 + 1 + 1)
    obtain ⟨g, hg, ag⟩ : ∃ g : Nat, g ≤ 1 ∧ atI [IV.int 1, .int 1, .int 1, .int 0] (dg ds (p + 1 + 1 + 1) 4) = some (.int (g : Nat)) := by
      generalize dg ds (p + 1 + 1 + 1) 4 = z at *
      have hz : z = 0 ∨ z = 1 ∨ z = 2 ∨ z = 3 := by omega
      rcases hz with rfl | rfl | rfl | rfl
      · exact ⟨1, by decide, rfl⟩
      · exact ⟨1, by decide, rfl⟩
      · exact ⟨1, by decide, rfl⟩
      · exact ⟨0, by decide, rfl⟩
    have mx := mul (x : Int) 60 (by omega) (by omega) (by decide) (by decide)
    have mx' := mul (x' : Int) 60 (by omega) (by omega) (by decide) (by decide)
    have mg := mul ((x : Int) * 60 + (y : Int)) (g : Int) (by omega) (by omega) (by omega) (by omega)
    obtain ⟨b, hb, hb1, hb2⟩ : ∃ b : Nat, 1 + ((x : Int) * 60 + (y : Int)) * (g : Int) = (b : Int) ∧ 1 ≤ b ∧ b < 9999 := by
      rcases (show g = 0 ∨ g = 1 by omega) with rfl | rfl
      · exact ⟨1, by omega, by omega, by omega⟩
      · exact ⟨1 + (x * 60 + y), by omega, by omega, by omega⟩
    obtain ⟨t, ht, htb⟩ : ∃ t : Nat, ((x' : Int) * 60 + (y' : Int)).fmod ((b : Int) + 1) = (t : Int) ∧ t ≤ b := by
      have := fmod_rng ((x' : Int) * 60 + (y' : Int)) (m := (b : Int) + 1) (by omega)
      exact ⟨(((x' : Int) * 60 + (y' : Int)).fmod ((b : Int) + 1)).toNat, by omega, by omega⟩
    have md : ∀ cs, binI (lvl P (n + 1)) .mod (.int ((x' : Int) * 60 + (y' : Int))) (.int ((b : Int) + 1)) cs = .ok (.int (t : Nat)) cs := fun cs => by rw [b_mod, if_pos (by omega), ht]
    have st := sdg t (by omega)
    have sb := sdg b (by omega)
    have lt := (dg_ok (n := t) (by omega)).len
    have lb := (dg_ok (n := b) (by omega)).len
    have ad1 := fun cs => tx_add (lvl P (n + 1)) (dg10 t) [47] (by simp; omega) cs
    have ad2 := fun cs => tx_add (lvl P (n + 1)) (dg10 t ++ [47]) (dg10 b) (by simp; omega) cs
    refine mk (.frac t b) t b (p + 1 + 1 + 1 + 1 + 1 + 1) ⟨htb, hb1, by omega⟩ htb hb1 (by omega) rfl ?_
    show _ = R.ok (IV.tup [.str (tx (dg10 t ++ [47] ++ dg10 b)), .int (t : Nat), .int (b : Nat)]) _
    simp_arith only [bd29, n4, n60, ei, c0, c1, hx, hy, hx', hy', mx, mx', ag, mg, hb, md, bs_int, st, sb, l_sl, ad1, ad2, noO_so, unoN_so]
/-! ### texts of values -/
theorem f_qs (n : Nat) (r : Rat) (u v : Nat) (hu : r.num = (u : Int)) (hv : r.den = v) (huv : u ≤ v) (h2 : v < 10000) (cs : Cs) : (lvl P (n + 1)).fn 9 [qv r] cs = .ok (.str (tx (nk u v).txt)) cs := by
  rw [fn_eq]
  show outF false (exB ffr (lvl P n) false bd9 (startS 1 [qv r]) cs) = _
  have su : ∀ cs, strI (.int (u : Nat)) cs = .ok (.str (tx (dg10 u))) cs := fun cs => s_dg u (Nat.lt_of_lt_of_le (Nat.lt_of_le_of_lt huv h2) (by decide)) cs
  have qn : ∀ cs, attrI (qv r) 0 0 cs = .ok (.int (u : Nat)) cs := fun cs => by rw [q_num, hu]
  have qd : ∀ cs, attrI (qv r) 0 1 cs = .ok (.int (v : Nat)) cs := fun cs => by rw [q_den, hv]
  have fm : ∀ m : Nat, m < 10000 → fmtO (.int (m : Nat)) = some (m : Int) := fun m hm => by
    show (if ((m : Nat) : Int).natAbs.log2 < 1920 then some ((m : Nat) : Int) else none) = _
    rw [if_pos]
    rw [Int.natAbs_natCast]
    by_cases z : m = 0
    · rw [z]; decide
    · exact (Nat.log2_lt z).mpr (Nat.lt_of_lt_of_le hm (by decide))
  have fu := fm u (by omega)
  have fv := fm v h2
  unfold nk
  by_cases h : v = 1
  · have e : (((v : Nat) : Int) == 1) = true := by rw [h]; rfl
    rw [if_pos h]
    show _ = R.ok (IV.str (tx (dg10 u))) cs
    simp_arith only [bd9, qn, qd, e, bs_int, su]
  · have e : (((v : Nat) : Int) == 1) = false := by rw [beq_eq_false_iff_ne]; omega
    rw [if_neg h]
    show _ = R.ok (IV.str (tx (dg10 u ++ [47] ++ dg10 v))) cs
    have ft : ((toString ((u : Nat) : Int) : Str) ++ ("/" : Str) ++ (toString ((v : Nat) : Int) : Str)) = tx (dg10 u ++ [47] ++ dg10 v) := by rw [str_dg, str_dg, l_sl, tx_app, tx_app]
    simp_arith only [bd9, qn, qd, e, fu, fv, ft]
theorem f_qstrm (n : Nat) (r : Rat) (u v : Nat) (hu : r.num = (u : Int)) (hv : r.den = v) (huv : u ≤ v) (h2 : v < 10000) (cs : Cs) : strmI (lvl P (n + 1)) 0 9 [qv r] cs = .ok (.str (tx (nk u v).txt)) cs := by
  have := f_qs n r u v hu hv huv h2 cs
  show ((lvl P (n + 1)).fn 9 [qv r] cs).bind strK = _
  rw [this]
  rfl
/-- texts glued by spaces -/
def jtx : List (List Nat) → List Nat
  | [] => []
  | x :: xs => x ++ (xs.map fun y => [32] ++ y).flatten
theorem join_tx (xs : List (List Nat)) : Txt.join (tx [32]) (xs.map tx) = tx (jtx xs) := by
  unfold Txt.join Builtin.Str.glued
  cases xs with
  | nil => rfl
  | cons x xs =>
    show Str.mk (((xs.map tx).foldl (fun acc p => acc ++ (tx [32]).cps ++ p.cps) (tx x).cps)) = _
    have key : ∀ (xs : List (List Nat)) (a : List Nat), (xs.map tx).foldl (fun acc p => acc ++ (tx [32]).cps ++ p.cps) a.toArray = (a ++ (xs.map fun y => [32] ++ y).flatten).toArray := by
      intro xs
      induction xs with
      | nil => intro a; simp
      | cons y ys ih =>
        intro a
        rw [List.map_cons, List.foldl_cons]
        have : a.toArray ++ (tx [32]).cps ++ (tx y).cps = (a ++ [32] ++ y).toArray := by
          show a.toArray ++ [32].toArray ++ y.toArray = _
          rw [List.append_toArray, List.append_toArray]
        rw [this, ih]
        simp
    exact congrArg Str.mk (key xs x)
theorem strs_tx : ∀ xs : List (List Nat), strsOf (xs.map fun l => IV.str (tx l)) = some (xs.map tx)
  | [] => rfl
  | x :: xs => by rw [List.map_cons]; unfold strsOf; rw [strs_tx xs]; rfl
theorem joinI_tx (xs : List (List Nat)) (h : ∀ l ∈ xs, l.length ≤ 9) (h8 : xs.length ≤ 8) (cs : Cs) : joinI (tx [32]) (.lst (xs.map fun l => IV.str (tx l))) cs = .ok (.str (tx (jtx xs))) cs := by
  have sm : ∀ xs : List (List Nat), (∀ l ∈ xs, l.length ≤ 9) → ((xs.map tx).map (·.length)).sum ≤ 9 * xs.length := by
    intro xs
    induction xs with
    | nil => exact fun _ => Nat.le_refl _
    | cons x xs ih =>
      intro h
      have := ih fun l hl => h l (List.mem_cons_of_mem _ hl)
      have h1 := h x List.mem_cons_self
      rw [List.map_cons, List.map_cons, List.sum_cons, List.length_cons, tx_len]
      omega
  show ((R.ofO (strsOf (xs.map fun l => IV.str (tx l))) cs).bind fun ys cs => if (ys.map (·.length)).sum + ys.length * (tx [32]).length ≤ 1000000 then R.ok (IV.str (Txt.join (tx [32]) ys)) cs else .stuck) = _
  rw [strs_tx]
  show (if ((xs.map tx).map (·.length)).sum + (xs.map tx).length * (tx [32]).length ≤ 1000000 then R.ok (IV.str (Txt.join (tx [32]) (xs.map tx))) cs else .stuck) = _
  have := sm xs h
  rw [if_pos (by rw [List.length_map, tx_len, List.length_singleton]; omega), join_tx]
/-- a list of values written -/
def ntx (es : List Ent) : List Nat := jtx (es.map fun x => (nk x.u x.v).txt)
theorem nk_len {x : Ent} (h : x.Ok) : (nk x.u x.v).txt.length ≤ 9 := tk_len _ (nk_ok h.uv h.v1 h.v2)
theorem f_format (n : Nat) (es : List Ent) (h : ∀ x ∈ es, x.Ok) (h8 : es.length ≤ 8) (cs : Cs) : (lvl P (n + 2)).fn 20 [.tup (es.map fun x => qv x.k.val)] cs = .ok (.str (tx (ntx es))) cs := by
  rw [fn_eq]
  show outF false (exB ffr (lvl P (n + 1)) false bd20 (startS 2 [.tup (es.map fun x => qv x.k.val)]) cs) = _
  have go := fun (vs : List Nat) (s : SE) (hs : s.length = 2) cs => comp_map (turn := cTurn (lvl P (n + 1)) (opnM vs s) [1] [1] .no ce20_0) (fun x : Ent => qv x.k.val) (fun x => IV.str (tx (nk x.u x.v).txt)) cs es [] (fun x hx acc => by
    have hx := h x hx
    have st := fun cs => f_qstrm n x.k.val x.u x.v hx.num hx.den hx.uv hx.v2 cs
    simp_arith only [ce20_0, hs, st, turn_eq, zB])
  have zl : decide (es.length ≤ 1000000) = true := decide_eq_true (by omega)
  have jn := fun cs => joinI_tx (es.map fun x => (nk x.u x.v).txt) (fun l hl => by obtain ⟨x, hx, rfl⟩ := List.mem_map.mp hl; exact nk_len (h x hx)) (by rw [List.length_map]; exact h8) cs
  rw [List.map_map] at jn
  have jn : ∀ cs, joinI (tx [32]) (.lst (es.map fun x => IV.str (tx (nk x.u x.v).txt))) cs = .ok (.str (tx (ntx es))) cs := jn
  simp_arith only [bd20, zl, go, l_sp, jn, List.nil_append, List.length_map, noO_so, unoN_so]
theorem f_sameS (n : Nat) (s : Str) (cs : Cs) : (lvl P (n + 2)).fn 28 [.str s, .str s] cs = .ok (.bl true) cs := by
  rw [fn_eq]
  show outF false (exB ffr (lvl P (n + 1)) false bd28 (startS 3 [.str s, .str s]) cs) = _
  have nq : (lvl P (n + 1)).nc = 2 := rfl
  have e : eqG (lvl P (n + 1)) (.str s) (.str s) = some true := by rw [e_any]; show some (s == s) = _; rw [beq_self_eq_true]
  simp_arith only [bd28, nq, e]
/-! ### the law's text -/
/-- the text of so many values: the first, then others behind spaces -/
structure TxI (n0 : Nat) (L : List Nat) (es : List Ent) (k : Nat) : Prop where
  len : es.length = k
  ok : ∀ x ∈ es, x.Ok
  l0 : k = 0 → L = List.replicate n0 32
  l1 : 1 ≤ k → ∃ (x : Ent) (ss : List (Nat × Ent)), es = x :: ss.map (·.2) ∧ (∀ y ∈ ss, 1 ≤ y.1) ∧ L = ptxt n0 x.k (ss.map fun y => (y.1, y.2.k)) 0
  sz : L.length ≤ 3 + 13 * k
  as : As L
theorem ptxt_snoc (n0 : Nat) (k0 : Tk) (ts : List (Nat × Tk)) (s : Nat) (k : Tk) : ptxt n0 k0 (ts ++ [(s, k)]) 0 = ptxt n0 k0 ts 0 ++ (List.replicate s 32 ++ k.txt) := by
  unfold ptxt
  rw [ptx_snoc]
  simp
theorem ptxt_end (n0 : Nat) (k0 : Tk) (ts : List (Nat × Tk)) (e : Nat) : ptxt n0 k0 ts e = ptxt n0 k0 ts 0 ++ List.replicate e 32 := by
  unfold ptxt
  rw [ptx_end]
  simp
theorem TxI.zero {n0 : Nat} (h : n0 ≤ 3) : TxI n0 (List.replicate n0 32) [] 0 := ⟨rfl, (fun _ h => nomatch h), fun _ => rfl, fun h => by omega, by rw [List.length_replicate]; omega, As.rep n0⟩
theorem TxI.first {n0 : Nat} {L : List Nat} {es : List Ent} (h : TxI n0 L es 0) {x : Ent} (hx : x.Ok) : TxI n0 (L ++ x.k.txt) (es ++ [x]) 1 := by
  have e0 : es = [] := List.length_eq_zero_iff.mp h.len
  subst e0
  refine ⟨rfl, fun y hy => by rw [List.nil_append, List.mem_singleton] at hy; rw [hy]; exact hx, fun z => by omega, fun _ => ⟨x, [], rfl, (fun _ h => nomatch h), ?_⟩, ?_, h.as.app (tk_as _ hx.k)⟩
  · rw [h.l0 rfl]
    unfold ptxt
    rw [List.map_nil]
    unfold ptx
    simp
  · have := h.sz
    have := tk_len _ hx.k
    rw [List.length_append]; omega
theorem TxI.more {n0 k s : Nat} {L : List Nat} {es : List Ent} (h : TxI n0 L es k) (hk : 1 ≤ k) (hs : 1 ≤ s) (hs2 : s ≤ 4) {x : Ent} (hx : x.Ok) : TxI n0 (L ++ List.replicate s 32 ++ x.k.txt) (es ++ [x]) (k + 1) := by
  obtain ⟨y, ss, e1, e2, e3⟩ := h.l1 hk
  refine ⟨by rw [List.length_append, List.length_singleton, h.len], fun z hz => ?_, fun z => by omega, fun _ => ⟨y, ss ++ [(s, x)], ?_, ?_, ?_⟩, ?_, (h.as.app (As.rep s)).app (tk_as _ hx.k)⟩
  · rcases List.mem_append.mp hz with z1 | z1
    · exact h.ok z z1
    · rw [List.mem_singleton.mp z1]; exact hx
  · rw [e1, List.map_append]; rfl
  · intro z hz
    rcases List.mem_append.mp hz with z1 | z1
    · exact e2 z z1
    · rw [List.mem_singleton.mp z1]; exact hs
  · rw [List.map_append, List.map_singleton, ptxt_snoc, ← e3, List.append_assoc]
  · have := h.sz
    have := tk_len _ hx.k
    rw [List.length_append, List.length_append, List.length_replicate]; omega
def ntI (x : Ent) : IV := .str (tx (nk x.u x.v).txt)
def dvI (x : Ent) : IV := .tup [.int (x.u : Nat), .int (x.v : Nat)]
structure Lp where
  L : List Nat
  es : List Ent
  p : Nat
  o5 : Option IV
  o8 : Option IV
  o9 : Option IV
  o10 : Option IV
set_option maxHeartbeats 2000000 in
theorem loop0 (ns ds : List Int) (hd : 0 < ds.length) (n0 : Nat) (hn : n0 ≤ 3) (M p : Nat) (hM : M ≤ 8) : ∃ b : Lp, TxI n0 b.L b.es M ∧ forGo [5] (exB ffr (lvl P 14) false lb30_0) (rngI 0 M) ([.val (.scr ns), .val (strm ds), .val (.str (tx (List.replicate n0 32))), .own [], .own [], .no, .no, .no, .no, .no, .no, .no]) (cst p) = .nx ([.val (.scr ns), .val (strm ds), .val (.str (tx b.L)), .own (b.es.map dvI), .own (b.es.map ntI), so b.o5, .no, .no, so b.o8, so b.o9, so b.o10, .no]) (cst b.p) := by
  obtain ⟨b, I, e⟩ := forGo_bc (β := Lp) [5] (exB ffr (lvl P 14) false lb30_0) (fun b => [.val (.scr ns), .val (strm ds), .val (.str (tx b.L)), .own (b.es.map dvI), .own (b.es.map ntI), so b.o5, .no, .no, so b.o8, so b.o9, so b.o10, .no]) (fun b => cst b.p) (fun k b => TxI n0 b.L b.es k) M ⟨List.replicate n0 32, [], p, none, none, none, none⟩ (TxI.zero hn) (fun k b hk I => by
    obtain ⟨L, es, p, o5, o8, o9, o10⟩ := b
    dsimp only at I ⊢
    obtain ⟨kk, t, b, p', k1, k2, k3, k4, k5, wr⟩ := f_written 12 ds hd p
    obtain ⟨u, v, O⟩ := ent kk k1
    have O1 := O.num
    have O2 := O.den
    dsimp only at O1 O2
    have O3 : u ≤ v := O.uv
    have O4 : v < 10000 := O.v2
    have le : ∀ cs, (lvl P 14).fn 26 [.int (t : Nat), .int (b : Nat)] cs = .ok (dvI ⟨kk, u, v⟩) cs := fun cs => by
      rw [f_least 12 (t : Nat) (b : Nat) cs 14 (by omega) (by decide) (by omega), ← k5, O1, O2]
      rfl
    have ls : seqI (dvI ⟨kk, u, v⟩) = some [.int (u : Nat), .int (v : Nat)] := rfl
    have all := cst_all
    have nx : ∀ p, (lvl P 14).fn 24 [strm ds, .int 3] (cst p) = .ok (.int (dg ds p 3)) (cst (p + 1)) := fun p => f_nextS 13 ds hd p 3 (by decide)
    have r3 := dg_rng ds p' (m := 3) (by decide)
    have su : ∀ cs, strI (.int (u : Nat)) cs = .ok (.str (tx (dg10 u))) cs := fun cs => s_dg u (Nat.lt_of_lt_of_le (Nat.lt_of_le_of_lt O3 O4) (by decide)) cs
    have sv : ∀ cs, strI (.int (v : Nat)) cs = .ok (.str (tx (dg10 v))) cs := fun cs => s_dg v (Nat.lt_of_lt_of_le O4 (by decide)) cs
    have lu := (dg_ok (n := u) (by omega)).len
    have lv := (dg_ok (n := v) O4).len
    have ad1 := fun cs => tx_add (lvl P 14) (dg10 u) [47] (by simp; omega) cs
    have ad2 := fun cs => tx_add (lvl P 14) (dg10 u ++ [47]) (dg10 v) (by simp; omega) cs
    have ei : ∀ a b : Int, eqG (lvl P 14) (.int a) (.int b) = some (a == b) := fun a b => wB _ a b
    have pick : ∃ j : Int, bltI .int [.bl (((v : Nat) : Int) == 1)] (cst 0) = .ok (.int j) (cst 0) ∧ (∀ cs, bltI .int [.bl (((v : Nat) : Int) == 1)] cs = .ok (.int j) cs) ∧ atI [IV.str (tx (dg10 u ++ [47] ++ dg10 v)), .str (tx (dg10 u))] j = some (ntI ⟨kk, u, v⟩) := by
      unfold ntI nk
      by_cases c : v = 1
      · have e : (((v : Nat) : Int) == 1) = true := by rw [c]; rfl
        rw [e, if_pos c]
        exact ⟨1, rfl, fun _ => rfl, rfl⟩
      · have e : (((v : Nat) : Int) == 1) = false := by rw [beq_eq_false_iff_ne]; omega
        rw [e, if_neg c]
        exact ⟨0, rfl, fun _ => rfl, rfl⟩
    obtain ⟨j, -, pj, aj⟩ := pick
    have ap1 : es.map dvI ++ [dvI ⟨kk, u, v⟩] = (es ++ [Ent.mk kk u v]).map dvI := by rw [List.map_append]; rfl
    have ap1' : es.map dvI ++ [IV.tup [.int (u : Nat), .int (v : Nat)]] = (es ++ [Ent.mk kk u v]).map dvI := ap1
    have ap2 : es.map ntI ++ [ntI ⟨kk, u, v⟩] = (es ++ [Ent.mk kk u v]).map ntI := by rw [List.map_append]; rfl
    have nt : ∀ f, keepI f (ntI ⟨kk, u, v⟩) = true := fun _ => rfl
    have l8 : es.length < 1000000 := by have := I.len; omega
    have sz := I.sz
    have lk := tk_len _ k1
    by_cases h0 : k = 0
    · subst h0
      have d0 : decide ((0 : Int) < ((0 : Nat) : Int)) = false := rfl
      have ad := fun cs => tx_add (lvl P 14) L kk.txt (by omega) cs
      refine ⟨⟨L ++ kk.txt, es ++ [⟨kk, u, v⟩], p', some (.int ((0 : Nat) : Int)), some (.str (tx kk.txt)), some (.int (u : Nat)), some (.int (v : Nat))⟩, _, I.first O, rfl, ?_⟩
      simp_arith only [lb30_0, so_some, wr, d0, ad, le, ls, bs_int, su, sv, l_sl, ad1, ad2, ei, pj, aj, ap1', ap2, nt, l8, all, List.length_map, noO_so, unoN_so, isOw_so, ite_self]
    · have d0 : decide ((0 : Int) < ((k : Nat) : Int)) = true := decide_eq_true (by omega)
      obtain ⟨m, hm⟩ : ∃ m : Nat, dg ds p' 3 = (m : Int) := ⟨(dg ds p' 3).toNat, by omega⟩
      have c1 : (1 : Int) + (m : Nat) = ((1 + m : Nat) : Int) := by omega
      have mu := fun cs => tx_mul (lvl P 14) 32 (1 + m) (by omega) cs
      have ad := fun cs => tx_add (lvl P 14) L (List.replicate (1 + m) 32) (by rw [List.length_replicate]; omega) cs
      have ad3 := fun cs => tx_add (lvl P 14) (L ++ List.replicate (1 + m) 32) kk.txt (by rw [List.length_append, List.length_replicate]; omega) cs
      refine ⟨⟨L ++ List.replicate (1 + m) 32 ++ kk.txt, es ++ [⟨kk, u, v⟩], p' + 1, some (.int (k : Nat)), some (.str (tx kk.txt)), some (.int (u : Nat)), some (.int (v : Nat))⟩, _, I.more (by omega) (by omega) (by omega) O, rfl, ?_⟩
      simp_arith only [lb30_0, so_some, wr, d0, nx, hm, c1, l_sp, mu, ad, ad3, le, ls, bs_int, su, sv, l_sl, ad1, ad2, ei, pj, aj, ap1', ap2, nt, l8, all, List.length_map, noO_so, unoN_so, isOw_so, ite_self])
  exact ⟨b, I, e⟩
theorem eL_self (f : IV → IV → Option Bool) : ∀ xs : List IV, (∀ x ∈ xs, f x x = some true) → eqL f xs xs = some true
  | [], _ => rfl
  | x :: xs, h => by
    rw [eL_cons _ _ _ _ _ _ _ (h x List.mem_cons_self) (eL_self f xs fun y hy => h y (List.mem_cons_of_mem _ hy))]
    rfl
theorem e_dvs (n : Nat) (es : List Ent) : eqG (lvl P (n + 1)) (.lst (es.map dvI)) (.lst (es.map dvI)) = some true := by
  rw [e_any, eF_lst]
  refine eL_self _ _ fun x hx => ?_
  obtain ⟨e, _, rfl⟩ := List.mem_map.mp hx
  unfold dvI
  rw [eF_tup, eL_cons _ _ _ _ _ _ _ (eF_int _ _ _) (eL_cons _ _ _ _ _ _ _ (eF_int _ _ _) (eL_nil _)), beq_self_eq_true, beq_self_eq_true]
  rfl
theorem e_qvs (n : Nat) (us : List Rat) : eqG (lvl P (n + 1)) (.tup (us.map qv)) (.tup (us.map qv)) = some true := by
  rw [e_any, eF_tup]
  refine eL_self _ _ fun x hx => ?_
  obtain ⟨a, _, rfl⟩ := List.mem_map.mp hx
  rw [eF_qq, decide_eq_true rfl]
theorem ntx_ptxt (x : Ent) (ss : List (Nat × Ent)) : ntx (x :: ss.map (·.2)) = ptxt 0 (nk x.u x.v) (ss.map fun y => (1, nk y.2.u y.2.v)) 0 := by
  unfold ntx ptxt
  rw [List.map_cons]
  show (nk x.u x.v).txt ++ (((ss.map (·.2)).map fun x => (nk x.u x.v).txt).map fun y => [32] ++ y).flatten = [] ++ ((nk x.u x.v).txt ++ ptx (ss.map fun y => (1, nk y.2.u y.2.v)) 0)
  rw [List.nil_append]
  congr 1
  induction ss with
  | nil => rfl
  | cons y ss ih =>
    rw [List.map_cons, List.map_cons, List.map_cons, List.map_cons, List.flatten_cons, ih]
    show [32] ++ (nk y.2.u y.2.v).txt ++ _ = List.replicate 1 32 ++ ((nk y.2.u y.2.v).txt ++ ptx _ 0)
    rw [List.append_assoc]
    rfl
theorem ntx_as {es : List Ent} (h : ∀ x ∈ es, x.Ok) : As (ntx es) := by
  have one : As [32] := fun c hc => by rw [List.mem_singleton.mp hc]; decide
  have key : ∀ (es : List Ent), (∀ x ∈ es, x.Ok) → As (((es.map fun x => (nk x.u x.v).txt).map fun y => [32] ++ y).flatten) := by
    intro es
    induction es with
    | nil => exact fun _ c hc => nomatch hc
    | cons x es ih =>
      intro h
      rw [List.map_cons, List.map_cons, List.flatten_cons]
      have O := h x List.mem_cons_self
      exact (one.app (tk_as _ (nk_ok O.uv O.v1 O.v2))).app (ih fun y hy => h y (List.mem_cons_of_mem _ hy))
  cases es with
  | nil => exact fun c hc => nomatch hc
  | cons x es =>
    have O := h x List.mem_cons_self
    exact (tk_as _ (nk_ok O.uv O.v1 O.v2)).app (key es fun y hy => h y (List.mem_cons_of_mem _ hy))
theorem ntx_len {es : List Ent} (h : ∀ x ∈ es, x.Ok) : (ntx es).length ≤ 10 * es.length := by
  have key : ∀ (es : List Ent), (∀ x ∈ es, x.Ok) → (((es.map fun x => (nk x.u x.v).txt).map fun y => [32] ++ y).flatten).length ≤ 10 * es.length := by
    intro es
    induction es with
    | nil => exact fun _ => Nat.le_refl _
    | cons x es ih =>
      intro h
      rw [List.map_cons, List.map_cons, List.flatten_cons, List.length_append, List.length_append, List.length_singleton, List.length_cons]
      have := nk_len (h x List.mem_cons_self)
      have := ih fun y hy => h y (List.mem_cons_of_mem _ hy)
      omega
  cases es with
  | nil => exact Nat.le_refl _
  | cons x es =>
    show ((nk x.u x.v).txt ++ _).length ≤ _
    rw [List.length_append, List.length_cons]
    have := nk_len (h x List.mem_cons_self)
    have := key es fun y hy => h y (List.mem_cons_of_mem _ hy)
    omega
set_option maxHeartbeats 4000000 in
theorem law_ok (ns : List Int) (h : ns.length ≤ 63) (hb : ∀ z ∈ ns, Builtin.Int.intBits z ≤ 1048576) : ∃ cs, (lvl P 15).fn 30 [.scr ns] [] = .ok (.bl true) cs := by
  obtain ⟨ds, hd, st⟩ := f_streamS 12 ns 12 (by decide) (by decide)
  have nx : ∀ p (m : Int), m ≠ 0 → (lvl P 14).fn 24 [strm ds, .int m] (cst p) = .ok (.int (dg ds p m)) (cst (p + 1)) := fun p m hm => f_nextS 13 ds hd p m hm
  have n3 := fun p => nx p 3 (by decide)
  have n8 := fun p => nx p 8 (by decide)
  have r3 := fun p => dg_rng ds p (m := 3) (by decide)
  have r8 := fun p => dg_rng ds p (m := 8) (by decide)
  have nat : ∀ {z : Int}, 0 ≤ z → ∃ m : Nat, z = (m : Int) := fun {z} h => ⟨z.toNat, by omega⟩
  obtain ⟨n0, h0⟩ := nat (r3 0).1
  have h02 := (r3 0).2
  rw [h0] at h02
  obtain ⟨m, hm⟩ := nat (r8 (0 + 1)).1
  have hm2 := (r8 (0 + 1)).2
  rw [hm] at hm2
  have mu0 := fun cs => tx_mul (lvl P 14) 32 n0 (by omega) cs
  have c1 : (1 : Int) + (m : Nat) = ((1 + m : Nat) : Int) := by omega
  have rM : ∀ cs, rngC (.int ((1 + m : Nat) : Int)) cs = .ok (rngI 0 (1 + m)) cs := fun cs => rng_nat _ cs (by omega)
  obtain ⟨⟨L, es, p, o5, o8, o9, o10⟩, I, eL⟩ := loop0 ns ds hd n0 (by omega) (1 + m) (0 + 1 + 1) (by omega)
  dsimp only at I eL
  obtain ⟨x, ss, e1, e2, e3⟩ := I.l1 (by omega)
  have elen := I.len
  have ok := I.ok
  obtain ⟨e, he⟩ := nat (r3 p).1
  have he2 := (r3 p).2
  rw [he] at he2
  have mue := fun cs => tx_mul (lvl P 14) 32 e (by omega) cs
  have sz := I.sz
  have ade := fun cs => tx_add (lvl P 14) L (List.replicate e 32) (by rw [List.length_replicate]; omega) cs
  have lss : ss.length ≤ 7 := by
    have := congrArg List.length e1
    rw [List.length_cons, List.length_map] at this
    omega
  have all0 := cst_all
  -- the first reading
  have eq1 : L ++ List.replicate e 32 = ptxt n0 x.k (ss.map fun y => (y.1, y.2.k)) e := by rw [ptxt_end, e3]
  have xO := ok x (by rw [e1]; exact List.mem_cons_self)
  have sO : ∀ y ∈ ss, y.2.Ok := fun y hy => ok y.2 (by rw [e1]; exact List.mem_cons_of_mem _ (List.mem_map.mpr ⟨y, hy, rfl⟩))
  have G1 : Good (ss.map fun y => (y.1, y.2.k)) := fun z hz => by
    obtain ⟨y, hy, rfl⟩ := List.mem_map.mp hz
    exact ⟨e2 y hy, (sO y hy).k⟩
  have pa1 := f_parse (xs := cst (p + 1)) 8 (cst_all _) n0 x.k (ss.map fun y => (y.1, y.2.k)) e xO.k G1 (by rw [List.length_map]; exact lss) (by rw [← eq1, List.length_append, List.length_replicate]; omega) (by rw [← eq1]; exact I.as.app (As.rep e))
  have v1 : (x.k.val :: (ss.map fun y => (y.1, y.2.k)).map fun x => x.2.val) = es.map fun x => x.k.val := by rw [e1, List.map_cons, List.map_map, List.map_map]; rfl
  rw [v1, ← eq1] at pa1
  generalize hcs1 : cst (p + 1) ++ [rdC (L ++ List.replicate e 32) (L ++ List.replicate e 32).length] = cs1 at *
  have all1 : cs1.all noLC = true := by rw [← hcs1]; exact r_all (cst_all _) _
  -- the normal text
  have eq2 : ntx es = ptxt 0 (nk x.u x.v) (ss.map fun y => (1, nk y.2.u y.2.v)) 0 := by rw [e1]; exact ntx_ptxt x ss
  have G2 : Good (ss.map fun y => (1, nk y.2.u y.2.v)) := fun z hz => by
    obtain ⟨y, hy, rfl⟩ := List.mem_map.mp hz
    have O := sO y hy
    exact ⟨Nat.le_refl _, nk_ok O.uv O.v1 O.v2⟩
  have nl := ntx_len ok
  have pa2 := f_parse (xs := cs1) 8 all1 0 (nk x.u x.v) (ss.map fun y => (1, nk y.2.u y.2.v)) 0 (nk_ok xO.uv xO.v1 xO.v2) G2 (by rw [List.length_map]; exact lss) (by rw [← eq2]; omega) (by rw [← eq2]; exact ntx_as ok)
  have v2 : ((nk x.u x.v).val :: (ss.map fun y => (1, nk y.2.u y.2.v)).map fun x => x.2.val) = es.map fun x => x.k.val := by
    rw [e1, List.map_cons, List.map_map, List.map_map, xO.nval]
    congr 1
    apply List.map_congr_left
    intro y hy
    exact (sO y hy).nval
  rw [v2, ← eq2] at pa2
  generalize hcs2 : cs1 ++ [rdC (ntx es) (ntx es).length] = cs2 at *
  have mm : ((es.map fun x => x.k.val).map qv) = es.map fun x => qv x.k.val := by rw [List.map_map]; rfl
  rw [mm] at pa1 pa2
  have eqq := e_qvs 13 (es.map fun x => x.k.val)
  rw [mm] at eqq
  have fo := fun cs => f_format 12 es ok (by omega) cs
  have sa := fun cs => f_sameS 12 (tx (ntx es)) cs
  have jn : ∀ cs, joinI (tx [32]) (.lst (es.map ntI)) cs = .ok (.str (tx (ntx es))) cs := fun cs => by
    have := joinI_tx (es.map fun x => (nk x.u x.v).txt) (fun l hl => by obtain ⟨x, hx, rfl⟩ := List.mem_map.mp hl; exact nk_len (ok x hx)) (by rw [List.length_map]; omega) cs
    rw [List.map_map] at this
    exact this
  have ed := e_dvs 13 es
  have l8 : es.length ≤ 1000000 := by omega
  have zl : decide (es.length ≤ 1000000) = true := decide_eq_true l8
  have go0 := fun (vs : List Nat) (s : SE) (hs : s.length = 12) cs => comp_map (turn := cTurn (lvl P 14) (opnM vs s) [11] [11] .no ce30_0) (fun x : Ent => qv x.k.val) dvI cs es [] (fun x hx acc => by
    have O := ok x hx
    have qn : ∀ cs, attrI (qv x.k.val) 0 0 cs = .ok (.int (x.u : Nat)) cs := fun cs => by rw [q_num, O.num]
    have qd : ∀ cs, attrI (qv x.k.val) 0 1 cs = .ok (.int (x.v : Nat)) cs := fun cs => by rw [q_den, O.den]
    simp_arith only [ce30_0, hs, qn, qd, turn_eq, zB]
    rfl)
  have go1 := fun (vs : List Nat) (s : SE) (hs : s.length = 12) cs => comp_map (turn := cTurn (lvl P 14) (opnM vs s) [9, 10] [9, 10] .no ce30_1) dvI (fun x : Ent => qv x.k.val) cs es [] (fun x hx acc => by
    have O := ok x hx
    have mk : ∀ cs, mkI (lvl P 14) 0 [.int (x.u : Nat), .int (x.v : Nat)] cs = .ok (qv x.k.val) cs := fun cs => by rw [f_mkR 12 x.u x.v O.v1 O.v2 cs, O.val]
    unfold dvI
    simp_arith only [ce30_1, hs, mk, turn_eq, zB])
  have sn := newS_strm ds
  have isT : ∀ us : List IV, isiN (lvl P 14).nc (.tup us) .tuple = some true := fun _ => rfl
  have kq : ∀ f, keepI f (.tup (es.map fun x => qv x.k.val)) = true := fun f => by rw [ua, ← mm]; exact noLs_q _
  have hvr : varE ce30_0 = [11, 11] := rfl
  have hvr1 : varE ce30_1 = [9, 10] := rfl
  refine ⟨cs2, ?_⟩
  rw [fn_eq]
  show outF false (exB ffr (lvl P 14) false bd30 (startS 12 [.scr ns]) []) = _
  simp_arith only [bd30, hvr, hvr1, st, sn, n3, n8, h0, hm, l_sp, mu0, c1, rM, eL, he, mue, ade, pa1, isT, go0, go1, zl, ed, jn, fo, sa, pa2, eqq, kq, all0, all1, List.nil_append, List.length_map, noO_so, unoN_so, isOw_so, ite_self]
end EL

-- PlE
section
open EG PySem
theorem EL.eqOk : ∀ (Φ : EG.Fns) (t b : Int) (y : EG.IV) (cs : EG.Cs) (r : Bool), Φ.q = EL.P.b.q → Φ.nc = EL.P.b.nc → EG.eqQ EL.P.b.q [.int t, .int b] y = some r → EG.runF EL.P Φ EL.P.b.eq [.obj EL.P.b.q [.int t, .int b], y] cs = .ok (.bl r) cs := by
  intro Φ t b y cs r hq hn e
  have hq' : Φ.q = 0 := hq
  have hn' : Φ.nc = 2 := hn
  unfold runF
  show outF false (exB EL.ffr Φ false EL.bd2 (startS 2 [.obj 0 [.int t, .int b], y]) cs) = _
  unfold EL.bd2 startS
  have key : ∀ (x z : Int), (if Φ.eqk = true then eqI Φ.q (.int x) (.int z) else some (x == z)) = some (x == z) := by
    intro x z
    split
    · rfl
    · rfl
  cases y with
  | obj c fs =>
    unfold eqQ at e
    split at e
    · rename_i h1 h2
      cases h1; cases h2
      split at e
      · rename_i hc
        have hc' : c = 0 := hc
        subst hc'
        cases e
        simp [exB, exS, evK, varE, varA, opnM, opn1, ev, RR.of, isiN, isiO, isiI, asB, keep, hasO, outF, hn', attrI, cmpI, eqG, key]
        rename_i t2 b2
        by_cases h : t = t2 <;> simp [h]
      · cases e
    · simp [plainI] at e
    · cases e
  | _ =>
    (simp [eqQ, plainI] at e) <;> (subst e; simp [exB, exS, evK, varE, varA, opnM, opn1, ev, RR.of, isiN, isiO, isiI, asB, keep, hasO, outF, hn', attrI, cmpI, eqG])
end

-- H
open PySem PySem.W PyProof.Rows
set_option maxRecDepth 100000 in
set_option maxHeartbeats 0 in
theorem PySem.Challenge.cw_colormatch_k10_texts_of_reflectances_holds : PySem.Challenge.rw_colormatch_k10_texts_of_reflectances.Holds := by
  w_on; o_law; k_head; (case hw => w_witness2)
  k_fill
  refine EG.walk_eg (l := PySem.Challenge.rw_colormatch_k10_texts_of_reflectances) (x := "_law_script") EL.P 30 15 rfl rfl ⟨rfl, by decide, by decide⟩ (fun w h Y => PySem.W.kIn_of Y) ?F (by decide) rfl rfl EL.law_ok
  case F =>
    intro w mg fa h KX G hmg
    refine' EL.kf_mk KX G hmg (EL.pk EL.eqOk) ?aC0 ?aC1 ?a0 ?l0 ?c0 ?k0 ?a1 ?l1 ?c1 ?k1 ?a2 ?i2 ?l2 ?c2 ?k2 ?a3 ?i3 ?l3 ?c3 ?k3 ?a4 ?i4 ?l4 ?c4 ?k4 ?a5 ?i5 ?l5 ?c5 ?k5 ?a6 ?i6 ?l6 ?c6 ?k6 ?a7 ?i7 ?l7 ?c7 ?k7 ?a8 ?i8 ?l8 ?c8 ?k8 ?a9 ?i9 ?l9 ?c9 ?k9 ?a10 ?i10 ?l10 ?c10 ?k10 ?a11 ?i11 ?l11 ?c11 ?k11 ?a12 ?i12 ?l12 ?c12 ?k12 ?a13 ?i13 ?l13 ?c13 ?k13 ?a14 ?i14 ?l14 ?c14 ?k14 ?a15 ?i15 ?l15 ?c15 ?k15 ?a16 ?i16 ?l16 ?c16 ?k16 ?a17 ?i17 ?l17 ?c17 ?k17 ?a18 ?l18 ?c18 ?k18 ?a19 ?l19 ?c19 ?k19 ?a20 ?l20 ?c20 ?k20 ?a21 ?l21 ?c21 ?k21 ?a22 ?l22 ?c22 ?k22 ?a23 ?l23 ?c23 ?k23 ?a24 ?l24 ?c24 ?k24 ?a25 ?l25 ?c25 ?k25 ?a26 ?l26 ?c26 ?k26 ?a27 ?l27 ?c27 ?k27 ?a28 ?l28 ?c28 ?k28 ?a29 ?l29 ?c29 ?k29 ?a30 ?l30 ?c30 ?k30 ?ai0 ?ii0 ?lI0 ?cI0 ?kI0 ?pg0 ?hd0 ?po0 ?sa0 ?mk0 ?kc0 ?n0_0 ?n0_1 ?kt0_int ?kt0_bool ?kt0_str ?kt0_tuple ?kt0_list ?tC0 ?kk0_1 ?ne0_1 ?kb0_NoneType ?kb0_int ?kb0_bool ?kb0_str ?kb0_tuple ?kb0_list ?cA0 ?cM0 ?ai1 ?ii1 ?lI1 ?cI1 ?kI1 ?pg1 ?hd1 ?po1 ?sa1 ?mk1 ?kc1 ?n1_0 ?n1_1 ?kt1_int ?kt1_bool ?kt1_str ?kt1_tuple ?kt1_list ?tC1 ?kk1_0 ?ne1_0 ?kb1_NoneType ?kb1_int ?kb1_bool ?kb1_str ?kb1_tuple ?kb1_list ?cA1 ?cM1 ?cG ?cT ?qm ?qob ?qne ?qn_NoneType ?qn_int ?qn_bool ?qn_str ?qn_tuple ?qn_list ?kt0_NoneType ?q0 ?q1 ?q2 ?z_len ?z_abs ?z_int ?z_str ?z_tuple ?z_list ?z_sum ?z_all ?z_any ?z_min ?z_max ?z_isinstance ?z_range ?z_enumerate ?z_zip ?z_bool ?xa2 ?xq2 ?xk2 ?xs2 ?xt2 ?xa3 ?xq3 ?xk3 ?xs3 ?xt3
    (case aC0 => k_is)
    (case aC1 => k_is)
    (case a0 => k_is)
    (case l0 => k_is)
    (case c0 => k_is)
    (case k0 => k_is)
    (case a1 => k_is)
    (case l1 => k_is)
    (case c1 => k_is)
    (case k1 => k_is)
    (case a2 => k_is)
    (case i2 => k_is)
    (case l2 => k_is)
    (case c2 => k_is)
    (case k2 => k_is)
    (case a3 => k_is)
    (case i3 => k_is)
    (case l3 => k_is)
    (case c3 => k_is)
    (case k3 => k_is)
    (case a4 => k_is)
    (case i4 => k_is)
    (case l4 => k_is)
    (case c4 => k_is)
    (case k4 => k_is)
    (case a5 => k_is)
    (case i5 => k_is)
    (case l5 => k_is)
    (case c5 => k_is)
    (case k5 => k_is)
    (case a6 => k_is)
    (case i6 => k_is)
    (case l6 => k_is)
    (case c6 => k_is)
    (case k6 => k_is)
    (case a7 => k_is)
    (case i7 => k_is)
    (case l7 => k_is)
    (case c7 => k_is)
    (case k7 => k_is)
    (case a8 => k_is)
    (case i8 => k_is)
    (case l8 => k_is)
    (case c8 => k_is)
    (case k8 => k_is)
    (case a9 => k_is)
    (case i9 => k_is)
    (case l9 => k_is)
    (case c9 => k_is)
    (case k9 => k_is)
    (case a10 => k_is)
    (case i10 => k_is)
    (case l10 => k_is)
    (case c10 => k_is)
    (case k10 => k_is)
    (case a11 => k_is)
    (case i11 => k_is)
    (case l11 => k_is)
    (case c11 => k_is)
    (case k11 => k_is)
    (case a12 => k_is)
    (case i12 => k_is)
    (case l12 => k_is)
    (case c12 => k_is)
    (case k12 => k_is)
    (case a13 => k_is)
    (case i13 => k_is)
    (case l13 => k_is)
    (case c13 => k_is)
    (case k13 => k_is)
    (case a14 => k_is)
    (case i14 => k_is)
    (case l14 => k_is)
    (case c14 => k_is)
    (case k14 => k_is)
    (case a15 => k_is)
    (case i15 => k_is)
    (case l15 => k_is)
    (case c15 => k_is)
    (case k15 => k_is)
    (case a16 => k_is)
    (case i16 => k_is)
    (case l16 => k_is)
    (case c16 => k_is)
    (case k16 => k_is)
    (case a17 => k_is)
    (case i17 => k_is)
    (case l17 => k_is)
    (case c17 => k_is)
    (case k17 => k_is)
    (case a18 => k_is)
    (case l18 => k_is)
    (case c18 => k_is)
    (case k18 => k_is)
    (case a19 => k_is)
    (case l19 => k_is)
    (case c19 => k_is)
    (case k19 => k_is)
    (case a20 => k_is)
    (case l20 => k_is)
    (case c20 => k_is)
    (case k20 => k_is)
    (case a21 => k_is)
    (case l21 => k_is)
    (case c21 => k_is)
    (case k21 => k_is)
    (case a22 => k_is)
    (case l22 => k_is)
    (case c22 => k_is)
    (case k22 => k_is)
    (case a23 => k_is)
    (case l23 => k_is)
    (case c23 => k_is)
    (case k23 => k_is)
    (case a24 => k_is)
    (case l24 => k_is)
    (case c24 => k_is)
    (case k24 => k_is)
    (case a25 => k_is)
    (case l25 => k_is)
    (case c25 => k_is)
    (case k25 => k_is)
    (case a26 => k_is)
    (case l26 => k_is)
    (case c26 => k_is)
    (case k26 => k_is)
    (case a27 => k_is)
    (case l27 => k_is)
    (case c27 => k_is)
    (case k27 => k_is)
    (case a28 => k_is)
    (case l28 => k_is)
    (case c28 => k_is)
    (case k28 => k_is)
    (case a29 => k_is)
    (case l29 => k_is)
    (case c29 => k_is)
    (case k29 => k_is)
    (case a30 => k_is)
    (case l30 => k_is)
    (case c30 => k_is)
    (case k30 => k_is)
    (case ai0 => k_is)
    (case ii0 => k_is)
    (case lI0 => k_is)
    (case cI0 => k_is)
    (case kI0 => k_is)
    (case pg0 => k_is)
    (case hd0 => k_is)
    (case po0 => k_is)
    (case sa0 => k_is)
    (case mk0 => k_is)
    (case kc0 => k_is)
    (case n0_0 => k_is)
    (case n0_1 => k_is)
    (case kt0_int => k_is)
    (case kt0_bool => k_is)
    (case kt0_str => k_is)
    (case kt0_tuple => k_is)
    (case kt0_list => k_is)
    (case tC0 => k_is)
    (case kk0_1 => k_is)
    (case ne0_1 => first | rfl | k_is)
    (case kb0_NoneType => k_is)
    (case kb0_int => k_is)
    (case kb0_bool => k_is)
    (case kb0_str => k_is)
    (case kb0_tuple => k_is)
    (case kb0_list => k_is)
    (case cA0 => k_is)
    (case cM0 => k_is)
    (case ai1 => k_is)
    (case ii1 => k_is)
    (case lI1 => k_is)
    (case cI1 => k_is)
    (case kI1 => k_is)
    (case pg1 => k_is)
    (case hd1 => k_is)
    (case po1 => k_is)
    (case sa1 => k_is)
    (case mk1 => k_is)
    (case kc1 => k_is)
    (case n1_0 => k_is)
    (case n1_1 => k_is)
    (case kt1_int => k_is)
    (case kt1_bool => k_is)
    (case kt1_str => k_is)
    (case kt1_tuple => k_is)
    (case kt1_list => k_is)
    (case tC1 => k_is)
    (case kk1_0 => k_is)
    (case ne1_0 => first | rfl | k_is)
    (case kb1_NoneType => k_is)
    (case kb1_int => k_is)
    (case kb1_bool => k_is)
    (case kb1_str => k_is)
    (case kb1_tuple => k_is)
    (case kb1_list => k_is)
    (case cA1 => k_is)
    (case cM1 => k_is)
    (case cG => k_is)
    (case cT => k_is)
    (case qm => k_is)
    (case qob => k_is)
    (case qne => k_is)
    (case qn_NoneType => k_is)
    (case qn_int => k_is)
    (case qn_bool => k_is)
    (case qn_str => k_is)
    (case qn_tuple => k_is)
    (case qn_list => k_is)
    (case kt0_NoneType => k_is)
    (case q0 => k_is)
    (case q1 => k_is)
    (case q2 => k_is)
    (case z_len => k_is)
    (case z_abs => k_is)
    (case z_int => k_is)
    (case z_str => k_is)
    (case z_tuple => k_is)
    (case z_list => k_is)
    (case z_sum => k_is)
    (case z_all => k_is)
    (case z_any => k_is)
    (case z_min => k_is)
    (case z_max => k_is)
    (case z_isinstance => k_is)
    (case z_range => k_is)
    (case z_enumerate => k_is)
    (case z_zip => k_is)
    (case z_bool => k_is)
    (case xa2 => k_is)
    (case xq2 => k_exc)
    (case xk2 => k_is)
    (case xs2 => k_is)
    (case xt2 => k_is)
    (case xa3 => k_is)
    (case xq3 => k_exc)
    (case xk3 => k_is)
    (case xs3 => k_is)
    (case xt3 => k_is)
