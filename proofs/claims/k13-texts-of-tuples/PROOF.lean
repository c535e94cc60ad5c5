import PyProof.Rows.All
import Wide.All
import OpenK.AllK
import Wide.FinOn
import HandS.ForMost
import HandS.ForExc
import HandS.IsInst
import HandS.Wide
import HandS.HeadHook1
import HandS.HeadHook2
import HandS.ExcInit
import HandS.ExcField
import HandS.TupAny
import HandS.Steps
import HandS.RaiseMore
import PyProof.Rows.StrOr
import PyProof.ReprRoads
import HandS.TryOnly
import HandS.Flow
import HandS.Iter
import HandS.Comp
import KE.GoesComp
import KE.GoesRaise
import HandS.ExcOwn
import HandS.Defaults
import HandS.HeadEnd
import HandS.HeadHook4
import KE.KStateDown
import HandS.Head0
import HandS.Head1
import HandS.Head2
import PySem.Challenge.RW_onejudge_k13_texts_of_tuples
section
set_option Elab.async false
set_option linter.all false
set_option maxRecDepth 100000
set_option maxHeartbeats 1000000
/-! MX0: plain values, a small heap, results. -/
namespace MX
open PySem L2

/-- a value: data as data; lists and instances by their number on the small heap -/
inductive MV where
  | non | bl (b : Bool) | int (i : Int) | str (x : List Nat) | tup (xs : List MV) | fro (xs : List MV) | ref (i : Nat) | ty (n : String) | glo (x : Str)

/-- what stands on the small heap -/
inductive MO where
  | lst (xs : List MV) | ins (C : Str) (fs : List (Str × MV))

/-! ### the heap: a tree, numbers by their halves -/
inductive Tr where
  | e | node (o : Option MO) (l r : Tr)
def Tr.o : Tr → Option MO
  | .node o _ _ => o
  | _ => none
def Tr.l : Tr → Tr
  | .node _ l _ => l
  | _ => .e
def Tr.r : Tr → Tr
  | .node _ _ r => r
  | _ => .e
def Tr.get : Nat → Tr → Nat → Option MO
  | 0, _, _ => none
  | d + 1, t, i => if i = 0 then t.o else if i % 2 = 1 then Tr.get d t.l ((i - 1) / 2) else Tr.get d t.r ((i - 1) / 2)
def Tr.set : Nat → Tr → Nat → MO → Tr
  | 0, t, _, _ => t
  | d + 1, t, i, o => if i = 0 then .node (some o) t.l t.r else if i % 2 = 1 then .node t.o (Tr.set d t.l ((i - 1) / 2) o) t.r else .node t.o t.l (Tr.set d t.r ((i - 1) / 2) o)
theorem Tr.get_same (o : MO) : ∀ (d m : Nat) (t : Tr) (i : Nat), i < d → i < m → Tr.get d (Tr.set m t i o) i = some o
  | 0, _, _, _, h, _ => absurd h (Nat.not_lt_zero _)
  | _ + 1, 0, _, _, _, h => absurd h (Nat.not_lt_zero _)
  | d + 1, m + 1, t, i, h1, h2 => by
    unfold Tr.get Tr.set
    by_cases z : i = 0
    · rw [if_pos z, if_pos z]; rfl
    · rw [if_neg z, if_neg z]
      by_cases h : i % 2 = 1
      · rw [if_pos h, if_pos h]; exact Tr.get_same o d m _ _ (by omega) (by omega)
      · rw [if_neg h, if_neg h]; exact Tr.get_same o d m _ _ (by omega) (by omega)
theorem Tr.get_other (o : MO) : ∀ (d m : Nat) (t : Tr) (i j : Nat), j < d → i < m → j ≠ i → Tr.get d (Tr.set m t i o) j = Tr.get d t j
  | 0, _, _, _, _, h, _, _ => absurd h (Nat.not_lt_zero _)
  | _ + 1, 0, _, _, _, _, h, _ => absurd h (Nat.not_lt_zero _)
  | d + 1, m + 1, t, i, j, h1, h2, ne => by
    unfold Tr.get Tr.set
    by_cases zj : j = 0
    · rw [if_pos zj, if_pos zj, if_neg (by omega)]
      by_cases hi : i % 2 = 1
      · rw [if_pos hi]; rfl
      · rw [if_neg hi]; rfl
    · rw [if_neg zj, if_neg zj]
      by_cases zi : i = 0
      · rw [if_pos zi]; rfl
      · rw [if_neg zi]
        by_cases hi : i % 2 = 1 <;> by_cases hj : j % 2 = 1
        · rw [if_pos hi, if_pos hj, if_pos hj]; exact Tr.get_other o d m _ _ _ (by omega) (by omega) (by omega)
        · rw [if_pos hi, if_neg hj, if_neg hj]; rfl
        · rw [if_neg hi, if_pos hj, if_pos hj]; rfl
        · rw [if_neg hi, if_neg hj, if_neg hj]; exact Tr.get_other o d m _ _ _ (by omega) (by omega) (by omega)

structure MH where
  t : Tr
  n : Nat
def MH.get (M : MH) (i : Nat) : Option MO := if i < M.n then Tr.get (i + 1) M.t i else none
def MH.set (M : MH) (i : Nat) (o : MO) : MH := if i < M.n then ⟨Tr.set (i + 1) M.t i o, M.n⟩ else M
def MH.push (M : MH) (o : MO) : MH := ⟨Tr.set (M.n + 1) M.t M.n o, M.n + 1⟩
theorem MH.lt {M : MH} {i : Nat} {o : MO} (h : M.get i = some o) : i < M.n := by
  unfold MH.get at h
  by_cases c : i < M.n
  · exact c
  · rw [if_neg c] at h; cases h
theorem MH.set_n (M : MH) (i : Nat) (o : MO) : (M.set i o).n = M.n := by
  unfold MH.set; split <;> rfl
theorem MH.push_n (M : MH) (o : MO) : (M.push o).n = M.n + 1 := rfl
theorem MH.get_set_same {M : MH} {i : Nat} {o : MO} (h : i < M.n) : (M.set i o).get i = some o := by
  unfold MH.set; rw [if_pos h]
  unfold MH.get; rw [if_pos h]
  exact Tr.get_same o _ _ _ _ (Nat.lt_succ_self _) (Nat.lt_succ_self _)
theorem MH.get_set_other {M : MH} {i j : Nat} {o : MO} (ne : j ≠ i) : (M.set i o).get j = M.get j := by
  unfold MH.set
  by_cases h : i < M.n
  · rw [if_pos h]
    unfold MH.get
    by_cases hj : j < M.n
    · rw [if_pos hj, if_pos hj]
      exact Tr.get_other o _ _ _ _ _ (Nat.lt_succ_self _) (Nat.lt_succ_self _) ne
    · rw [if_neg hj, if_neg hj]
  · rw [if_neg h]
theorem MH.get_push_same {M : MH} (o : MO) : (M.push o).get M.n = some o := by
  unfold MH.push MH.get
  rw [if_pos (Nat.lt_succ_self _)]
  exact Tr.get_same o _ _ _ _ (Nat.lt_succ_self _) (Nat.lt_succ_self _)
theorem MH.get_push_other {M : MH} {j : Nat} {o : MO} (ne : j ≠ M.n) : (M.push o).get j = M.get j := by
  unfold MH.push MH.get
  by_cases hj : j < M.n
  · rw [if_pos hj, if_pos (Nat.lt_succ_of_lt hj)]
    exact Tr.get_other o _ _ _ _ _ (Nat.lt_succ_self _) (Nat.lt_succ_self _) ne
  · rw [if_neg hj, if_neg (show ¬ j < M.n + 1 by omega)]
theorem MH.get_none {M : MH} {j : Nat} (h : M.n ≤ j) : M.get j = none := by
  unfold MH.get; rw [if_neg (by omega)]

/-! ### results -/
inductive Res (α : Type) where
  | ok (a : α) (M : MH) | ex (c : Str) (fs : List (Str × MV)) (M : MH) | stuck
def Res.bind {α β : Type} (r : Res α) (f : α → MH → Res β) : Res β := match r with
  | .ok a M => f a M
  | .ex c fs M => .ex c fs M
  | .stuck => .stuck

/-- a slot: nothing, a value, a caught exception -/
inductive LV where
  | un | va (v : MV) | exc (c : Str) (fs : List (Str × MV))
abbrev Loc := List LV
abbrev ME := Loc → MH → Res MV
abbrev MB := Loc → MH → Res Bool
abbrev MA := Loc → MH → Res (List MV)

/-! ### data read off the heap -/
def allO (f : MV → Option PyData) : List MV → Option (List PyData)
  | [] => some []
  | x :: xs => match f x with
    | none => none
    | some d => (allO f xs).map (d :: ·)
def snap : Nat → MH → MV → Option PyData
  | 0, _, _ => none
  | n + 1, M, v => match v with
    | .non => some .none
    | .bl b => some (.bool b)
    | .int i => some (.int i)
    | .str x => some (.str ⟨x.toArray⟩)
    | .tup xs => (allO (snap n M) xs).map .tuple
    | .fro xs => (allO (snap n M) xs).map .list
    | .ref i => (match M.get i with
      | some (.lst xs) => (allO (snap n M) xs).map .list
      | _ => none)
    | .ty _ => none
    | .glo _ => none
end MX
end
section
set_option Elab.async false
set_option linter.all false
set_option maxRecDepth 100000
set_option maxHeartbeats 1000000
/-! MX1: how the plain values lie in the abstract heap. -/
namespace MX
open PySem PySem.Spec L2

/-- a list that nobody writes: locked, or the module's own -/
def SqF (K : PySem.W.Frag) (H : Hp) (a : Addr) (xs : List V) : Prop := (∃ o, H a = some (.frz o (.lst xs))) ∨
  ∃ (o : Obj) (its : Array Value) (n : Nat), K.lookup a = some o ∧ o.cls = .type "list" ∧ o.dict = none ∧ o.data = .seq its n ∧ its.size ≤ sizeLine ∧ Vals xs its.toList
theorem SqF.l {K : PySem.W.Frag} {H : Hp} {a : Addr} {xs : List V} (h : SqF K H a xs) : SqL K H a xs := by
  rcases h with ⟨o, h⟩ | h
  · exact .inl (.inr ⟨o, h⟩)
  · exact .inr h
mutual
inductive VR (K : PySem.W.Frag) (ρ : Nat → Option Addr) (H : Hp) : MV → V → Prop
  | non : VR K ρ H .non .non
  | bl (b : Bool) : VR K ρ H (.bl b) (.bl b)
  | int (i : Int) : VR K ρ H (.int i) (.int i)
  | str (x : List Nat) : VR K ρ H (.str x) (.str ⟨x.toArray⟩)
  | tup {xs : List MV} {a : Addr} {ys : List V} : SqT K H a ys → VRs K ρ H xs ys → VR K ρ H (.tup xs) (.ref a)
  | fro {xs : List MV} {a : Addr} {ys : List V} : SqF K H a ys → VRs K ρ H xs ys → VR K ρ H (.fro xs) (.ref a)
  | ref {i : Nat} {a : Addr} : ρ i = some a → VR K ρ H (.ref i) (.ref a)
  | ty (n : String) : VR K ρ H (.ty n) (.ty n)
  | glo (x : Str) : VR K ρ H (.glo x) (.ref (He.ga K x))
inductive VRs (K : PySem.W.Frag) (ρ : Nat → Option Addr) (H : Hp) : List MV → List V → Prop
  | nil : VRs K ρ H [] []
  | cons {x : MV} {y : V} {xs : List MV} {ys : List V} : VR K ρ H x y → VRs K ρ H xs ys → VRs K ρ H (x :: xs) (y :: ys)
end
/-- fields, name by name -/
inductive FR (K : PySem.W.Frag) (ρ : Nat → Option Addr) (H : Hp) : List (Str × MV) → List (Str × V) → Prop
  | nil : FR K ρ H [] []
  | cons {f : Str} {x : MV} {y : V} {xs : List (Str × MV)} {ys : List (Str × V)} : VR K ρ H x y → FR K ρ H xs ys → FR K ρ H ((f, x) :: xs) ((f, y) :: ys)
/-- what lies behind is no less -/
structure Ext (ρ : Nat → Option Addr) (H : Hp) (ρ' : Nat → Option Addr) (H' : Hp) : Prop where
  r : ∀ i a, ρ i = some a → ρ' i = some a
  t : ∀ a xs, H a = some (.tup xs) → H' a = some (.tup xs)
  f : ∀ a o u, H a = some (.frz o u) → H' a = some (.frz o u)
  x : ∀ a fs, H a = some (.xd fs) → H' a = some (.xd fs)
section
variable {K : PySem.W.Frag} {ρ ρ' ρ2 : Nat → Option Addr} {H H' H2 : Hp}
theorem Ext.refl : Ext ρ H ρ H := ⟨fun _ _ h => h, fun _ _ h => h, fun _ _ _ h => h, fun _ _ h => h⟩
theorem Ext.trans (a : Ext ρ H ρ' H') (b : Ext ρ' H' ρ2 H2) : Ext ρ H ρ2 H2 :=
  ⟨fun i c h => b.r _ _ (a.r i c h), fun c xs h => b.t _ _ (a.t c xs h), fun c o u h => b.f _ _ _ (a.f c o u h), fun c fs h => b.x _ _ (a.x c fs h)⟩
theorem Ext.sqT (e : Ext ρ H ρ' H') {a : Addr} {xs : List V} (h : SqT K H a xs) : SqT K H' a xs := by
  rcases h with (h | ⟨o, h⟩) | h
  · exact .inl (.inl (e.t _ _ h))
  · exact .inl (.inr ⟨o, e.f _ _ _ h⟩)
  · exact .inr h
theorem Ext.sqF (e : Ext ρ H ρ' H') {a : Addr} {xs : List V} (h : SqF K H a xs) : SqF K H' a xs := by
  rcases h with ⟨o, h⟩ | h
  · exact .inl ⟨o, e.f _ _ _ h⟩
  · exact .inr h
mutual
theorem VR.mono (e : Ext ρ H ρ' H') : ∀ {v : MV} {u : V}, VR K ρ H v u → VR K ρ' H' v u
  | _, _, .non => .non
  | _, _, .bl b => .bl b
  | _, _, .int i => .int i
  | _, _, .str x => .str x
  | _, _, .tup h hs => .tup (e.sqT h) (VRs.mono e hs)
  | _, _, .fro h hs => .fro (e.sqF h) (VRs.mono e hs)
  | _, _, .ref h => .ref (e.r _ _ h)
  | _, _, .ty n => .ty n
  | _, _, .glo x => .glo x
theorem VRs.mono (e : Ext ρ H ρ' H') : ∀ {v : List MV} {u : List V}, VRs K ρ H v u → VRs K ρ' H' v u
  | _, _, .nil => .nil
  | _, _, .cons h hs => .cons (VR.mono e h) (VRs.mono e hs)
end
theorem FR.mono (e : Ext ρ H ρ' H') : ∀ {v : List (Str × MV)} {u : List (Str × V)}, FR K ρ H v u → FR K ρ' H' v u
  | _, _, .nil => .nil
  | _, _, .cons h hs => .cons (h.mono e) (FR.mono e hs)
theorem VRs.length : ∀ {v : List MV} {u : List V}, VRs K ρ H v u → v.length = u.length
  | _, _, .nil => rfl
  | _, _, .cons _ hs => congrArg (· + 1) (VRs.length hs)
theorem VRs.get : ∀ {v : List MV} {u : List V} {i : Nat} {x : MV}, VRs K ρ H v u → v[i]? = some x → ∃ y, u[i]? = some y ∧ VR K ρ H x y
  | _, _, _, _, .nil, h => by simp at h
  | _, _, 0, _, .cons r _, h => by simp at h; subst h; exact ⟨_, rfl, r⟩
  | _, _, i + 1, _, .cons _ rs, h => by
    obtain ⟨y, h1, h2⟩ := VRs.get (i := i) rs (by simpa using h)
    exact ⟨y, by simpa using h1, h2⟩
theorem VRs.getR : ∀ {v : List MV} {u : List V} {i : Nat} {y : V}, VRs K ρ H v u → u[i]? = some y → ∃ x, v[i]? = some x ∧ VR K ρ H x y
  | _, _, _, _, .nil, h => by simp at h
  | _, _, 0, _, .cons r _, h => by simp at h; subst h; exact ⟨_, rfl, r⟩
  | _, _, i + 1, _, .cons _ rs, h => by
    obtain ⟨y, h1, h2⟩ := VRs.getR (i := i) rs (by simpa using h)
    exact ⟨y, by simpa using h1, h2⟩
theorem VRs.append : ∀ {v v' : List MV} {u u' : List V}, VRs K ρ H v u → VRs K ρ H v' u' → VRs K ρ H (v ++ v') (u ++ u')
  | _, _, _, _, .nil, h => h
  | _, _, _, _, .cons r rs, h => .cons r (VRs.append rs h)
theorem VRs.take : ∀ {v : List MV} {u : List V} (n : Nat), VRs K ρ H v u → VRs K ρ H (v.take n) (u.take n)
  | _, _, 0, _ => .nil
  | _, _, _ + 1, .nil => .nil
  | _, _, n + 1, .cons r rs => .cons r (VRs.take n rs)
theorem VRs.drop : ∀ {v : List MV} {u : List V} (n : Nat), VRs K ρ H v u → VRs K ρ H (v.drop n) (u.drop n)
  | _, _, 0, h => h
  | _, _, _ + 1, .nil => .nil
  | _, _, n + 1, .cons _ rs => VRs.drop n rs
theorem VRs.rev {v : List MV} {u : List V} (h : VRs K ρ H v u) : VRs K ρ H v.reverse u.reverse := by
  induction v generalizing u with
  | nil => cases h; exact .nil
  | cons x xs ih =>
    cases h with
    | cons r rs => rw [List.reverse_cons, List.reverse_cons]; exact (ih rs).append (.cons r .nil)
theorem VRs.set {x : MV} {y : V} (r : VR K ρ H x y) : ∀ {v : List MV} {u : List V} (i : Nat), VRs K ρ H v u → VRs K ρ H (v.set i x) (u.set i y)
  | _, _, _, .nil => .nil
  | _, _, 0, .cons _ rs => .cons r rs
  | _, _, i + 1, .cons q rs => .cons q (VRs.set r i rs)
theorem VRs.dropLast {v : List MV} {u : List V} (h : VRs K ρ H v u) : VRs K ρ H v.dropLast u.dropLast := by
  rw [List.dropLast_eq_take, List.dropLast_eq_take, h.length]; exact h.take _
theorem VRs.ints : ∀ ns : List Int, VRs K ρ H (ns.map MV.int) (ns.map V.int)
  | [] => .nil
  | n :: ns => .cons (.int n) (VRs.ints ns)
theorem FR.lookup {f : Str} : ∀ {v : List (Str × MV)} {u : List (Str × V)}, FR K ρ H v u → (∀ x, v.lookup f = some x → ∃ y, u.lookup f = some y ∧ VR K ρ H x y) ∧ (v.lookup f = none → u.lookup f = none)
  | _, _, .nil => ⟨fun x h => by simp at h, fun _ => rfl⟩
  | _, _, .cons (f := g) r rs => by
    obtain ⟨h1, h2⟩ := FR.lookup (f := f) rs
    by_cases e : (f == g) = true
    · constructor
      · intro x h
        rw [List.lookup_cons, e] at h
        cases h
        exact ⟨_, by rw [List.lookup_cons, e], r⟩
      · intro h
        rw [List.lookup_cons, e] at h
        cases h
    · have e' : (f == g) = false := by simpa using e
      constructor
      · intro x h
        rw [List.lookup_cons, e'] at h
        obtain ⟨y, q1, q2⟩ := h1 x h
        exact ⟨y, by rw [List.lookup_cons, e']; exact q1, q2⟩
      · intro h
        rw [List.lookup_cons, e'] at h
        rw [List.lookup_cons, e']
        exact h2 h
theorem FR.length : ∀ {v : List (Str × MV)} {u : List (Str × V)}, FR K ρ H v u → v.length = u.length
  | _, _, .nil => rfl
  | _, _, .cons _ hs => congrArg (· + 1) (FR.length hs)
/-- the field put, as the layer's putF -/
def putM (f : Str) (v : MV) : List (Str × MV) → List (Str × MV)
  | [] => [(f, v)]
  | (g, u) :: r => if g = f then (g, v) :: r else (g, u) :: putM f v r
end
end MX
end
section
set_option Elab.async false
set_option linter.all false
set_option maxRecDepth 100000
set_option maxHeartbeats 1000000
/-! MX2: the heap's picture, what is wanted of a result, expressions' readings. -/
namespace MX
open PySem PySem.Spec L2
variable (K : PySem.W.Frag)
def OR (ρ : Nat → Option Addr) (H : Hp) : MO → Addr → Prop
  | .lst xs, a => ∃ ys, H a = some (.lst ys) ∧ VRs K ρ H xs ys
  | .ins C fs, a => ∃ dx gs, H a = some (.ins (He.ga K C) dx gs) ∧ FR K ρ H fs gs
structure Sim (ρ : Nat → Option Addr) (M : MH) (H : Hp) : Prop where
  obj : ∀ i o, M.get i = some o → ∃ a, ρ i = some a ∧ OR K ρ H o a
  dom : ∀ i a, ρ i = some a → ∃ o, M.get i = some o
  inj : ∀ i j a, ρ i = some a → ρ j = some a → i = j
/-- what an exception carries -/
def XR (ρ : Nat → Option Addr) (H : Hp) (fs : List (Str × MV)) (d : Option Addr) : Prop :=
  (fs = [] ∧ d = none) ∨ ∃ dd gs, d = some dd ∧ H dd = some (.xd gs) ∧ FR K ρ H fs gs
/-- the exception that a suite holds -/
structure XI where
  a : Addr
  cls : Value
  d : Option Addr
def LR (xi : Option XI) (ρ : Nat → Option Addr) (H : Hp) : LV → Option V → Prop
  | .un, _ => True
  | .va v, o => ∃ u, o = some u ∧ VR K ρ H v u
  | .exc c fs, o => ∃ x, xi = some x ∧ o = some (.ref x.a) ∧ x.cls = .ref (He.ga K c) ∧ XR K ρ H fs x.d
structure SR (xi : Option XI) (ρ : Nat → Option Addr) (H : Hp) (τ : Loc) (σ : St) : Prop where
  len : τ.length = σ.length
  at_ : ∀ (i : Nat) (l : LV) (o : Option V), τ[i]? = some l → σ[i]? = some o → LR K xi ρ H l o
variable {K}
section
variable {ρ ρ' ρ2 : Nat → Option Addr} {H H' H2 : Hp} {M M' : MH} {xi : Option XI} {τ : Loc} {σ : St}
theorem OR.ne {o : MO} {a : Addr} (h : OR K ρ H o a) : ∃ u, H a = some u := by
  cases o with
  | lst xs => obtain ⟨ys, h, _⟩ := h; exact ⟨_, h⟩
  | ins C fs => obtain ⟨dx, gs, h, _⟩ := h; exact ⟨_, h⟩
theorem Sim.at_ (S : Sim K ρ M H) {i : Nat} {a : Addr} (h : ρ i = some a) : ∃ o, M.get i = some o ∧ OR K ρ H o a := by
  obtain ⟨o, e⟩ := S.dom i a h
  obtain ⟨b, e2, r⟩ := S.obj i o e
  rw [h] at e2; cases e2
  exact ⟨o, e, r⟩
theorem Sim.ne (S : Sim K ρ M H) {i : Nat} {a : Addr} (h : ρ i = some a) : ∃ u, H a = some u := by
  obtain ⟨o, _, r⟩ := S.at_ h
  exact r.ne
theorem XR.mono (e : Ext ρ H ρ' H') {fs : List (Str × MV)} {d : Option Addr} (h : XR K ρ H fs d) : XR K ρ' H' fs d := by
  rcases h with h | ⟨dd, gs, h1, h2, h3⟩
  · exact .inl h
  · exact .inr ⟨dd, gs, h1, e.x _ _ h2, h3.mono e⟩
theorem LR.mono (e : Ext ρ H ρ' H') {l : LV} {o : Option V} (h : LR K xi ρ H l o) : LR K xi ρ' H' l o := by
  cases l with
  | un => trivial
  | va v => obtain ⟨u, h1, h2⟩ := h; exact ⟨u, h1, h2.mono e⟩
  | exc c fs => obtain ⟨x, h1, h2, h3, h4⟩ := h; exact ⟨x, h1, h2, h3, h4.mono e⟩
theorem SR.mono (e : Ext ρ H ρ' H') (h : SR K xi ρ H τ σ) : SR K xi ρ' H' τ σ := ⟨h.len, fun i l o h1 h2 => (h.at_ i l o h1 h2).mono e⟩
theorem SR.set {l : LV} {o : Option V} (h : SR K xi ρ H τ σ) (i : Nat) (r : LR K xi ρ H l o) : SR K xi ρ H (τ.set i l) (σ.set i o) := by
  refine ⟨by rw [List.length_set, List.length_set]; exact h.len, fun j l' o' h1 h2 => ?_⟩
  by_cases e : i = j
  · subst e
    by_cases hi : i < τ.length
    · rw [List.getElem?_set_self hi] at h1
      rw [List.getElem?_set_self (by rw [← h.len]; exact hi)] at h2
      cases h1; cases h2
      exact r
    · rw [List.getElem?_eq_none (by simpa using hi)] at h1; cases h1
  · rw [List.getElem?_set_ne e] at h1 h2
    exact h.at_ j l' o' h1 h2
theorem SR.var (h : SR K xi ρ H τ σ) {i : Nat} {v : MV} (e : τ[i]? = some (.va v)) : ∃ u, σ[i]? = some (some u) ∧ VR K ρ H v u := by
  have hi : i < τ.length := (List.getElem?_eq_some_iff.mp e).1
  have hs : i < σ.length := by rw [← h.len]; exact hi
  obtain ⟨u, h1, h2⟩ := h.at_ i _ σ[i] e (List.getElem?_eq_getElem hs)
  exact ⟨u, by rw [List.getElem?_eq_getElem hs, h1], h2⟩

/-- a thing is laid beside -/
theorem Sim.beside {p : Addr} {ho : HO} (S : Sim K ρ M H) (hp : H p = none) : Ext ρ H ρ (upd H p ho) ∧ Sim K ρ M (upd H p ho) := by
  have e : Ext ρ H ρ (upd H p ho) := ⟨fun _ _ h => h, fun a xs h => by rw [upd_ne (ne_of_none h hp)]; exact h, fun a o u h => by rw [upd_ne (ne_of_none h hp)]; exact h, fun a fs h => by rw [upd_ne (ne_of_none h hp)]; exact h⟩
  refine ⟨e, fun i o hi => ?_, S.dom, S.inj⟩
  obtain ⟨a, h1, h2⟩ := S.obj i o hi
  refine ⟨a, h1, ?_⟩
  cases o with
  | lst xs => obtain ⟨ys, h, r⟩ := h2; exact ⟨ys, by rw [upd_ne (ne_of_none h hp)]; exact h, r.mono e⟩
  | ins C fs => obtain ⟨dx, gs, h, r⟩ := h2; exact ⟨dx, gs, by rw [upd_ne (ne_of_none h hp)]; exact h, r.mono e⟩
/-- the new number's place -/
def ext (ρ : Nat → Option Addr) (n : Nat) (p : Addr) : Nat → Option Addr := fun i => if i = n then some p else ρ i
theorem Sim.fresh (S : Sim K ρ M H) : ρ M.n = none := by
  cases e : ρ M.n with
  | none => rfl
  | some a =>
    obtain ⟨o, h⟩ := S.dom _ _ e
    exact absurd (MH.lt h) (Nat.lt_irrefl _)
/-- a new numbered thing -/
theorem Sim.new {p : Addr} {ho : HO} {o : MO} (S : Sim K ρ M H) (hp : H p = none) (r : OR K (ext ρ M.n p) (upd H p ho) o p) :
    Ext ρ H (ext ρ M.n p) (upd H p ho) ∧ Sim K (ext ρ M.n p) (M.push o) (upd H p ho) := by
  obtain ⟨e0, S0⟩ := S.beside (ho := ho) hp
  have er : ∀ i a, ρ i = some a → ext ρ M.n p i = some a := fun i a h => by
    unfold ext
    rw [if_neg (fun z => by rw [z, S.fresh] at h; cases h)]
    exact h
  have e1 : Ext ρ (upd H p ho) (ext ρ M.n p) (upd H p ho) := ⟨er, fun _ _ h => h, fun _ _ _ h => h, fun _ _ h => h⟩
  refine ⟨e0.trans e1, fun i oi hi => ?_, fun i a h => ?_, fun i j a h1 h2 => ?_⟩
  · by_cases c : i = M.n
    · subst c
      rw [MH.get_push_same] at hi
      cases hi
      exact ⟨p, if_pos rfl, r⟩
    · rw [MH.get_push_other c] at hi
      obtain ⟨a, h1, h2⟩ := S0.obj i oi hi
      refine ⟨a, er _ _ h1, ?_⟩
      cases oi with
      | lst xs => obtain ⟨ys, h, r⟩ := h2; exact ⟨ys, h, r.mono e1⟩
      | ins C fs => obtain ⟨dx, gs, h, r⟩ := h2; exact ⟨dx, gs, h, r.mono e1⟩
  · by_cases c : i = M.n
    · exact ⟨o, by rw [c]; exact MH.get_push_same o⟩
    · have h' : ρ i = some a := by
        unfold ext at h
        rw [if_neg c] at h
        exact h
      obtain ⟨oi, q⟩ := S.dom i a h'
      exact ⟨oi, by rw [MH.get_push_other c]; exact q⟩
  · have old : ∀ i a, i ≠ M.n → ext ρ M.n p i = some a → ρ i = some a ∧ a ≠ p := fun i a c h => by
      unfold ext at h
      rw [if_neg c] at h
      obtain ⟨u, q⟩ := S.ne h
      exact ⟨h, fun z => by rw [z, hp] at q; cases q⟩
    have new : ∀ a, ext ρ M.n p M.n = some a → a = p := fun a h => by
      unfold ext at h
      rw [if_pos rfl] at h
      exact (Option.some.inj h).symm
    by_cases c : i = M.n <;> by_cases c2 : j = M.n
    · rw [c, c2]
    · rw [c] at h1
      exact absurd (new a h1) (old j a c2 h2).2
    · rw [c2] at h2
      exact absurd (new a h2) (old i a c h1).2
    · exact S.inj i j a (old i a c h1).1 (old j a c2 h2).1
theorem Sim.newL {p : Addr} {xs : List MV} {ys : List V} (S : Sim K ρ M H) (hp : H p = none) (r : VRs K ρ H xs ys) :
    Ext ρ H (ext ρ M.n p) (upd H p (.lst ys)) ∧ Sim K (ext ρ M.n p) (M.push (.lst xs)) (upd H p (.lst ys)) ∧ VR K (ext ρ M.n p) (upd H p (.lst ys)) (.ref M.n) (.ref p) := by
  have e : Ext ρ H (ext ρ M.n p) (upd H p (.lst ys)) := by
    obtain ⟨e0, _⟩ := S.beside (ho := .lst ys) hp
    refine e0.trans ⟨fun i a h => ?_, fun _ _ h => h, fun _ _ _ h => h, fun _ _ h => h⟩
    unfold ext
    rw [if_neg (fun z => by rw [z, S.fresh] at h; cases h)]
    exact h
  obtain ⟨h1, h2⟩ := S.new (o := .lst xs) (ho := .lst ys) hp ⟨ys, upd_same, r.mono e⟩
  exact ⟨h1, h2, .ref (if_pos rfl)⟩
theorem Sim.newT {p : Addr} {xs : List MV} {ys : List V} (S : Sim K ρ M H) (hp : H p = none) (r : VRs K ρ H xs ys) :
    Ext ρ H ρ (upd H p (.tup ys)) ∧ Sim K ρ M (upd H p (.tup ys)) ∧ VR K ρ (upd H p (.tup ys)) (.tup xs) (.ref p) := by
  obtain ⟨h1, h2⟩ := S.beside (ho := .tup ys) hp
  exact ⟨h1, h2, .tup (SqT.of upd_same) (r.mono h1)⟩
/-- a numbered thing is written -/
theorem Sim.write {i : Nat} {a : Addr} {o o' : MO} {h0 ho : HO} (S : Sim K ρ M H) (hi : M.get i = some o) (ha : ρ i = some a) (h : H a = some h0) (hm : (∃ ys, h0 = .lst ys) ∨ ∃ C dx gs, h0 = .ins C dx gs)
    (r : OR K ρ (upd H a ho) o' a) : Ext ρ H ρ (upd H a ho) ∧ Sim K ρ (M.set i o') (upd H a ho) := by
  have nt : ∀ {b : Addr} {u : HO}, H b = some u → (∀ ys, u ≠ .lst ys) → (∀ C dx gs, u ≠ .ins C dx gs) → b ≠ a := fun {b u} q n1 n2 z => by
    rw [z, h] at q
    cases q
    rcases hm with ⟨ys, e⟩ | ⟨C, dx, gs, e⟩
    · exact n1 _ e
    · exact n2 _ _ _ e
  have e : Ext ρ H ρ (upd H a ho) := ⟨fun _ _ q => q, fun b xs q => by rw [upd_ne (nt q (fun _ z => nomatch z) fun _ _ _ z => nomatch z)]; exact q,
    fun b o u q => by rw [upd_ne (nt q (fun _ z => nomatch z) fun _ _ _ z => nomatch z)]; exact q, fun b fs q => by rw [upd_ne (nt q (fun _ z => nomatch z) fun _ _ _ z => nomatch z)]; exact q⟩
  refine ⟨e, fun j oj hj => ?_, fun j b q => ?_, S.inj⟩
  · by_cases c : j = i
    · subst c
      rw [MH.get_set_same (MH.lt hi)] at hj
      cases hj
      exact ⟨a, ha, r⟩
    · rw [MH.get_set_other c] at hj
      obtain ⟨b, q1, q2⟩ := S.obj j oj hj
      have nb : b ≠ a := fun z => c (S.inj j i a (by rw [← z]; exact q1) ha)
      refine ⟨b, q1, ?_⟩
      cases oj with
      | lst xs => obtain ⟨ys, q, r⟩ := q2; exact ⟨ys, by rw [upd_ne nb]; exact q, r.mono e⟩
      | ins C fs => obtain ⟨dx, gs, q, r⟩ := q2; exact ⟨dx, gs, by rw [upd_ne nb]; exact q, r.mono e⟩
  · by_cases c : j = i
    · exact ⟨o', by rw [c]; exact MH.get_set_same (MH.lt hi)⟩
    · obtain ⟨oj, q'⟩ := S.dom j b q
      exact ⟨oj, by rw [MH.get_set_other c]; exact q'⟩
theorem Sim.writeL {i : Nat} {a : Addr} {o : MO} {h0 : HO} {xs : List MV} {ys : List V} (S : Sim K ρ M H) (hi : M.get i = some o) (ha : ρ i = some a) (h : H a = some h0) (hm : (∃ ys, h0 = .lst ys) ∨ ∃ C dx gs, h0 = .ins C dx gs) (r : VRs K ρ H xs ys) :
    Ext ρ H ρ (upd H a (.lst ys)) ∧ Sim K ρ (M.set i (.lst xs)) (upd H a (.lst ys)) := by
  have nt : ∀ {b : Addr} {u : HO}, H b = some u → (∀ ys, u ≠ .lst ys) → (∀ C dx gs, u ≠ .ins C dx gs) → b ≠ a := fun {b u} q n1 n2 z => by
    rw [z, h] at q
    cases q
    rcases hm with ⟨ys, e⟩ | ⟨C, dx, gs, e⟩
    · exact n1 _ e
    · exact n2 _ _ _ e
  have e : Ext ρ H ρ (upd H a (.lst ys)) := ⟨fun _ _ q => q, fun b xs q => by rw [upd_ne (nt q (fun _ z => nomatch z) fun _ _ _ z => nomatch z)]; exact q,
    fun b o u q => by rw [upd_ne (nt q (fun _ z => nomatch z) fun _ _ _ z => nomatch z)]; exact q, fun b fs q => by rw [upd_ne (nt q (fun _ z => nomatch z) fun _ _ _ z => nomatch z)]; exact q⟩
  exact S.write hi ha h hm ⟨ys, upd_same, r.mono e⟩
end

/-! ### what is wanted of a result -/
section
variable {α β γ δ : Type}
def QR (K : PySem.W.Frag) (rel : (Nat → Option Addr) → Hp → α → β → Prop) (W : WX) (σ : St) (ρ : Nat → Option Addr) (H : Hp) (Q : β → Hp → Prop) : Res α → Prop
  | .ok v M => ∀ ρ' H' u, Ext ρ H ρ' H' → Sim K ρ' M H' → rel ρ' H' v u → Q u H'
  | .ex c fs M => ∀ ρ' H' d, Ext ρ H ρ' H' → Sim K ρ' M H' → XR K ρ' H' fs d → W (.ref (He.ga K c)) d σ H'
  | .stuck => False
variable {rel : (Nat → Option Addr) → Hp → α → β → Prop} {rel' : (Nat → Option Addr) → Hp → γ → δ → Prop} {W : WX} {σ : St} {ρ ρ' : Nat → Option Addr} {H H' : Hp} {Q : β → Hp → Prop}
theorem QR.mono (e : Ext ρ H ρ' H') {r : Res α} (h : QR K rel W σ ρ H Q r) : QR K rel W σ ρ' H' Q r := by
  cases r with
  | ok v M => exact fun ρ2 H2 u e2 s r => h ρ2 H2 u (e.trans e2) s r
  | ex c fs M => exact fun ρ2 H2 d e2 s r => h ρ2 H2 d (e.trans e2) s r
  | stuck => exact h
theorem QR.bind {r : Res γ} {f : γ → MH → Res α} {R : δ → Hp → Prop} (h : QR K rel W σ ρ H Q (r.bind f))
    (k : ∀ a M ρ' H' b, Ext ρ H ρ' H' → Sim K ρ' M H' → rel' ρ' H' a b → QR K rel W σ ρ' H' Q (f a M) → R b H') : QR K rel' W σ ρ H R r := by
  cases r with
  | ok v M => exact fun ρ2 H2 u e2 s r => k v M ρ2 H2 u e2 s r (QR.mono e2 h)
  | ex c fs M => exact h
  | stuck => exact h
theorem QR.here {v : α} {u : β} {M : MH} (h : QR K rel W σ ρ H Q (.ok v M)) (s : Sim K ρ M H) (r : rel ρ H v u) : Q u H := h ρ H u Ext.refl s r
end

/-- a reading does what the small one says -/
def SE (K : PySem.W.Frag) (xi : Option XI) (W : WX) (t : TE) (m : ME) : Prop := ∀ ρ M H σ τ Q, Sim K ρ M H → SR K xi ρ H τ σ → QR K (VR K) W σ ρ H Q (m τ M) → t σ H Q
def ST (K : PySem.W.Frag) (xi : Option XI) (W : WX) (t : TT) (m : MB) : Prop := ∀ ρ M H σ τ Q, Sim K ρ M H → SR K xi ρ H τ σ → QR K (fun _ _ (a b : Bool) => a = b) W σ ρ H Q (m τ M) → t σ H Q
def SA (K : PySem.W.Frag) (xi : Option XI) (W : WX) (t : TA) (m : MA) : Prop := ∀ ρ M H σ τ Q, Sim K ρ M H → SR K xi ρ H τ σ → QR K (VRs K) W σ ρ H Q (m τ M) → t σ H Q
/-- an operation by values -/
def S2 (K : PySem.W.Frag) (W : WX) (r : R2) (f : MV → MV → MH → Res MV) : Prop := ∀ ρ M H σ x y u v Q, Sim K ρ M H → VR K ρ H x u → VR K ρ H y v → QR K (VR K) W σ ρ H Q (f x y M) → r u v H Q
def S1 (K : PySem.W.Frag) (W : WX) (r : V → Hp → VK → Prop) (f : MV → MH → Res MV) : Prop := ∀ ρ M H σ x u Q, Sim K ρ M H → VR K ρ H x u → QR K (VR K) W σ ρ H Q (f x M) → r u H Q
def SC (K : PySem.W.Frag) (W : WX) (r : List V → Hp → VK → Prop) (f : List MV → MH → Res MV) : Prop := ∀ ρ M H σ xs us Q, Sim K ρ M H → VRs K ρ H xs us → QR K (VR K) W σ ρ H Q (f xs M) → r us H Q
/-- a built-in's method by values -/
def SM (K : PySem.W.Frag) (W : WX) (r : V → List V → Hp → VK → Prop) (f : MV → List MV → MH → Res MV) : Prop := ∀ ρ M H σ x u xs us Q, Sim K ρ M H → VR K ρ H x u → VRs K ρ H xs us → QR K (VR K) W σ ρ H Q (f x xs M) → r u us H Q

/-! ### the combinators -/
def mVar (i : Nat) : ME := fun τ M => match τ[i]? with
  | some (.va v) => .ok v M
  | _ => .stuck
def mK (v : MV) : ME := fun _ M => .ok v M
def mNever : ME := fun _ _ => .stuck
def m1 (f : MV → MH → Res MV) (a : ME) : ME := fun τ M => (a τ M).bind f
def m2 (f : MV → MV → MH → Res MV) (a b : ME) : ME := fun τ M => (a τ M).bind fun x M => (b τ M).bind fun y M => f x y M
def mNil : MA := fun _ M => .ok [] M
def mCons (a : ME) (r : MA) : MA := fun τ M => (a τ M).bind fun x M => (r τ M).bind fun xs M => .ok (x :: xs) M
def mApp (f : List MV → MH → Res MV) (a : MA) : ME := fun τ M => (a τ M).bind f
def mMeth (f : MV → List MV → MH → Res MV) (o : ME) (a : MA) : ME := fun τ M => (o τ M).bind fun x M => (a τ M).bind fun xs M => f x xs M
def mIf (c : MB) (a b : ME) : ME := fun τ M => (c τ M).bind fun k M => if k = true then a τ M else b τ M
/-- a value as a test -/
def mBool : MV → MH → Res Bool
  | .bl b, M => .ok b M
  | _, _ => .stuck
def mTest (a : ME) : MB := fun τ M => (a τ M).bind mBool
def mAnd (a b : MB) : MB := fun τ M => (a τ M).bind fun k M => if k = true then b τ M else .ok false M
def mOr (a b : MB) : MB := fun τ M => (a τ M).bind fun k M => if k = true then .ok true M else b τ M
def mNot (a : MB) : MB := fun τ M => (a τ M).bind fun k M => .ok (!k) M

section
variable {xi : Option XI} {W : WX} {ta tb te : TE} {ma mb me : ME} {tA : TA} {mA : MA} {tc tu : TT} {mc mu : MB}
theorem se_never {t : TE} : SE K xi W t mNever := fun _ _ _ _ _ _ _ _ h => h.elim
theorem se_var {i : Nat} : SE K xi W (tVar i) (mVar i) := fun ρ M H σ τ Q S R h => by
  unfold mVar at h
  cases e : τ[i]? with
  | none => rw [e] at h; exact h.elim
  | some l =>
    rw [e] at h
    cases l with
    | un => exact h.elim
    | exc c fs => exact h.elim
    | va v =>
      obtain ⟨u, h1, h2⟩ := R.var e
      exact ⟨u, h1, h ρ H u Ext.refl S h2⟩
theorem se_c {v : MV} {u : V} (r : ∀ ρ H, VR K ρ H v u) : SE K xi W (tC u) (mK v) := fun ρ M H σ τ Q S R h => h ρ H u Ext.refl S (r ρ H)
theorem se_1 {r : V → Hp → VK → Prop} {f : MV → MH → Res MV} (hr : S1 K W r f) (ha : SE K xi W ta ma) : SE K xi W (tUn r ta) (m1 f ma) := fun ρ M H σ τ Q S R h =>
  ha ρ M H σ τ _ S R (QR.bind h fun x M1 ρ1 H1 u e1 S1 r1 h1 => hr ρ1 M1 H1 σ x u Q S1 r1 h1)
theorem se_2 {r : R2} {f : MV → MV → MH → Res MV} (hr : S2 K W r f) (ha : SE K xi W ta ma) (hb : SE K xi W tb mb) : SE K xi W (tOp r ta tb) (m2 f ma mb) := fun ρ M H σ τ Q S R h =>
  ha ρ M H σ τ _ S R (QR.bind h fun x M1 ρ1 H1 u e1 S1 r1 h1 => hb ρ1 M1 H1 σ τ _ S1 (R.mono e1) (QR.bind h1 fun y M2 ρ2 H2 v e2 S2 r2 h2 => hr ρ2 M2 H2 σ x y u v Q S2 (r1.mono e2) r2 h2))
theorem sa_nil : SA K xi W tNil mNil := fun ρ M H σ τ Q S R h => h ρ H [] Ext.refl S .nil
theorem sa_cons (ha : SE K xi W ta ma) (hr : SA K xi W tA mA) : SA K xi W (tCons ta tA) (mCons ma mA) := fun ρ M H σ τ Q S R h =>
  ha ρ M H σ τ _ S R (QR.bind h fun x M1 ρ1 H1 u e1 S1 r1 h1 => hr ρ1 M1 H1 σ τ _ S1 (R.mono e1) (QR.bind h1 fun xs M2 ρ2 H2 us e2 S2 r2 h2 => h2.here S2 (.cons (r1.mono e2) r2)))
theorem se_app {r : List V → Hp → VK → Prop} {f : List MV → MH → Res MV} (hr : SC K W r f) (ha : SA K xi W tA mA) : SE K xi W (tCB r tA) (mApp f mA) := fun ρ M H σ τ Q S R h =>
  ha ρ M H σ τ _ S R (QR.bind h fun xs M1 ρ1 H1 us e1 S1 r1 h1 => hr ρ1 M1 H1 σ xs us Q S1 r1 h1)
theorem se_if (hc : ST K xi W tc mc) (ha : SE K xi W ta ma) (hb : SE K xi W tb mb) : SE K xi W (tIf tc ta tb) (mIf mc ma mb) := fun ρ M H σ τ Q S R h =>
  hc ρ M H σ τ _ S R (QR.bind h fun k M1 ρ1 H1 k' e1 S1 r1 h1 => by
    obtain rfl : k = k' := r1
    by_cases c : k = true
    · rw [if_pos c] at h1 ⊢; exact ha ρ1 M1 H1 σ τ Q S1 (R.mono e1) h1
    · rw [if_neg c] at h1 ⊢; exact hb ρ1 M1 H1 σ τ Q S1 (R.mono e1) h1)
theorem st_test (ha : SE K xi W ta ma) : ST K xi W (tTest ta) (mTest ma) := fun ρ M H σ τ Q S R h =>
  ha ρ M H σ τ _ S R (QR.bind h fun x M1 ρ1 H1 u e1 S1 r1 h1 => by
    cases x with
    | bl b => cases r1; exact ⟨b, rfl, h1.here S1 rfl⟩
    | _ => exact h1.elim)
theorem st_B (ha : SE K xi W ta ma) : ST K xi W (tB ta) (mTest ma) := fun ρ M H σ τ Q S R h =>
  ha ρ M H σ τ _ S R (QR.bind h fun x M1 ρ1 H1 u e1 S1 r1 h1 => by
    cases x with
    | bl b => cases r1; exact ⟨b, rfl, h1.here S1 rfl⟩
    | _ => exact h1.elim)
theorem st_and (ha : ST K xi W tc mc) (hb : ST K xi W tu mu) : ST K xi W (tAnd tc tu) (mAnd mc mu) := fun ρ M H σ τ Q S R h =>
  ha ρ M H σ τ _ S R (QR.bind h fun k M1 ρ1 H1 k' e1 S1 r1 h1 => by
    obtain rfl : k = k' := r1
    by_cases c : k = true
    · rw [if_pos c] at h1 ⊢; exact hb ρ1 M1 H1 σ τ Q S1 (R.mono e1) h1
    · rw [if_neg c] at h1 ⊢; exact h1.here S1 rfl)
theorem st_or (ha : ST K xi W tc mc) (hb : ST K xi W tu mu) : ST K xi W (tOr tc tu) (mOr mc mu) := fun ρ M H σ τ Q S R h =>
  ha ρ M H σ τ _ S R (QR.bind h fun k M1 ρ1 H1 k' e1 S1 r1 h1 => by
    obtain rfl : k = k' := r1
    by_cases c : k = true
    · rw [if_pos c] at h1 ⊢; exact h1.here S1 rfl
    · rw [if_neg c] at h1 ⊢; exact hb ρ1 M1 H1 σ τ Q S1 (R.mono e1) h1)
theorem st_not (ha : ST K xi W tc mc) : ST K xi W (tNot tc) (mNot mc) := fun ρ M H σ τ Q S R h =>
  ha ρ M H σ τ _ S R (QR.bind h fun k M1 ρ1 H1 k' e1 S1 r1 h1 => by
    obtain rfl : k = k' := r1
    exact h1.here S1 rfl)
end
end MX
end
section
set_option Elab.async false
set_option linter.all false
set_option maxRecDepth 100000
set_option maxHeartbeats 1000000
/-! MX3: operations by values. -/
namespace MX
open PySem PySem.Spec L2
variable {K : PySem.W.Frag} {W : WX} {X : Cx}

theorem le_line {n : Nat} (h : n ≤ 16777216) : n ≤ sizeLine := by rw [sizeLine_eq]; exact h
theorem lt_line {n : Nat} (h : n < 16777216) : n < sizeLine := by rw [sizeLine_eq]; exact h

/-- a new list -/
def mkLst (xs : List MV) (M : MH) : Res MV := if xs.length ≤ 16777216 then .ok (.ref M.n) (M.push (.lst xs)) else .stuck
def mkTup (xs : List MV) (M : MH) : Res MV := if xs.length ≤ 16777216 then .ok (.tup xs) M else .stuck
section
variable {ρ : Nat → Option Addr} {M : MH} {H : Hp} {σ : L2.St} {Q : VK}
theorem mkLst_ok {xs : List MV} {ys : List V} (S : Sim K ρ M H) (r : VRs K ρ H xs ys) (h : QR K (VR K) W σ ρ H Q (mkLst xs M)) :
    ys.length ≤ sizeLine ∧ ∀ p, H p = none → Q (.ref p) (upd H p (.lst ys)) := by
  unfold mkLst at h
  by_cases c : xs.length ≤ 16777216
  · rw [if_pos c] at h
    refine ⟨by rw [← r.length]; exact le_line c, fun p hp => ?_⟩
    obtain ⟨e, S', r'⟩ := S.newL hp r
    exact h _ _ _ e S' r'
  · rw [if_neg c] at h; exact h.elim
theorem mkTup_ok {xs : List MV} {ys : List V} (S : Sim K ρ M H) (r : VRs K ρ H xs ys) (h : QR K (VR K) W σ ρ H Q (mkTup xs M)) :
    ys.length ≤ sizeLine ∧ ∀ p, H p = none → Q (.ref p) (upd H p (.tup ys)) := by
  unfold mkTup at h
  by_cases c : xs.length ≤ 16777216
  · rw [if_pos c] at h
    refine ⟨by rw [← r.length]; exact le_line c, fun p hp => ?_⟩
    obtain ⟨e, S', r'⟩ := S.newT hp r
    exact h _ _ _ e S' r'
  · rw [if_neg c] at h; exact h.elim
end
/-! ### texts -/
theorem str_len (x : List Nat) : (⟨x.toArray⟩ : Str).length = x.length := by show x.toArray.size = _; simp
theorem str_app (x y : List Nat) : (⟨x.toArray⟩ : Str) ++ ⟨y.toArray⟩ = ⟨(x ++ y).toArray⟩ := by show (⟨x.toArray ++ y.toArray⟩ : Str) = _; simp
theorem str_of (x : Str) : (⟨x.cps.toList.toArray⟩ : Str) = x := by cases x; rfl

/-! ### a + b -/
def rPlus (K : PySem.W.Frag) : R2 := fun x y H Q => rI0 (fun i j => .int (i + j)) x y H Q ∨ (∃ i j, x = .str i ∧ y = .str j ∧ i.length + j.length ≤ sizeLine ∧ Q (.str (i ++ j)) H) ∨ rCat x y H Q ∨ rCatA K x y H Q
theorem op_plus : OpR X (binaryOp .Add) (rPlus X.K) := by
  intro pins s σ H x y v u Q I rx ry h
  rcases h with h | h | h | h
  · exact op_add pins s σ H x y v u Q I rx ry h
  · exact op_add_str pins s σ H x y v u Q I rx ry h
  · exact op_cat pins s σ H x y v u Q I rx ry h
  · exact op_catA pins s σ H x y v u Q I rx ry h
def fPlus : MV → MV → MH → Res MV
  | .int i, .int j, M => .ok (.int (i + j)) M
  | .str x, .str y, M => if x.length + y.length ≤ 16777216 then .ok (.str (x ++ y)) M else .stuck
  | .ref i, .ref j, M => match M.get i, M.get j with
    | some (.lst xs), some (.lst ys) => mkLst (xs ++ ys) M
    | _, _ => .stuck
  | .tup xs, .tup ys, M => mkTup (xs ++ ys) M
  | _, _, _ => .stuck
theorem s_plus : S2 K W (rPlus K) fPlus := by
  intro ρ M H σ x y u v Q S rx ry h
  unfold fPlus at h
  split at h
  · cases rx; cases ry
    exact .inl ⟨_, _, rfl, rfl, h.here S (.int _)⟩
  · rename_i a b
    cases rx; cases ry
    split at h
    · rename_i c
      refine .inr (.inl ⟨_, _, rfl, rfl, by rw [str_len, str_len]; exact le_line c, ?_⟩)
      rw [str_app]
      exact h.here S (.str _)
    · exact h.elim
  · rename_i i j
    split at h
    · rename_i xs ys e1 e2
      cases rx with
      | ref q1 =>
        cases ry with
        | ref q2 =>
          obtain ⟨o1, g1, r1⟩ := S.at_ q1
          obtain ⟨o2, g2, r2⟩ := S.at_ q2
          rw [e1] at g1; rw [e2] at g2
          cases g1; cases g2
          obtain ⟨zs, h1, k1⟩ := r1
          obtain ⟨ws, h2, k2⟩ := r2
          obtain ⟨hl, hq⟩ := mkLst_ok S (k1.append k2) h
          rw [List.length_append] at hl
          exact .inr (.inr (.inl ⟨_, _, zs, ws, rfl, rfl, h1, h2, hl, hq⟩))
    · exact h.elim
  · rename_i xs ys
    cases rx with
    | tup h1 k1 =>
      cases ry with
      | tup h2 k2 =>
        rename_i a zs b ws
        obtain ⟨hl, hq⟩ := mkTup_ok S (k1.append k2) h
        rw [List.length_append] at hl
        refine .inr (.inr (.inr ⟨_, _, zs, ws, rfl, rfl, h1, h2, hl, fun e => ?_, fun e1 e => ?_, fun _ _ => hq⟩))
        · subst e
          cases k1
          unfold mkTup at h
          split at h
          · exact h.here S (.tup h2 k2)
          · exact h.elim
        · subst e
          cases k2
          unfold mkTup at h
          rw [List.append_nil] at h
          split at h
          · exact h.here S (.tup h1 k1)
          · exact h.elim
  · exact h.elim

/-! ### other arithmetic -/
def rMinus : R2 := rI0 fun i j => .int (i - j)
theorem op_minus : OpR X (binaryOp .Sub) rMinus := op_sub
def fMinus : MV → MV → MH → Res MV
  | .int i, .int j, M => .ok (.int (i - j)) M
  | _, _, _ => .stuck
theorem s_minus : S2 K W rMinus fMinus := by
  intro ρ M H σ x y u v Q S rx ry h
  unfold fMinus at h
  split at h
  · cases rx; cases ry
    exact ⟨_, _, rfl, rfl, h.here S (.int _)⟩
  · exact h.elim
/-- the product may be reckoned: one factor is small, or both are no giants -/
def mulOk (i j : Int) : Bool := (decide (-18446744073709551616 < i) && decide (i < 18446744073709551616)) || ((decide (-18446744073709551616 < j) && decide (j < 18446744073709551616)) || decide (i.natAbs.log2 + j.natAbs.log2 < 1000000))
theorem mulOk_ok {i j : Int} (h : mulOk i j = true) : IntMulOk i j := by
  unfold mulOk at h
  simp only [Bool.or_eq_true, Bool.and_eq_true, decide_eq_true_eq] at h
  rcases h with h | h | h
  · exact CMul.ok (.inl ⟨by omega, by omega⟩)
  · exact CMul.ok (.inr ⟨by omega, by omega⟩)
  · exact CMulW.ok h
def rTimes : R2 := fun x y H Q => rI (fun i j => mulOk i j = true) (fun i j => .int (i * j)) x y H Q ∨ (∃ z k, x = .str z ∧ y = .int k ∧ 0 ≤ k ∧ k < 16777217 ∧ z.length * k.toNat ≤ 16777216 ∧ Q (.str ⟨(List.replicate k.toNat z.cps.toList).flatten.toArray⟩) H) ∨ rRep x y H Q
theorem fold_rep (z : Array Nat) : ∀ (n : Nat) (acc : Array Nat), (List.replicate n z).foldl (· ++ ·) acc = (acc.toList ++ (List.replicate n z.toList).flatten).toArray
  | 0, acc => by simp
  | n + 1, acc => by
    rw [List.replicate_succ, List.foldl_cons, fold_rep z n (acc ++ z), List.replicate_succ, List.flatten_cons, Array.toList_append, List.append_assoc]
theorem op_times : OpR X (binaryOp .Mult) rTimes := by
  intro pins s σ H x y v u Q I rx ry h
  rcases h with h | ⟨z, k, rfl, rfl, h0, h1, hl, q⟩ | h
  · obtain ⟨i, j, rfl, rfl, hc, q⟩ := h
    obtain ⟨t, rfl⟩ := rx
    obtain ⟨t', rfl⟩ := ry
    exact PyProof.Rows.mul_int ⟨.int _, H, I.tok _, ⟨_, rfl⟩, q⟩ (mulOk_ok hc)
  · obtain ⟨t, rfl⟩ := rx
    obtain ⟨t', rfl⟩ := ry
    refine PySem.P.mul_str ?_ (fun n1 _ => ?_) (fun n1 _ => ?_) ?_
    · rw [decide_eq_false (by omega), decide_eq_false (by omega)]; rfl
    · intro z1
      have e1 : k * z.length ≤ 16777216 := by
        have q1 : ((z.length * k.toNat : Nat) : Int) ≤ ((16777216 : Nat) : Int) := Int.ofNat_le.mpr hl
        rw [Int.natCast_mul, Int.toNat_of_nonneg h0, Int.mul_comm] at q1
        exact q1
      have e2 : (2 ^ 63 - 1) / k < z.length := z1
      have e3 := Int.lt_mul_of_ediv_lt (a := 2 ^ 63 - 1) (b := z.length) (c := k) (by omega) e2
      rw [Int.mul_comm] at e3
      omega
    · unfold PySem.Builtin.Str.tooLong
      rw [sizeLine_eq]
      exact decide_eq_false (by omega)
    · by_cases c1 : k < 1
      · rw [if_pos c1]
        have : k = 0 := by omega
        subst this
        refine ⟨by decide, .str _, H, I.tok _, ⟨_, rfl⟩, ?_⟩
        simpa [Str.empty] using q
      · rw [if_neg c1]
        by_cases c2 : (k == 1 || z.length == 0) = true
        · rw [if_pos c2]
          refine ⟨.str _, H, I, ⟨_, rfl⟩, ?_⟩
          rw [Bool.or_eq_true, beq_iff_eq, beq_iff_eq] at c2
          have e : (⟨(List.replicate k.toNat z.cps.toList).flatten.toArray⟩ : Str) = z := by
            rcases c2 with c2 | c2
            · subst c2
              show (⟨((z.cps.toList ++ [])).toArray⟩ : Str) = z
              simp
            · have ez : z.cps.toList = [] := List.eq_nil_of_length_eq_zero (by rw [Array.length_toList]; exact c2)
              have : (List.replicate k.toNat z.cps.toList).flatten = [] := by simp [ez]
              rw [this]
              have := str_of z
              rw [ez] at this
              exact this
          rw [← e]
          exact q
        · rw [if_neg c2]
          have e : (List.replicate k.toNat z.cps).foldl (· ++ ·) #[] = (List.replicate k.toNat z.cps.toList).flatten.toArray := by
            rw [fold_rep]; simp
          rw [e]
          refine ⟨?_, .str _, H, I.tok _, ⟨_, rfl⟩, q⟩
          show ((List.replicate k.toNat z.cps.toList).flatten.toArray).size ≤ sizeLine
          rw [List.size_toArray, List.length_flatten, List.map_replicate, List.sum_replicate_nat, Array.length_toList]
          refine le_line ?_
          rw [Nat.mul_comm]
          exact hl
  · exact op_rep pins s σ H x y v u Q I rx ry h
def fTimes : MV → MV → MH → Res MV
  | .int i, .int j, M => if mulOk i j = true then .ok (.int (i * j)) M else .stuck
  | .str x, .int k, M => if 0 ≤ k ∧ k < 16777217 ∧ x.length * k.toNat ≤ 16777216 then .ok (.str (List.replicate k.toNat x).flatten) M else .stuck
  | .ref i, .int k, M => if 0 ≤ k ∧ k < 16777217 then match M.get i with
    | some (.lst xs) => mkLst (List.replicate k.toNat xs).flatten M
    | _ => .stuck else .stuck
  | _, _, _ => .stuck
theorem VRs.rep {ρ : Nat → Option Addr} {H : Hp} {xs : List MV} {ys : List V} (r : VRs K ρ H xs ys) : ∀ n : Nat, VRs K ρ H (List.replicate n xs).flatten (List.replicate n ys).flatten
  | 0 => .nil
  | n + 1 => by rw [List.replicate_succ, List.replicate_succ, List.flatten_cons, List.flatten_cons]; exact r.append (VRs.rep r n)
end MX
end
section
set_option Elab.async false
set_option linter.all false
set_option maxRecDepth 100000
set_option maxHeartbeats 1000000
/-! MX4: further operations by values. -/
namespace MX
open PySem PySem.Spec L2
variable {K : PySem.W.Frag} {W : WX} {X : Cx}
theorem s_times : S2 K W rTimes fTimes := by
  intro ρ M H σ x y u v Q S rx ry h
  unfold fTimes at h
  split at h
  · cases rx; cases ry
    split at h
    · rename_i c
      exact .inl ⟨_, _, rfl, rfl, c, h.here S (.int _)⟩
    · exact h.elim
  · cases rx; cases ry
    split at h
    · rename_i c
      refine .inr (.inl ⟨_, _, rfl, rfl, c.1, c.2.1, by rw [str_len]; exact c.2.2, ?_⟩)
      have := h.here S (.str _)
      simpa using this
    · exact h.elim
  · rename_i i k
    split at h
    · rename_i c
      split at h
      · rename_i xs e
        cases ry
        cases rx with
        | ref q =>
          obtain ⟨o, g, r⟩ := S.at_ q
          rw [e] at g
          cases g
          obtain ⟨ys, h1, k1⟩ := r
          obtain ⟨hl, hq⟩ := mkLst_ok S (k1.rep k.toNat) h
          refine .inr (.inr ⟨_, k, ys, rfl, rfl, h1, by omega, by omega, ?_, hq⟩)
          rw [List.length_flatten, List.map_replicate, List.sum_replicate_nat] at hl
          rw [Nat.mul_comm]
          exact hl
      · exact h.elim
    · exact h.elim
  · exact h.elim
/-- ints to a value, under a test -/
def fInt (c : Int → Int → Bool) (g : Int → Int → MV) : MV → MV → MH → Res MV
  | .int i, .int j, M => if c i j = true then .ok (g i j) M else .stuck
  | _, _, _ => .stuck
theorem s_int {c : Int → Int → Bool} {g : Int → Int → MV} {C : Int → Int → Prop} {g' : Int → Int → V} (hc : ∀ i j, c i j = true → C i j) (hg : ∀ i j ρ H, VR K ρ H (g i j) (g' i j)) : S2 K W (rI C g') (fInt c g) := by
  intro ρ M H σ x y u v Q S rx ry h
  unfold fInt at h
  split at h
  · cases rx; cases ry
    split at h
    · rename_i e
      exact ⟨_, _, rfl, rfl, hc _ _ e, h.here S (hg _ _ _ _)⟩
    · exact h.elim
  · exact h.elim
theorem s_int0 {g : Int → Int → MV} {g' : Int → Int → V} (hg : ∀ i j ρ H, VR K ρ H (g i j) (g' i j)) : S2 K W (rI0 g') (fInt (fun _ _ => true) g) := by
  intro ρ M H σ x y u v Q S rx ry h
  unfold fInt at h
  split at h
  · cases rx; cases ry
    exact ⟨_, _, rfl, rfl, h.here S (hg _ _ _ _)⟩
  · exact h.elim
def fMod := fInt (fun _ j => j != 0) (fun i j => .int (i.fmod j))
theorem s_mod : S2 K W (rI (fun _ j => j ≠ 0) fun i j => .int (i.fmod j)) fMod := s_int (fun i j h => by simpa using h) fun _ _ _ _ => .int _
def fFdiv := fInt (fun _ j => j != 0 && decide (j.natAbs < 1073741824)) (fun i j => .int (i.fdiv j))
theorem s_fdiv : S2 K W (rI CDivN fun i j => .int (i.fdiv j)) fFdiv := s_int (fun i j h => by
  rw [Bool.and_eq_true, bne_iff_ne, decide_eq_true_eq] at h
  exact h) fun _ _ _ _ => .int _
def fPow := fInt (fun i j => decide (0 ≤ j) && (decide (j ≤ 1000000) && decide (i.natAbs < 18446744073709551616))) (fun i j => .int (i ^ j.toNat))
theorem s_pow : S2 K W (rI CPow fun i j => .int (i ^ j.toNat)) fPow := s_int (fun i j h => by
  simp only [Bool.and_eq_true, decide_eq_true_eq] at h
  exact ⟨h.1, h.2.1, h.2.2⟩) fun _ _ _ _ => .int _
def fShr := fInt (fun _ j => decide (0 ≤ j)) (fun i j => .int (i / 2 ^ j.toNat))
theorem s_shr : S2 K W (rI (fun _ j => 0 ≤ j) fun i j => .int (i / 2 ^ j.toNat)) fShr := s_int (fun i j h => of_decide_eq_true h) fun _ _ _ _ => .int _
def fLt := fInt (fun _ _ => true) fun i j => .bl (decide (i < j))
def fLe := fInt (fun _ _ => true) fun i j => .bl (decide (i ≤ j))
def fGt := fInt (fun _ _ => true) fun i j => .bl (decide (j < i))
def fGe := fInt (fun _ _ => true) fun i j => .bl (decide (j ≤ i))
theorem s_lt : S2 K W (rI0 fun i j => .bl (decide (i < j))) fLt := s_int0 fun _ _ _ _ => .bl _
theorem s_le : S2 K W (rI0 fun i j => .bl (decide (i ≤ j))) fLe := s_int0 fun _ _ _ _ => .bl _
theorem s_gt : S2 K W (rI0 fun i j => .bl (decide (j < i))) fGt := s_int0 fun _ _ _ _ => .bl _
theorem s_ge : S2 K W (rI0 fun i j => .bl (decide (j ≤ i))) fGe := s_int0 fun _ _ _ _ => .bl _
def fNeg : MV → MH → Res MV
  | .int i, M => .ok (.int (-i)) M
  | _, _ => .stuck
theorem s_neg : S1 K W (rU fun i => .int (-i)) fNeg := by
  intro ρ M H σ x u Q S rx h
  unfold fNeg at h
  split at h
  · cases rx
    exact ⟨_, rfl, h.here S (.int _)⟩
  · exact h.elim
/-- not, of a truth value -/
def rNotV : V → Hp → VK → Prop := fun x H Q => ∃ c, x = .bl c ∧ Q (.bl (!c)) H
def fNotV : MV → MH → Res MV
  | .bl b, M => .ok (.bl (!b)) M
  | _, _ => .stuck
theorem se_notV {xi : Option XI} {ta : TE} {ma : ME} (ha : SE K xi W ta ma) : SE K xi W (tNotV ta) (m1 fNotV ma) := fun ρ M H σ τ Q S R h =>
  ha ρ M H σ τ _ S R (QR.bind h fun x M1 ρ1 H1 u e1 S1 r1 h1 => by
    unfold fNotV at h1
    split at h1
    · cases r1
      exact ⟨_, rfl, h1.here S1 (.bl _)⟩
    · exact h1.elim)
/-! ### is None -/
def isN : MV → Bool
  | .non => true
  | _ => false
theorem isN_eq {ρ : Nat → Option Addr} {H : Hp} {v : MV} {u : V} (r : VR K ρ H v u) : decide (u = .non) = isN v := by
  cases r <;> first | rfl | exact decide_eq_false (fun z => nomatch z)
def mIsN (a : ME) : ME := fun τ M => (a τ M).bind fun x M => .ok (.bl (isN x)) M
def mNotN (a : ME) : ME := fun τ M => (a τ M).bind fun x M => .ok (.bl (!isN x)) M
theorem se_isN {xi : Option XI} {ta : TE} {ma : ME} (ha : SE K xi W ta ma) : SE K xi W (tIsN ta) (mIsN ma) := fun ρ M H σ τ Q S R h =>
  ha ρ M H σ τ _ S R (QR.bind h fun x M1 ρ1 H1 u e1 S1 r1 h1 => by rw [isN_eq r1]; exact h1.here S1 (.bl _))
theorem se_notN {xi : Option XI} {ta : TE} {ma : ME} (ha : SE K xi W ta ma) : SE K xi W (tNotN ta) (mNotN ma) := fun ρ M H σ τ Q S R h =>
  ha ρ M H σ τ _ S R (QR.bind h fun x M1 ρ1 H1 u e1 S1 r1 h1 => by rw [isN_eq r1]; exact h1.here S1 (.bl _))

/-! ### == and !=, by the data -/
section
variable {ρ : Nat → Option Addr} {M : MH} {H : Hp}
theorem allO_dp {f : MV → Option PyData} (hf : ∀ v u d, f v = some d → VR K ρ H v u → Dp K H u d) : ∀ (v : List MV) (u : List V) (d : List PyData), allO f v = some d → VRs K ρ H v u → DpAll K H u d
  | [], _, _, h, r => by unfold allO at h; cases h; cases r; exact .nil
  | x :: xs, _, _, h, r => by
    unfold allO at h
    cases r with
    | cons r1 rs =>
      cases e : f x with
      | none => rw [e] at h; cases h
      | some d =>
        rw [e] at h
        obtain ⟨ds, h1, rfl⟩ := Option.map_eq_some_iff.mp h
        exact .cons (hf x _ d e r1) (allO_dp hf xs _ ds h1 rs)
theorem snap_dp (S : Sim K ρ M H) : ∀ (n : Nat) (v : MV) (u : V) (d : PyData), snap n M v = some d → VR K ρ H v u → Dp K H u d
  | 0, _, _, _, h, _ => by cases h
  | n + 1, v, u, d, h, r => by
    unfold snap at h
    split at h
    · cases h; cases r; exact .non
    · cases h; cases r; exact .bl _
    · cases h; cases r; exact .int _
    · cases h; cases r; exact .str _
    · obtain ⟨ds, h1, rfl⟩ := Option.map_eq_some_iff.mp h
      cases r with
      | tup q rs => exact .tup q (allO_dp (snap_dp S n) _ _ ds h1 rs)
    · obtain ⟨ds, h1, rfl⟩ := Option.map_eq_some_iff.mp h
      cases r with
      | fro q rs => exact .lst q.l (allO_dp (snap_dp S n) _ _ ds h1 rs)
    · split at h
      · rename_i xs e
        obtain ⟨ds, h1, rfl⟩ := Option.map_eq_some_iff.mp h
        cases r with
        | ref q =>
          obtain ⟨o, g, ro⟩ := S.at_ q
          rw [e] at g
          cases g
          obtain ⟨ys, h2, rs⟩ := ro
          exact .lst (SqL.of h2) (allO_dp (snap_dp S n) _ _ ds h1 rs)
      · cases h
    · cases h
    · cases h
end
def fEqB (M : MH) (x y : MV) : Option Bool := match snap 200 M x, snap 200 M y with
  | some d, some e => if (SeqAt.shaped d && SeqAt.shaped e) = true then some (PyData.eqv d e) else none
  | _, _ => none
def fEqV (M : MH) (x y : MV) : Option Bool := match x, y with
  | .str a, .str b => some (decide (a = b))
  | .int i, .int j => some (decide (i = j))
  | _, _ => fEqB M x y
def fEq (x y : MV) (M : MH) : Res MV := match fEqV M x y with
  | some b => .ok (.bl b) M
  | none => .stuck
def fNe (x y : MV) (M : MH) : Res MV := match fEqV M x y with
  | some b => .ok (.bl (!b)) M
  | none => .stuck
theorem fEqB_ok {ρ : Nat → Option Addr} {M : MH} {H : Hp} {x y : MV} {u v : V} {b : Bool} (S : Sim K ρ M H) (h : fEqB M x y = some b) (rx : VR K ρ H x u) (ry : VR K ρ H y v) :
    ∃ d e, Dp K H u d ∧ Dp K H v e ∧ SeqAt.shaped d = true ∧ SeqAt.shaped e = true ∧ PyData.eqv d e = b := by
  unfold fEqB at h
  split at h
  · rename_i d e h1 h2
    split at h
    · rename_i c
      rw [Bool.and_eq_true] at c
      exact ⟨d, e, snap_dp S _ _ _ _ h1 rx, snap_dp S _ _ _ _ h2 ry, c.1, c.2, Option.some.inj h⟩
    · cases h
  · cases h
def rEqU (K : PySem.W.Frag) : R2 := fun x y H Q => rEq x y H Q ∨ rEqD K x y H Q
def rNeU (K : PySem.W.Frag) : R2 := fun x y H Q => rNe x y H Q ∨ rNeD K x y H Q
theorem op_eqU (hu : X.A.units + 64 < cLine) : OpR X (compareOp .Eq) (rEqU X.K) := by
  intro pins s σ H x y v u Q I rx ry h
  rcases h with h | h
  · exact op_eq pins s σ H x y v u Q I rx ry h
  · exact op_eqD hu pins s σ H x y v u Q I rx ry h
theorem op_neU (hu : X.A.units + 64 < cLine) : OpR X (compareOp .NotEq) (rNeU X.K) := by
  intro pins s σ H x y v u Q I rx ry h
  rcases h with h | h
  · exact op_ne pins s σ H x y v u Q I rx ry h
  · exact op_neD hu pins s σ H x y v u Q I rx ry h
theorem str_inj {a b : List Nat} : ((⟨a.toArray⟩ : Str) = ⟨b.toArray⟩) ↔ a = b := by
  constructor
  · intro e
    have := congrArg (fun z : Str => z.cps.toList) e
    simpa using this
  · intro e; rw [e]
theorem eqV_ok {ρ : Nat → Option Addr} {M : MH} {H : Hp} {x y : MV} {u v : V} {b : Bool} (S : Sim K ρ M H) (h : fEqV M x y = some b) (rx : VR K ρ H x u) (ry : VR K ρ H y v) :
    (scal u v = true ∧ decide (u = v) = b) ∨ ∃ d e, Dp K H u d ∧ Dp K H v e ∧ SeqAt.shaped d = true ∧ SeqAt.shaped e = true ∧ PyData.eqv d e = b := by
  unfold fEqV at h
  split at h
  · cases rx; cases ry
    refine .inl ⟨rfl, ?_⟩
    rw [← Option.some.inj h]
    exact decide_eq_decide.mpr ⟨fun e => str_inj.mp (V.str.inj e), fun e => by rw [e]⟩
  · cases rx; cases ry
    refine .inl ⟨rfl, ?_⟩
    rw [← Option.some.inj h]
    exact decide_eq_decide.mpr ⟨fun e => V.int.inj e, fun e => by rw [e]⟩
  · exact .inr (fEqB_ok S h rx ry)
theorem s_eq : S2 K W (rEqU K) fEq := by
  intro ρ M H σ x y u v Q S rx ry h
  unfold fEq at h
  split at h
  · rename_i b e
    rcases eqV_ok S e rx ry with ⟨h1, h2⟩ | ⟨d, e', h1, h2, h3, h4, h5⟩
    · exact .inl ⟨h1, by rw [h2]; exact h.here S (.bl _)⟩
    · exact .inr ⟨d, e', h1, h2, h3, h4, by rw [h5]; exact h.here S (.bl _)⟩
  · exact h.elim
theorem s_ne : S2 K W (rNeU K) fNe := by
  intro ρ M H σ x y u v Q S rx ry h
  unfold fNe at h
  split at h
  · rename_i b e
    rcases eqV_ok S e rx ry with ⟨h1, h2⟩ | ⟨d, e', h1, h2, h3, h4, h5⟩
    · exact .inl ⟨h1, by rw [h2]; exact h.here S (.bl _)⟩
    · exact .inr ⟨d, e', h1, h2, h3, h4, by rw [h5]; exact h.here S (.bl _)⟩
  · exact h.elim

/-! ### in, not in, of texts -/
def rInT : R2 := fun x y H Q => (∃ (c : Nat) (z : Str), x = .str ⟨#[c]⟩ ∧ y = .str z ∧ Q (.bl (decide (c ∈ z.cps.toList))) H) ∨
  ∃ i j, x = .str i ∧ y = .str j ∧ Q (.bl (!(Builtin.Str.occurrences j i 0 j.length 1).isEmpty)) H
def rNotInT : R2 := fun x y H Q => (∃ (c : Nat) (z : Str), x = .str ⟨#[c]⟩ ∧ y = .str z ∧ Q (.bl (!decide (c ∈ z.cps.toList))) H) ∨
  ∃ i j, x = .str i ∧ y = .str j ∧ Q (.bl (!(!(Builtin.Str.occurrences j i 0 j.length 1).isEmpty))) H
theorem op_inT : OpR X (compareOp .In) rInT := by
  intro pins s σ H x y v u Q I rx ry h
  rcases h with h | h
  · exact op_in_sign pins s σ H x y v u Q I rx ry h
  · exact op_in_str pins s σ H x y v u Q I rx ry h
theorem op_notInT : OpR X (compareOp .NotIn) rNotInT := by
  intro pins s σ H x y v u Q I rx ry h
  rcases h with h | h
  · exact op_notIn_sign pins s σ H x y v u Q I rx ry h
  · exact op_notIn_str pins s σ H x y v u Q I rx ry h
def inText (x y : List Nat) : Bool := match x with
  | [c] => decide (c ∈ y)
  | x => !(Builtin.Str.occurrences ⟨y.toArray⟩ ⟨x.toArray⟩ 0 y.length 1).isEmpty
def fIn : MV → MV → MH → Res MV
  | .str x, .str y, M => .ok (.bl (inText x y)) M
  | _, _, _ => .stuck
def fNotIn : MV → MV → MH → Res MV
  | .str x, .str y, M => .ok (.bl (!inText x y)) M
  | _, _, _ => .stuck
theorem s_in : S2 K W rInT fIn := by
  intro ρ M H σ x y u v Q S rx ry h
  unfold fIn at h
  split at h
  · rename_i x y
    cases rx; cases ry
    unfold inText at h
    split at h
    · exact .inl ⟨_, _, rfl, rfl, h.here S (.bl _)⟩
    · refine .inr ⟨_, _, rfl, rfl, ?_⟩
      rw [str_len]
      exact h.here S (.bl _)
  · exact h.elim
theorem s_notIn : S2 K W rNotInT fNotIn := by
  intro ρ M H σ x y u v Q S rx ry h
  unfold fNotIn at h
  split at h
  · rename_i x y
    cases rx; cases ry
    unfold inText at h
    split at h
    · exact .inl ⟨_, _, rfl, rfl, h.here S (.bl _)⟩
    · refine .inr ⟨_, _, rfl, rfl, ?_⟩
      rw [str_len]
      exact h.here S (.bl _)
  · exact h.elim

/-! ### a[i], a[i:j] -/
def fIx : MV → MV → MH → Res MV
  | .ref p, .int i, M => match M.get p with
    | some (.lst xs) => (match atI xs i with
      | some v => .ok v M
      | none => .stuck)
    | _ => .stuck
  | .tup xs, .int i, M => (match atI xs i with
    | some v => .ok v M
    | none => .stuck)
  | .fro xs, .int i, M => (match atI xs i with
    | some v => .ok v M
    | none => .stuck)
  | .str z, .int i, M => if z.length ≤ 16777216 then (match atI z i with
    | some c => .ok (.str [c]) M
    | none => .stuck) else .stuck
  | _, _, _ => .stuck
theorem VRs.atI {ρ : Nat → Option Addr} {H : Hp} {xs : List MV} {ys : List V} {i : Int} {v : MV} (r : VRs K ρ H xs ys) (h : atI xs i = some v) : ∃ u, L2.atI ys i = some u ∧ VR K ρ H v u := by
  unfold L2.atI at h ⊢
  rw [← r.length]
  cases e : ixN xs.length i with
  | none => rw [e] at h; cases h
  | some j =>
    rw [e] at h
    obtain ⟨u, h1, h2⟩ := r.get (i := j) h
    exact ⟨u, h1, h2⟩
theorem s_ix : S2 K W (rIx K) fIx := by
  intro ρ M H σ x y u v Q S rx ry h
  unfold fIx at h
  split at h
  · split at h
    · rename_i xs e
      split at h
      · rename_i w e2
        cases ry
        cases rx with
        | ref q =>
          obtain ⟨o, g, r⟩ := S.at_ q
          rw [e] at g
          cases g
          obtain ⟨ys, h1, rs⟩ := r
          obtain ⟨z, h2, rz⟩ := rs.atI e2
          exact .inl ⟨_, ys, _, z, rfl, rfl, SqL.of h1, h2, h.here S rz⟩
      · exact h.elim
    · exact h.elim
  · split at h
    · rename_i e2
      cases ry
      cases rx with
      | tup q rs =>
        obtain ⟨z, h2, rz⟩ := rs.atI e2
        exact .inr (.inl ⟨_, _, _, z, rfl, rfl, q, h2, h.here S rz⟩)
    · exact h.elim
  · split at h
    · rename_i e2
      cases ry
      cases rx with
      | fro q rs =>
        obtain ⟨z, h2, rz⟩ := rs.atI e2
        exact .inl ⟨_, _, _, z, rfl, rfl, q.l, h2, h.here S rz⟩
    · exact h.elim
  · split at h
    · rename_i c
      split at h
      · rename_i e2
        cases ry; cases rx
        refine .inr (.inr ⟨_, _, _, rfl, rfl, by rw [str_len]; exact le_line c, by simpa using e2, ?_⟩)
        exact h.here S (.str [_])
      · exact h.elim
    · exact h.elim
  · exact h.elim
def cutL {α : Type} (xs : List α) (lo hi : Option Int) : List α := (xs.drop (HT.sIx xs.length 0 lo)).take (HT.sIx xs.length xs.length hi - HT.sIx xs.length 0 lo)
/-- a part of a slice -/
def partOf : MV → Option (Option Int)
  | .int i => some (some i)
  | _ => none
abbrev MO' := Loc → MH → Res (Option Int)
def mNoPart : MO' := fun _ M => .ok none M
def mPart (a : ME) : MO' := fun τ M => (a τ M).bind fun x M => match x with
  | .int i => .ok (some i) M
  | _ => .stuck
def SO (K : PySem.W.Frag) (xi : Option XI) (W : WX) (t : TO) (m : MO') : Prop := ∀ ρ M H σ τ Q, Sim K ρ M H → SR K xi ρ H τ σ → QR K (fun _ _ (a b : Option Int) => a = b) W σ ρ H Q (m τ M) → t σ H Q
theorem so_no {xi : Option XI} : SO K xi W tNoPart mNoPart := fun ρ M H σ τ Q S R h => h.here S rfl
theorem so_part {xi : Option XI} {ta : TE} {ma : ME} (ha : SE K xi W ta ma) : SO K xi W (tPart ta) (mPart ma) := fun ρ M H σ τ Q S R h =>
  ha ρ M H σ τ _ S R (QR.bind h fun x M1 ρ1 H1 u e1 S1 r1 h1 => by
    split at h1
    · cases r1; exact ⟨_, rfl, h1.here S1 rfl⟩
    · exact h1.elim)
def rSl (K : PySem.W.Frag) : V → Option Int → Option Int → Hp → VK → Prop := fun x lo hi H Q => (rSlS x lo hi H Q ∨ rSlL K x lo hi H Q) ∨ rSlA K x lo hi H Q
theorem sl_all : SlR X (rSl X.K) := SlR.or (SlR.or sl_str sl_list) sl_tupA
def fSl : MV → Option Int → Option Int → MH → Res MV
  | .str z, lo, hi, M => if z.length ≤ 16777216 then .ok (.str (cutL z lo hi)) M else .stuck
  | .ref p, lo, hi, M => match M.get p with
    | some (.lst xs) => mkLst (cutL xs lo hi) M
    | _ => .stuck
  | .tup xs, lo, hi, M => .ok (.tup (cutL xs lo hi)) M
  | _, _, _, _ => .stuck
def mSl (a : ME) (l u : MO') : ME := fun τ M => (a τ M).bind fun x M => (l τ M).bind fun lo M => (u τ M).bind fun hi M => fSl x lo hi M
theorem cutL_V {ρ : Nat → Option Addr} {H : Hp} {xs : List MV} {ys : List V} (r : VRs K ρ H xs ys) (lo hi : Option Int) : VRs K ρ H (cutL xs lo hi) (cutV ys lo hi) := by
  unfold cutL cutV
  rw [r.length]
  exact (r.drop _).take _
theorem cutL_whole {α : Type} {xs : List α} {lo hi : Option Int} (h : HT.sIx xs.length 0 lo = 0 ∧ HT.sIx xs.length xs.length hi = xs.length) : cutL xs lo hi = xs := by
  unfold cutL
  rw [h.1, h.2]
  simp
theorem se_sl {xi : Option XI} {ta : TE} {ma : ME} {tl th : TO} {ml mh : MO'} (ha : SE K xi W ta ma) (hl : SO K xi W tl ml) (hh : SO K xi W th mh) : SE K xi W (tSl (rSl K) ta tl th) (mSl ma ml mh) := fun ρ M H σ τ Q S R h =>
  ha ρ M H σ τ _ S R (QR.bind h fun x M1 ρ1 H1 u e1 S1 r1 h1 => hl ρ1 M1 H1 σ τ _ S1 (R.mono e1) (QR.bind h1 fun lo M2 ρ2 H2 lo' e2 S2 r2 h2 =>
    hh ρ2 M2 H2 σ τ _ S2 ((R.mono e1).mono e2) (QR.bind h2 fun hi M3 ρ3 H3 hi' e3 S3 r3 h3 => by
      have rx : VR K ρ3 H3 x u := (r1.mono e2).mono e3
      obtain rfl : lo = lo' := r2
      obtain rfl : hi = hi' := r3
      unfold fSl at h3
      split at h3
      · rename_i z
        split at h3
        · rename_i c
          cases rx
          refine .inl (.inl ⟨_, rfl, by rw [str_len]; exact le_line c, ?_⟩)
          have e : cutS (⟨z.toArray⟩ : Str) lo hi = ⟨(cutL z lo hi).toArray⟩ := by
            unfold cutS cutL
            rw [str_len]
          rw [e]
          exact h3.here S3 (.str _)
        · exact h3.elim
      · split at h3
        · rename_i xs e
          cases rx with
          | ref q =>
            obtain ⟨o, g, r⟩ := S3.at_ q
            rw [e] at g
            cases g
            obtain ⟨ys, k1, rs⟩ := r
            obtain ⟨_, hq⟩ := mkLst_ok S3 (cutL_V rs lo hi) h3
            exact .inl (.inr ⟨_, ys, rfl, SqL.of k1, hq⟩)
        · exact h3.elim
      · rename_i xs
        cases rx with
        | tup q rs =>
          rename_i a ys
          refine .inr ⟨_, ys, rfl, q, fun c => ?_, fun c p hp => ?_⟩
          · rw [← rs.length] at c
            rw [cutL_whole c] at h3
            exact h3.here S3 (.tup q rs)
          · obtain ⟨e, S4, r4⟩ := S3.newT hp (cutL_V rs lo hi)
            exact h3 _ _ _ e S4 r4
      · exact h3.elim)))
end MX
end
section
set_option Elab.async false
set_option linter.all false
set_option maxRecDepth 100000
set_option maxHeartbeats 1000000
/-! MX5: built-in functions and methods by values. -/
namespace MX
open PySem PySem.Spec L2
variable {K : PySem.W.Frag} {W : WX} {X : Cx}
/-- what of the context the built-ins ask -/
structure XC (X : Cx) : Prop where
  calm : X.calm = true
  guards : X.A.guards = some []
  nd : X.base.NoDigits
  un : X.A.units + 200 < cLine
theorem VRs.one {ρ : Nat → Option Addr} {H : Hp} {x : MV} {us : List V} (r : VRs K ρ H [x] us) : ∃ u, us = [u] ∧ VR K ρ H x u := by
  cases r with
  | cons r1 r2 => cases r2; exact ⟨_, rfl, r1⟩
theorem VRs.two {ρ : Nat → Option Addr} {H : Hp} {x y : MV} {us : List V} (r : VRs K ρ H [x, y] us) : ∃ u v, us = [u, v] ∧ VR K ρ H x u ∧ VR K ρ H y v := by
  cases r with
  | cons r1 r2 =>
    cases r2 with
    | cons r2 r3 => cases r3; exact ⟨_, _, rfl, r1, r2⟩
/-! ### len -/
def fLen : List MV → MH → Res MV
  | [.str x], M => if x.length ≤ 16777216 then .ok (.int x.length) M else .stuck
  | [.tup xs], M => .ok (.int xs.length) M
  | [.fro xs], M => .ok (.int xs.length) M
  | [.ref p], M => match M.get p with
    | some (.lst xs) => .ok (.int xs.length) M
    | _ => .stuck
  | _, _ => .stuck
def rLen (K : PySem.W.Frag) : List V → Hp → VK → Prop := fun xs H Q => ∃ x n, xs = [x] ∧ LenV K x H n ∧ Q (.int n) H
theorem s_len : SC K W (rLen K) fLen := by
  intro ρ M H σ xs us Q S r h
  unfold fLen at h
  split at h
  · obtain ⟨u, rfl, ru⟩ := r.one
    cases ru
    split at h
    · rename_i c
      exact ⟨_, _, rfl, ⟨by rw [str_len]; exact le_line c, (str_len _).symm⟩, h.here S (.int _)⟩
    · exact h.elim
  · obtain ⟨u, rfl, ru⟩ := r.one
    cases ru with
    | tup q rs => exact ⟨_, _, rfl, .inr ⟨_, q, rs.length⟩, h.here S (.int _)⟩
  · obtain ⟨u, rfl, ru⟩ := r.one
    cases ru with
    | fro q rs => exact ⟨_, _, rfl, .inl ⟨_, q.l, rs.length⟩, h.here S (.int _)⟩
  · obtain ⟨u, rfl, ru⟩ := r.one
    split at h
    · rename_i xs e
      cases ru with
      | ref q =>
        obtain ⟨o, g, r⟩ := S.at_ q
        rw [e] at g
        cases g
        obtain ⟨ys, h1, rs⟩ := r
        exact ⟨_, _, rfl, .inl ⟨_, SqL.of h1, rs.length⟩, h.here S (.int _)⟩
    · exact h.elim
  · exact h.elim
/-! ### abs, int, str -/
def fAbs : List MV → MH → Res MV
  | [.int i], M => .ok (.int (if i < 0 then -i else i)) M
  | _, _ => .stuck
def rAbs : List V → Hp → VK → Prop := fun xs H Q => ∃ i, xs = [.int i] ∧ Q (.int (if i < 0 then -i else i)) H
theorem s_abs : SC K W rAbs fAbs := by
  intro ρ M H σ xs us Q S r h
  unfold fAbs at h
  split at h
  · obtain ⟨u, rfl, ru⟩ := r.one
    cases ru
    exact ⟨_, rfl, h.here S (.int _)⟩
  · exact h.elim
def fIntC : List MV → MH → Res MV
  | [.int i], M => .ok (.int i) M
  | [.bl b], M => .ok (.int (if b then 1 else 0)) M
  | [.str x], M => if x.length ≤ 640 then (match PySem.intText? ⟨x.toArray⟩ with
    | some n => .ok (.int n) M
    | none => .stuck) else .stuck
  | _, _ => .stuck
def rIntC : List V → Hp → VK → Prop := fun xs H Q => ((∃ i, xs = [.int i] ∧ Q (.int i) H) ∨ ∃ k, xs = [.bl k] ∧ Q (.int (if k then 1 else 0)) H) ∨ ∃ a n, xs = [.str a] ∧ PySem.intText? a = some n ∧ a.length ≤ 640 ∧ Q (.int n) H
theorem call_intC : CallR X (.type "int") rIntC := by
  intro pins s σ H xs us Q I r h
  rcases h with h | h
  · exact call_int1 pins s σ H xs us Q I r h
  · exact call_int_str pins s σ H xs us Q I r h
theorem s_intC : SC K W rIntC fIntC := by
  intro ρ M H σ xs us Q S r h
  unfold fIntC at h
  split at h
  · obtain ⟨u, rfl, ru⟩ := r.one
    cases ru
    exact .inl (.inl ⟨_, rfl, h.here S (.int _)⟩)
  · obtain ⟨u, rfl, ru⟩ := r.one
    cases ru
    exact .inl (.inr ⟨_, rfl, h.here S (.int _)⟩)
  · obtain ⟨u, rfl, ru⟩ := r.one
    cases ru
    split at h
    · rename_i c
      split at h
      · rename_i n e
        exact .inr ⟨_, _, rfl, e, by rw [str_len]; exact c, h.here S (.int _)⟩
      · exact h.elim
    · exact h.elim
  · exact h.elim
/-- the decimal form -/
def showInt (i : Int) : List Nat := ((toString i : String) : Str).cps.toList
def fStrC : List MV → MH → Res MV
  | [.int i], M => if i.natAbs < 10 ^ 4300 then .ok (.str (showInt i)) M else .stuck
  | [.str x], M => .ok (.str x) M
  | _, _ => .stuck
def rStrC : List V → Hp → VK → Prop := fun xs H Q => (∃ i, xs = [.int i] ∧ i.natAbs < 10 ^ 4300 ∧ Q (.str (toString i)) H) ∨ ∃ a, xs = [.str a] ∧ Q (.str a) H
theorem call_strC (c : XC X) : CallR X (.type "str") rStrC := by
  intro pins s σ H xs us Q I r h
  rcases h with ⟨i, rfl, hz, q⟩ | h
  · obtain ⟨u, rfl, t, rfl⟩ := vals1 r
    exact PyProof.Rows.str_of_int_or (I.ok.hd c.calm) (c.nd.keeps I.bk) (fun _ => ⟨.str _, H, I.tok _, ⟨_, rfl⟩, q⟩) fun z => absurd hz (Nat.not_lt.mpr z)
  · exact SkE.call_str_str pins s σ H xs us Q I r h
theorem s_strC : SC K W rStrC fStrC := by
  intro ρ M H σ xs us Q S r h
  unfold fStrC at h
  split at h
  · obtain ⟨u, rfl, ru⟩ := r.one
    cases ru
    split at h
    · rename_i c
      refine .inl ⟨_, rfl, c, ?_⟩
      have := h.here S (.str _)
      unfold showInt at this
      rw [str_of] at this
      exact this
    · exact h.elim
  · obtain ⟨u, rfl, ru⟩ := r.one
    cases ru
    exact .inr ⟨_, rfl, h.here S (.str _)⟩
  · exact h.elim
/-! ### isinstance -/
def tyOf (M : MH) : MV → Option String
  | .non => some "NoneType"
  | .bl _ => some "bool"
  | .int _ => some "int"
  | .str _ => some "str"
  | .tup _ => some "tuple"
  | .fro _ => some "list"
  | .ref p => (match M.get p with
    | some (.lst _) => some "list"
    | _ => none)
  | _ => none
def isTy (a b : String) : Option Bool :=
  if (["NoneType", "bool", "int", "str", "tuple", "list"].contains a && ["bool", "int", "str", "tuple", "list", "dict"].contains b) = true then some (a == b || (a == "bool" && b == "int")) else none
theorem isTy_kit {a b : String} {r : Bool} (h : isTy a b = some r) : kitB a b = some r := by
  unfold isTy at h
  split at h
  · rename_i c
    rw [Bool.and_eq_true] at c
    simp only [List.contains_cons, List.contains_nil, Bool.or_false, Bool.or_eq_true, beq_iff_eq] at c
    have key : ∀ a' ∈ ["NoneType", "bool", "int", "str", "tuple", "list"], ∀ b' ∈ ["bool", "int", "str", "tuple", "list", "dict"], kitB a' b' = some (a' == b' || (a' == "bool" && b' == "int")) := by decide +kernel
    rw [← h]
    exact key a (by simp; exact c.1) b (by simp; exact c.2)
  · cases h
def fIsi : List MV → MH → Res MV
  | [x, .ty n], M => match tyOf M x with
    | some a => (match isTy a n with
      | some b => .ok (.bl b) M
      | none => .stuck)
    | none => .stuck
  | _, _ => .stuck
theorem tyOf_ok {ρ : Nat → Option Addr} {M : MH} {H : Hp} {x : MV} {u : V} {a : String} (S : Sim K ρ M H) (h : tyOf M x = some a) (r : VR K ρ H x u) : TyX K H u (.type a) := by
  unfold tyOf at h
  split at h
  · cases h; cases r; exact .base .non
  · cases h; cases r; exact .base (.bl _)
  · cases h; cases r; exact .base (.int _)
  · cases h; cases r; exact .base (.str _)
  · cases h
    cases r with
    | tup q _ =>
      rcases q with (q | ⟨o, q⟩) | ⟨o, its, n, q, q2, _⟩
      · exact .base (.tup q)
      · exact .fTuple q
      · exact .kTuple q q2
  · cases h
    cases r with
    | fro q _ =>
      rcases q with ⟨o, q⟩ | ⟨o, its, n, q, q2, _⟩
      · exact .base (.frz q)
      · exact .kList q q2
  · split at h
    · rename_i e
      cases h
      cases r with
      | ref q =>
        obtain ⟨o, g, r⟩ := S.at_ q
        rw [e] at g
        cases g
        obtain ⟨ys, h1, rs⟩ := r
        exact .base (.lst h1)
    · cases h
  · cases h
theorem s_isi : SC K W (rIsi K) fIsi := by
  intro ρ M H σ xs us Q S r h
  unfold fIsi at h
  split at h
  · obtain ⟨u, v, rfl, ru, rv⟩ := r.two
    cases rv
    split at h
    · rename_i a e
      split at h
      · rename_i b e2
        exact ⟨_, _, _, _, b, rfl, .ty _, tyOf_ok S e ru, kit_ty (isTy_kit e2), h.here S (.bl _)⟩
      · exact h.elim
    · exact h.elim
  · exact h.elim
/-! ### tuple, list -/
def fTupC : List MV → MH → Res MV
  | [.ref p], M => match M.get p with
    | some (.lst xs) => mkTup xs M
    | _ => .stuck
  | [.fro xs], M => mkTup xs M
  | [.tup xs], M => .ok (.tup xs) M
  | _, _ => .stuck
def rTupC (K : PySem.W.Frag) : List V → Hp → VK → Prop := fun xs H Q => ∃ p ys, xs = [.ref p] ∧ ((SqL K H p ys ∧ ∀ l, H l = none → Q (.ref l) (upd H l (.tup ys))) ∨ (SqT K H p ys ∧ Q (.ref p) H))
theorem s_tupC : SC K W (rTupC K) fTupC := by
  intro ρ M H σ xs us Q S r h
  unfold fTupC at h
  split at h
  · obtain ⟨u, rfl, ru⟩ := r.one
    split at h
    · rename_i xs e
      cases ru with
      | ref q =>
        obtain ⟨o, g, r⟩ := S.at_ q
        rw [e] at g
        cases g
        obtain ⟨ys, h1, rs⟩ := r
        exact ⟨_, ys, rfl, .inl ⟨SqL.of h1, (mkTup_ok S rs h).2⟩⟩
    · exact h.elim
  · obtain ⟨u, rfl, ru⟩ := r.one
    cases ru with
    | fro q rs => exact ⟨_, _, rfl, .inl ⟨q.l, (mkTup_ok S rs h).2⟩⟩
  · obtain ⟨u, rfl, ru⟩ := r.one
    cases ru with
    | tup q rs => exact ⟨_, _, rfl, .inr ⟨q, h.here S (.tup q rs)⟩⟩
  · exact h.elim
def fLstC : List MV → MH → Res MV
  | [.ref p], M => match M.get p with
    | some (.lst xs) => mkLst xs M
    | _ => .stuck
  | [.fro xs], M => mkLst xs M
  | [.tup xs], M => mkLst xs M
  | _, _ => .stuck
def rLstC (K : PySem.W.Frag) : List V → Hp → VK → Prop := fun xs H Q => ∃ p ys, xs = [.ref p] ∧ (SqL K H p ys ∨ SqT K H p ys) ∧ ∀ l, H l = none → Q (.ref l) (upd H l (.lst ys))
theorem s_lstC : SC K W (rLstC K) fLstC := by
  intro ρ M H σ xs us Q S r h
  unfold fLstC at h
  split at h
  · obtain ⟨u, rfl, ru⟩ := r.one
    split at h
    · rename_i xs e
      cases ru with
      | ref q =>
        obtain ⟨o, g, r⟩ := S.at_ q
        rw [e] at g
        cases g
        obtain ⟨ys, h1, rs⟩ := r
        exact ⟨_, ys, rfl, .inl (SqL.of h1), (mkLst_ok S rs h).2⟩
    · exact h.elim
  · obtain ⟨u, rfl, ru⟩ := r.one
    cases ru with
    | fro q rs => exact ⟨_, _, rfl, .inl q.l, (mkLst_ok S rs h).2⟩
  · obtain ⟨u, rfl, ru⟩ := r.one
    cases ru with
    | tup q rs => exact ⟨_, _, rfl, .inr q, (mkLst_ok S rs h).2⟩
  · exact h.elim
/-! ### repr -/
def fRepr : List MV → MH → Res MV
  | [x], M => match x with
    | .tup _ | .fro _ | .ref _ => (match snap 200 M x with
      | some d => if (d.showable && (!d.hasDict && (decide (d.depth ≤ 100) && decide (d.shown.length ≤ 16777216)))) = true then .ok (.str d.shown.cps.toList) M else .stuck
      | none => .stuck)
    | _ => .stuck
  | _, _ => .stuck
def rRepr (K : PySem.W.Frag) : List V → Hp → VK → Prop := fun xs H Q => ∃ a d, xs = [.ref a] ∧ Dp K H (.ref a) d ∧ d.showable = true ∧ d.hasDict = false ∧ d.depth ≤ 100 ∧ d.shown.length ≤ sizeLine ∧ Q (.str d.shown) H
theorem call_repr (c : XC X) : CallR X (.builtin "repr") (rRepr X.K) := by
  intro pins s σ H xs us Q I r h
  obtain ⟨a, d, rfl, hd, h1, h2, h3, h4, q⟩ := h
  obtain ⟨u, rfl, ru⟩ := vals1 r
  cases ru
  obtain ⟨as, rd⟩ := Dp.reads I d _ _ hd rfl
  have hu := c.un
  refine repr_of_reads' (h₀ := s.heap) rd h1 (fun z => by rw [h2] at z; cases z) c.guards (by omega) (fun _ _ z => z) (fun h' u tk hk => ?_) h4
  exact ⟨.str _, H, I.kept (t' := tk) hk, ⟨_, rfl⟩, q⟩
theorem s_repr : SC K W (rRepr K) fRepr := by
  intro ρ M H σ xs us Q S r h
  unfold fRepr at h
  split at h
  · obtain ⟨u, rfl, ru⟩ := r.one
    have key : ∀ {x : MV} {a : Addr}, VR K ρ H x (.ref a) → QR K (VR K) W σ ρ H Q (match snap 200 M x with
      | some d => if (d.showable && (!d.hasDict && (decide (d.depth ≤ 100) && decide (d.shown.length ≤ 16777216)))) = true then .ok (.str d.shown.cps.toList) M else .stuck
      | none => .stuck) → rRepr K [.ref a] H Q := fun {x a} ru h => by
      split at h
      · rename_i d e
        split at h
        · rename_i c
          simp only [Bool.and_eq_true, decide_eq_true_eq, Bool.not_eq_true'] at c
          refine ⟨a, d, rfl, snap_dp S _ _ _ _ e ru, c.1, c.2.1, c.2.2.1, le_line c.2.2.2, ?_⟩
          have := h.here S (.str _)
          rw [str_of] at this
          exact this
        · exact h.elim
      · exact h.elim
    split at h
    · cases ru with
      | tup q rs => exact key (.tup q rs) h
    · cases ru with
      | fro q rs => exact key (.fro q rs) h
    · cases ru with
      | ref q => exact key (.ref q) h
    · exact h.elim
  · exact h.elim
/-! ### all, any -/
def bools : List MV → Option (List Bool)
  | [] => some []
  | .bl b :: xs => (bools xs).map (b :: ·)
  | _ :: _ => none
theorem bools_ok {ρ : Nat → Option Addr} {H : Hp} : ∀ {xs : List MV} {ys : List V} {bs : List Bool}, bools xs = some bs → VRs K ρ H xs ys → ys = bs.map V.bl
  | [], _, _, h, r => by cases h; cases r; rfl
  | x :: xs, _, _, h, r => by
    cases r with
    | cons r1 rs =>
      cases x with
      | bl b =>
        obtain ⟨bs, h1, rfl⟩ := Option.map_eq_some_iff.mp h
        cases r1
        rw [bools_ok h1 rs] <;> rfl
      | _ => cases h
def fAll : List MV → MH → Res MV
  | [.ref p], M => match M.get p with
    | some (.lst xs) => (match bools xs with
      | some bs => .ok (.bl (bs.all id)) M
      | none => .stuck)
    | _ => .stuck
  | _, _ => .stuck
theorem s_all : SC K W (rAll K) fAll := by
  intro ρ M H σ xs us Q S r h
  unfold fAll at h
  split at h
  · obtain ⟨u, rfl, ru⟩ := r.one
    split at h
    · rename_i xs e
      split at h
      · rename_i bs e2
        cases ru with
        | ref q =>
          obtain ⟨o, g, r⟩ := S.at_ q
          rw [e] at g
          cases g
          obtain ⟨ys, h1, rs⟩ := r
          have := bools_ok e2 rs
          subst this
          exact ⟨_, _, rfl, SqL.of h1, h.here S (.bl _)⟩
      · exact h.elim
    · exact h.elim
  · exact h.elim
/-! ### methods of lists and texts -/
def fApp : MV → List MV → MH → Res MV
  | .ref p, [y], M => match M.get p with
    | some (.lst xs) => if xs.length < 16777216 then .ok .non (M.set p (.lst (xs ++ [y]))) else .stuck
    | _ => .stuck
  | _, _, _ => .stuck
theorem s_app : SM K W rAppend fApp := by
  intro ρ M H σ x u xs us Q S rx r h
  unfold fApp at h
  split at h
  · rename_i p y
    obtain ⟨v, rfl, rv⟩ := r.one
    split at h
    · rename_i xs e
      split at h
      · rename_i c
        cases rx with
        | ref q =>
          obtain ⟨o, g, r⟩ := S.at_ q
          have g0 := g
          rw [e] at g
          cases g
          obtain ⟨ys, h1, rs⟩ := r
          obtain ⟨E, S'⟩ := S.writeL g0 q h1 (.inl ⟨ys, rfl⟩) (rs.append (.cons rv .nil))
          exact ⟨_, ys, v, rfl, rfl, h1, by rw [← rs.length]; exact lt_line c, h _ _ _ E S' .non⟩
      · exact h.elim
    · exact h.elim
  · exact h.elim
def fExt : MV → List MV → MH → Res MV
  | .ref p, [.ref p2], M => match M.get p, M.get p2 with
    | some (.lst xs), some (.lst ys) => if xs.length + ys.length ≤ 16777216 then .ok .non (M.set p (.lst (xs ++ ys))) else .stuck
    | _, _ => .stuck
  | _, _, _ => .stuck
theorem s_ext : SM K W rExtend fExt := by
  intro ρ M H σ x u xs us Q S rx r h
  unfold fExt at h
  split at h
  · rename_i p p2
    obtain ⟨v, rfl, rv⟩ := r.one
    split at h
    · rename_i xs zs e e2
      split at h
      · rename_i c
        cases rx with
        | ref q =>
          cases rv with
          | ref q2 =>
            obtain ⟨o, g, r⟩ := S.at_ q
            obtain ⟨o2, g2, r2⟩ := S.at_ q2
            have g0 := g
            rw [e] at g
            rw [e2] at g2
            cases g; cases g2
            obtain ⟨ys, h1, rs⟩ := r
            obtain ⟨ws, h2, rs2⟩ := r2
            obtain ⟨E, S'⟩ := S.writeL g0 q h1 (.inl ⟨ys, rfl⟩) (rs.append rs2)
            exact ⟨_, _, ys, ws, rfl, rfl, h1, h2, by rw [← rs.length, ← rs2.length]; exact le_line c, h _ _ _ E S' .non⟩
      · exact h.elim
    · exact h.elim
  · exact h.elim
def fRev : MV → List MV → MH → Res MV
  | .ref p, [], M => match M.get p with
    | some (.lst xs) => .ok .non (M.set p (.lst xs.reverse))
    | _ => .stuck
  | _, _, _ => .stuck
theorem s_rev : SM K W rReverse fRev := by
  intro ρ M H σ x u xs us Q S rx r h
  unfold fRev at h
  split at h
  · rename_i p
    cases r
    split at h
    · rename_i xs e
      cases rx with
      | ref q =>
        obtain ⟨o, g, r⟩ := S.at_ q
        have g0 := g
        rw [e] at g
        cases g
        obtain ⟨ys, h1, rs⟩ := r
        obtain ⟨E, S'⟩ := S.writeL g0 q h1 (.inl ⟨ys, rfl⟩) rs.rev
        exact ⟨_, ys, rfl, rfl, h1, h _ _ _ E S' .non⟩
    · exact h.elim
  · exact h.elim
def fPop : MV → List MV → MH → Res MV
  | .ref p, [], M => match M.get p with
    | some (.lst xs) => (match xs[xs.length - 1]? with
      | some y => .ok y (M.set p (.lst xs.dropLast))
      | none => .stuck)
    | _ => .stuck
  | _, _, _ => .stuck
theorem s_pop : SM K W rPop fPop := by
  intro ρ M H σ x u xs us Q S rx r h
  unfold fPop at h
  split at h
  · rename_i p
    cases r
    split at h
    · rename_i xs e
      split at h
      · rename_i y e2
        cases rx with
        | ref q =>
          obtain ⟨o, g, r⟩ := S.at_ q
          have g0 := g
          rw [e] at g
          cases g
          obtain ⟨ys, h1, rs⟩ := r
          obtain ⟨z, h2, rz⟩ := rs.get e2
          obtain ⟨E, S'⟩ := S.writeL g0 q h1 (.inl ⟨ys, rfl⟩) rs.dropLast
          exact ⟨_, ys, z, rfl, rfl, h1, by rw [← rs.length]; exact h2, h _ _ _ E S' (rz.mono E)⟩
      · exact h.elim
    · exact h.elim
  · exact h.elim
/-- texts joined -/
def joinM (sep : List Nat) : List (List Nat) → List Nat
  | [] => []
  | [x] => x
  | x :: y :: r => x ++ (sep ++ joinM sep (y :: r))
def texts : List MV → Option (List (List Nat))
  | [] => some []
  | .str x :: xs => (texts xs).map (x :: ·)
  | _ :: _ => none
theorem texts_ok {ρ : Nat → Option Addr} {H : Hp} : ∀ {xs : List MV} {ys : List V} {ts : List (List Nat)}, texts xs = some ts → VRs K ρ H xs ys → ys = (ts.map fun t => (⟨t.toArray⟩ : Str)).map V.str
  | [], _, _, h, r => by cases h; cases r; rfl
  | x :: xs, _, _, h, r => by
    cases r with
    | cons r1 rs =>
      cases x with
      | str z =>
        obtain ⟨ts, h1, rfl⟩ := Option.map_eq_some_iff.mp h
        cases r1
        rw [texts_ok h1 rs] <;> rfl
      | _ => cases h
theorem join_M (sep : List Nat) : ∀ ts : List (List Nat), Str.join ⟨sep.toArray⟩ (ts.map fun t => (⟨t.toArray⟩ : Str)) = ⟨(joinM sep ts).toArray⟩
  | [] => rfl
  | [x] => rfl
  | x :: y :: r => by
    have ih := join_M sep (y :: r)
    show (⟨x.toArray⟩ : Str) ++ ⟨sep.toArray⟩ ++ Str.join ⟨sep.toArray⟩ ((y :: r).map fun t => (⟨t.toArray⟩ : Str)) = _
    rw [ih, str_app, str_app, List.append_assoc]
    rfl
def joinRes (a : List Nat) (xs : List MV) (M : MH) : Res MV := match texts xs with
  | some ts => if (ts.map (·.length)).sum + ts.length * a.length ≤ 16777216 then .ok (.str (joinM a ts)) M else .stuck
  | none => .stuck
def fJoin : MV → List MV → MH → Res MV
  | .str a, [.ref p], M => (match M.get p with
    | some (.lst xs) => joinRes a xs M
    | _ => .stuck)
  | .str a, [.tup xs], M => joinRes a xs M
  | _, _, _ => .stuck
def rJoin (K : PySem.W.Frag) : V → List V → Hp → VK → Prop := fun x xs H Q => ∃ a p, ∃ ys : List Str, x = .str a ∧ xs = [.ref p] ∧ (SqL K H p (ys.map V.str) ∨ SqT K H p (ys.map V.str)) ∧
    (ys.map (·.length)).sum + ys.length * a.length ≤ 16777216 ∧ Q (.str (Txt.join a ys)) H
theorem s_join : SM K W (rJoin K) fJoin := by
  intro ρ M H σ x u xs us Q S rx r h
  have key : ∀ {a : List Nat} {p : Addr} {xs : List MV} {ys : List V}, (SqL K H p ys ∨ SqT K H p ys) → VRs K ρ H xs ys → QR K (VR K) W σ ρ H Q (joinRes a xs M) → rJoin K (.str ⟨a.toArray⟩) [.ref p] H Q := fun {a p xs ys} hq rs h => by
    unfold joinRes at h
    split at h
    · rename_i ts e
      split at h
      · rename_i c
        have e1 := texts_ok e rs
        subst e1
        refine ⟨_, p, _, rfl, rfl, hq, ?_, ?_⟩
        · rw [List.map_map, List.length_map, str_len]
          have e2 : (ts.map ((fun x => Str.length x) ∘ fun t => (⟨t.toArray⟩ : Str))) = ts.map (·.length) := List.map_congr_left fun t _ => str_len t
          rw [e2]
          exact c
        · rw [TL.join_eq, join_M]
          exact h.here S (.str _)
      · exact h.elim
    · exact h.elim
  unfold fJoin at h
  split at h
  · obtain ⟨v, rfl, rv⟩ := r.one
    cases rx
    split at h
    · rename_i xs e
      cases rv with
      | ref q =>
        obtain ⟨o, g, r⟩ := S.at_ q
        rw [e] at g
        cases g
        obtain ⟨ys, h1, rs⟩ := r
        exact key (.inl (SqL.of h1)) rs h
    · exact h.elim
  · obtain ⟨v, rfl, rv⟩ := r.one
    cases rx
    cases rv with
    | tup q rs => exact key (.inr q) rs h
  · exact h.elim
end MX
end
section
set_option Elab.async false
set_option linter.all false
set_option maxRecDepth 100000
set_option maxHeartbeats 1000000
/-! MX6: statements by values. -/
namespace MX
open PySem PySem.Spec L2
/-- what a suite comes to -/
inductive Out where
  | nx (τ : Loc) (M : MH) | rt (v : MV) (M : MH) | bk (τ : Loc) (M : MH) | ct (τ : Loc) (M : MH) | ex (c : Str) (fs : List (Str × MV)) (τ : Loc) (M : MH) | stuck
abbrev MS := Loc → MH → Out
def Res.out {α : Type} (r : Res α) (τ : Loc) (f : α → MH → Out) : Out := match r with
  | .ok a M => f a M
  | .ex c fs M => .ex c fs τ M
  | .stuck => .stuck
section
variable {K : PySem.W.Frag} {W : WX} {xi : Option XI} {ρ ρ' : Nat → Option Addr} {H H' : Hp} {σ : St} {τ : Loc} {M : MH}
/-- a place behind: the slots -/
def After (K : PySem.W.Frag) (xi : Option XI) (ρ : Nat → Option Addr) (H : Hp) (P : St → Hp → Prop) (τ : Loc) (M : MH) : Prop := ∀ ρ' H' σ', Ext ρ H ρ' H' → Sim K ρ' M H' → SR K xi ρ' H' τ σ' → P σ' H'
def SQ (K : PySem.W.Frag) (xi : Option XI) (W : WX) (ρ : Nat → Option Addr) (H : Hp) (D : Ends) : Out → Prop
  | .nx τ M => After K xi ρ H D.nx τ M
  | .rt v M => ∀ ρ' H' u, Ext ρ H ρ' H' → Sim K ρ' M H' → VR K ρ' H' v u → D.rt u H'
  | .bk τ M => After K xi ρ H D.bk τ M
  | .ct τ M => After K xi ρ H D.ct τ M
  | .ex c fs τ M => ∀ ρ' H' σ' d, Ext ρ H ρ' H' → Sim K ρ' M H' → SR K xi ρ' H' τ σ' → XR K ρ' H' fs d → W (.ref (He.ga K c)) d σ' H'
  | .stuck => False
theorem After.mono {P : St → Hp → Prop} (e : Ext ρ H ρ' H') (h : After K xi ρ H P τ M) : After K xi ρ' H' P τ M := fun r h' s e2 => h r h' s (e.trans e2)
theorem After.here {P : St → Hp → Prop} (h : After K xi ρ H P τ M) (S : Sim K ρ M H) (R : SR K xi ρ H τ σ) : P σ H := h ρ H σ Ext.refl S R
theorem SQ.mono {D : Ends} {o : Out} (e : Ext ρ H ρ' H') (h : SQ K xi W ρ H D o) : SQ K xi W ρ' H' D o := by
  cases o with
  | nx τ M => exact After.mono e h
  | rt v M => exact fun r h' u e2 => h r h' u (e.trans e2)
  | bk τ M => exact After.mono e h
  | ct τ M => exact After.mono e h
  | ex c fs τ M => exact fun r h' s d e2 => h r h' s d (e.trans e2)
  | stuck => exact h
theorem SQ.out {α β : Type} {rel : (Nat → Option Addr) → Hp → α → β → Prop} {D : Ends} {r : Res α} {f : α → MH → Out} {Q : β → Hp → Prop} (R : SR K xi ρ H τ σ) (h : SQ K xi W ρ H D (r.out τ f))
    (k : ∀ a M ρ' H' b, Ext ρ H ρ' H' → Sim K ρ' M H' → rel ρ' H' a b → SR K xi ρ' H' τ σ → SQ K xi W ρ' H' D (f a M) → Q b H') : QR K rel W σ ρ H Q r := by
  cases r with
  | ok a M => exact fun r h' b e s x => k a M r h' b e s x (R.mono e) (SQ.mono e h)
  | ex c fs M => exact fun r h' d e s x => h r h' σ d e s (R.mono e) x
  | stuck => exact h
def SS (K : PySem.W.Frag) (xi : Option XI) (W : WX) (t : TS) (m : MS) : Prop := ∀ ρ M H σ τ D, Sim K ρ M H → SR K xi ρ H τ σ → SQ K xi W ρ H D (m τ M) → t D σ H
end
/-! ### an expression means, a statement means -/
def DE (X : Cx) (xi : Option XI) (W : WX) (e : Expr) (m : ME) : Prop := ∃ t, PE X e t ∧ SE X.K xi W t m
def DT (X : Cx) (xi : Option XI) (W : WX) (e : Expr) (m : MB) : Prop := ∃ t, PT X e t ∧ ST X.K xi W t m
def DA (X : Cx) (xi : Option XI) (W : WX) (es : List Expr) (m : MA) : Prop := ∃ t, PA X es t ∧ SA X.K xi W t m
def DS (X : Cx) (xi : Option XI) (W : WX) (st : Stmt) (m : MS) : Prop := ∃ t, PS X st t ∧ SS X.K xi W t m
def DSs (X : Cx) (xi : Option XI) (W : WX) (st : List Stmt) (m : MS) : Prop := ∃ t, PSs X st t ∧ SS X.K xi W t m
/-- a target takes a value -/
abbrev MG := MV → Loc → MH → Res Loc
def GQ (K : PySem.W.Frag) (xi : Option XI) (ρ : Nat → Option Addr) (H : Hp) (Q : St → Hp → Prop) : Res MX.Loc → Prop
  | .ok τ M => After K xi ρ H Q τ M
  | _ => False
def SG (K : PySem.W.Frag) (xi : Option XI) (W : WX) (t : TG) (m : MG) : Prop := ∀ ρ M H σ τ v u Q, Sim K ρ M H → SR K xi ρ H τ σ → VR K ρ H v u → GQ K xi ρ H Q (m v τ M) → t u σ H Q
def DG (X : Cx) (xi : Option XI) (W : WX) (e : Expr) (m : MG) : Prop := ∃ t, PG X e t ∧ SG X.K xi W t m
section
variable {X : Cx} {xi : Option XI} {W : WX} {e a b c : Expr} {es : List Expr} {ma mb me : ME} {mA : MA} {mc mu : MB} {pos : Pos}
theorem de_never : DE X xi W e mNever := ⟨fun _ _ _ => False, ⟨fun _ _ _ _ _ _ h => h.elim⟩, se_never⟩
def mNeverT : MB := fun _ _ => .stuck
theorem dt_never : DT X xi W e mNeverT := ⟨fun _ _ _ => False, ⟨fun _ _ _ _ _ _ h => h.elim⟩, fun _ _ _ _ _ _ _ _ h => h⟩
def mNeverA : MA := fun _ _ => .stuck
theorem da_never : DA X xi W es mNeverA := ⟨fun _ _ _ => False, ⟨fun _ _ _ _ _ _ _ h => h.elim⟩, fun _ _ _ _ _ _ _ _ h => h⟩
def mNeverS : MS := fun _ _ => .stuck
theorem ds_never {st : Stmt} : DS X xi W st mNeverS := ⟨tNever, ps_never, fun _ _ _ _ _ _ _ _ h => h⟩
theorem dss_never {st : List Stmt} : DSs X xi W st mNeverS := ⟨tNever, pss_never, fun _ _ _ _ _ _ _ _ h => h⟩
def mNeverG : MG := fun _ _ _ => .stuck
theorem dg_never : DG X xi W e mNeverG := ⟨fun _ _ _ _ => False, ⟨fun _ _ _ _ _ _ _ _ _ h => h.elim⟩, fun _ _ _ _ _ _ _ _ _ _ _ h => h⟩

theorem da_nil : DA X xi W [] mNil := ⟨tNil, pa_nil, sa_nil⟩
theorem da_cons (ha : DE X xi W e me) (hr : DA X xi W es mA) (hs : starEach (e :: es) X.env = (false, eval e X.env) :: starEach es X.env) : DA X xi W (e :: es) (mCons me mA) := by
  obtain ⟨t, p, s⟩ := ha
  obtain ⟨u, q, r⟩ := hr
  exact ⟨_, pa_cons p q hs, sa_cons s r⟩
theorem de_op {op : Operator} {r : R2} {f : MV → MV → MH → Res MV} (ho : OpR X (binaryOp op) r) (hf : S2 X.K W r f) (ha : DE X xi W a ma) (hb : DE X xi W b mb) : DE X xi W (.BinOp a op b pos) (m2 f ma mb) := by
  obtain ⟨t, p, s⟩ := ha
  obtain ⟨u, q, r'⟩ := hb
  exact ⟨_, pe_op ho p q, se_2 hf s r'⟩
theorem de_cmp {op : CmpOp} {r : R2} {f : MV → MV → MH → Res MV} (ho : OpR X (compareOp op) r) (hf : S2 X.K W r f) (ha : DE X xi W a ma) (hb : DE X xi W b mb) (hm : behindInMarks op b = false) : DE X xi W (.Compare a [op] [b] pos) (m2 f ma mb) := by
  obtain ⟨t, p, s⟩ := ha
  obtain ⟨u, q, r'⟩ := hb
  exact ⟨_, pe_cmpR ho p q hm, se_2 hf s r'⟩
theorem dt_cmp {op : CmpOp} {r : R2} {f : MV → MV → MH → Res MV} (ho : OpR X (compareOp op) r) (hf : S2 X.K W r f) (ha : DE X xi W a ma) (hb : DE X xi W b mb) (hm : behindInMarks op b = false) : DT X xi W (.Compare a [op] [b] pos) (mTest (m2 f ma mb)) := by
  obtain ⟨t, p, s⟩ := ha
  obtain ⟨u, q, r'⟩ := hb
  exact ⟨_, pt_cmpR ho p q hm, st_test (se_2 hf s r')⟩
theorem de_if (hc : DT X xi W c mc) (ha : DE X xi W a ma) (hb : DE X xi W b mb) : DE X xi W (.IfExp c a b pos) (mIf mc ma mb) := by
  obtain ⟨t, p, s⟩ := ha
  obtain ⟨u, q, r⟩ := hb
  obtain ⟨v, w, z⟩ := hc
  exact ⟨_, pe_ifExp w p q, se_if z s r⟩
theorem dt_not (ha : DT X xi W a mc) : DT X xi W (.UnaryOp .Not a pos) (mNot mc) := by
  obtain ⟨t, p, s⟩ := ha
  exact ⟨_, pt_not p, st_not s⟩

/-! ### truth -/
def truM (M : MH) : MV → Option Bool
  | .non => some false
  | .bl b => some b
  | .int i => some (i != 0)
  | .str x => if x.length ≤ 16777216 then some (!x.isEmpty) else none
  | .tup xs => some (!xs.isEmpty)
  | .fro xs => some (!xs.isEmpty)
  | .ref i => match M.get i with
    | some (.lst xs) => some (!xs.isEmpty)
    | _ => none
  | _ => none
theorem VRs.empty {K : PySem.W.Frag} {ρ : Nat → Option Addr} {H : Hp} {xs : List MV} {ys : List V} (r : VRs K ρ H xs ys) : xs.isEmpty = ys.isEmpty := by
  cases r <;> rfl
theorem truM_ok {K : PySem.W.Frag} {ρ : Nat → Option Addr} {H : Hp} {M : MH} {x : MV} {u : V} {k : Bool} (S : Sim K ρ M H) (r : VR K ρ H x u) (h : truM M x = some k) : TruV K u H k := by
  unfold truM at h
  split at h
  · cases r; exact (Option.some.inj h).symm
  · cases r; exact (Option.some.inj h).symm
  · cases r; exact (Option.some.inj h).symm
  · cases r
    split at h
    · rename_i x c
      refine ⟨by rw [str_len]; exact le_line c, ?_⟩
      rw [str_len, ← Option.some.inj h]
      cases x with
      | nil => rfl
      | cons y ys =>
        show true = (((ys.length + 1 : Nat) : Int) != 0)
        exact (bne_iff_ne.mpr (by omega)).symm
    · cases h
  · cases r with
    | tup q rs => exact .inr (.inl ⟨_, q, by rw [← rs.empty]; exact (Option.some.inj h).symm⟩)
  · cases r with
    | fro q rs => exact .inl ⟨_, q.l, by rw [← rs.empty]; exact (Option.some.inj h).symm⟩
  · split at h
    · rename_i xs e
      cases r with
      | ref q =>
        obtain ⟨o, g, r⟩ := S.at_ q
        rw [e] at g
        cases g
        obtain ⟨ys, h1, rs⟩ := r
        exact .inl ⟨_, SqL.of h1, by rw [← rs.empty]; exact (Option.some.inj h).symm⟩
    · cases h
  · cases h
def mTru (a : ME) : MB := fun τ M => (a τ M).bind fun x M => match truM M x with
  | some b => .ok b M
  | none => .stuck
theorem dt_tru (ha : DE X xi W e me) (he : ∀ whole, isTrue e X.env whole = (do let v ← whole; standAt e.pos; holding [v] (truthy v))) : DT X xi W e (mTru me) := by
  obtain ⟨t, p, s⟩ := ha
  refine ⟨_, pt_truth p he, fun ρ M H σ τ Q S R h => s ρ M H σ τ _ S R (QR.bind h fun x M1 ρ1 H1 u e1 S1 r1 h1 => ?_)⟩
  split at h1
  · rename_i b eb
    exact ⟨b, truM_ok S1 r1 eb, h1.here S1 rfl⟩
  · exact h1.elim
/-- a or b, a and b: the value -/
def mOrV (a b : ME) : ME := fun τ M => (a τ M).bind fun x M => match truM M x with
  | some k => if k = true then .ok x M else b τ M
  | none => .stuck
def mAndV (a b : ME) : ME := fun τ M => (a τ M).bind fun x M => match truM M x with
  | some k => if k = true then b τ M else .ok x M
  | none => .stuck
theorem de_one {op : PySem.BoolOp} (ha : DE X xi W a ma) : DE X xi W (.BoolOp op [a] pos) ma := by
  obtain ⟨t, p, s⟩ := ha
  exact ⟨_, pe_one p, s⟩
theorem de_or {rest : List Expr} (ha : DE X xi W a ma) (hb : DE X xi W (.BoolOp .Or (b :: rest) pos) mb) : DE X xi W (.BoolOp .Or (a :: b :: rest) pos) (mOrV ma mb) := by
  obtain ⟨t, p, s⟩ := ha
  obtain ⟨u, q, r⟩ := hb
  refine ⟨_, pe_orT p q, fun ρ M H σ τ Q S R h => s ρ M H σ τ _ S R (QR.bind h fun x M1 ρ1 H1 v e1 S1 r1 h1 => ?_)⟩
  split at h1
  · rename_i k ek
    refine ⟨k, truM_ok S1 r1 ek, ?_⟩
    by_cases z : k = true
    · rw [if_pos z] at h1 ⊢; exact h1.here S1 r1
    · rw [if_neg z] at h1 ⊢; exact r ρ1 M1 H1 σ τ Q S1 (R.mono e1) h1
  · exact h1.elim
theorem de_and {rest : List Expr} (ha : DE X xi W a ma) (hb : DE X xi W (.BoolOp .And (b :: rest) pos) mb) : DE X xi W (.BoolOp .And (a :: b :: rest) pos) (mAndV ma mb) := by
  obtain ⟨t, p, s⟩ := ha
  obtain ⟨u, q, r⟩ := hb
  refine ⟨_, pe_andT p q, fun ρ M H σ τ Q S R h => s ρ M H σ τ _ S R (QR.bind h fun x M1 ρ1 H1 v e1 S1 r1 h1 => ?_)⟩
  split at h1
  · rename_i k ek
    refine ⟨k, truM_ok S1 r1 ek, ?_⟩
    by_cases z : k = true
    · rw [if_pos z] at h1 ⊢; exact r ρ1 M1 H1 σ τ Q S1 (R.mono e1) h1
    · rw [if_neg z] at h1 ⊢; exact h1.here S1 r1
  · exact h1.elim
def mNotV (a : ME) : ME := fun τ M => (a τ M).bind fun x M => match truM M x with
  | some k => .ok (.bl (!k)) M
  | none => .stuck
theorem de_not (ha : DE X xi W a ma) : DE X xi W (.UnaryOp .Not a pos) (mNotV ma) := by
  obtain ⟨t, p, s⟩ := ha
  refine ⟨_, pe_notT p, fun ρ M H σ τ Q S R h => s ρ M H σ τ _ S R (QR.bind h fun x M1 ρ1 H1 v e1 S1 r1 h1 => ?_)⟩
  split at h1
  · rename_i k ek
    exact ⟨k, truM_ok S1 r1 ek, h1.here S1 (.bl _)⟩
  · exact h1.elim
/-- tests of and, or -/
def DW (X : Cx) (xi : Option XI) (W : WX) (e : Expr) (m : MB) : Prop := ∃ t, PW X e t ∧ ST X.K xi W t m
theorem DW.dt (h : DW X xi W e mc) : DT X xi W e mc := by
  obtain ⟨t, p, s⟩ := h
  exact ⟨t, p.pt, s⟩
theorem dw_and1 (h : DT X xi W a mc) : DW X xi W (.BoolOp .And [a] pos) mc := by
  obtain ⟨t, p, s⟩ := h
  exact ⟨t, pw_and1 p, s⟩
theorem dw_or1 (h : DT X xi W a mc) : DW X xi W (.BoolOp .Or [a] pos) mc := by
  obtain ⟨t, p, s⟩ := h
  exact ⟨t, pw_or1 p, s⟩
theorem dw_and {rest : List Expr} (ha : DT X xi W a mc) (hb : DW X xi W (.BoolOp .And (b :: rest) pos) mu) : DW X xi W (.BoolOp .And (a :: b :: rest) pos) (mAnd mc mu) := by
  obtain ⟨t, p, s⟩ := ha
  obtain ⟨u, q, r⟩ := hb
  exact ⟨_, pw_and p q, st_and s r⟩
theorem dw_or {rest : List Expr} (ha : DT X xi W a mc) (hb : DW X xi W (.BoolOp .Or (b :: rest) pos) mu) : DW X xi W (.BoolOp .Or (a :: b :: rest) pos) (mOr mc mu) := by
  obtain ⟨t, p, s⟩ := ha
  obtain ⟨u, q, r⟩ := hb
  exact ⟨_, pw_or p q, st_or s r⟩
end
end MX
end
section
set_option Elab.async false
set_option linter.all false
set_option maxRecDepth 100000
set_option maxHeartbeats 1000000
/-! MX7: small statements, fields, targets. -/
namespace MX
open PySem PySem.Spec L2
section
variable {X : Cx} {xi : Option XI} {W : WX} {e a b c o : Expr} {es : List Expr} {ma mb me mo : ME} {mA : MA} {mc mu : MB} {pos p' : Pos} {st : Stmt} {sts : List Stmt} {m1' m2' : MS}
/-! ### blocks -/
def mNext : MS := fun τ M => .nx τ M
def mSeq (a b : MS) : MS := fun τ M => match a τ M with
  | .nx τ M => b τ M
  | o => o
theorem dss_nil : DSs X xi W [] mNext := ⟨tNext, pss_nil, fun ρ M H σ τ D S R h => After.here h S R⟩
theorem dss_cons (ha : DS X xi W st m1') (hb : DSs X xi W sts m2') : DSs X xi W (st :: sts) (mSeq m1' m2') := by
  obtain ⟨t, p, s⟩ := ha
  obtain ⟨u, q, r⟩ := hb
  refine ⟨_, pss_cons p q, fun ρ M H σ τ D S R h => s ρ M H σ τ _ S R ?_⟩
  unfold mSeq at h
  generalize m1' τ M = w at h ⊢
  cases w with
  | nx τ1 M1 => exact fun ρ1 H1 σ1 e1 S1 R1 => r ρ1 M1 H1 σ1 τ1 D S1 R1 (SQ.mono e1 h)
  | rt v M1 => exact h
  | bk τ1 M1 => exact h
  | ct τ1 M1 => exact h
  | ex c fs τ1 M1 => exact h
  | stuck => exact h
theorem ds_pass : DS X xi W (.Pass pos) mNext := ⟨tNext, ps_pass, fun ρ M H σ τ D S R h => After.here h S R⟩
theorem ds_doc {x : Str} {j : Nat} {pos' : Pos} : DS X xi W (.Expr (.Constant (.str x) j pos) pos') mNext := ⟨tNext, ps_doc, fun ρ M H σ τ D S R h => After.here h S R⟩
def mBreak : MS := fun τ M => .bk τ M
def mCont : MS := fun τ M => .ct τ M
theorem ds_break : DS X xi W (.Break pos) mBreak := ⟨tBreak, ps_break, fun ρ M H σ τ D S R h => After.here (P := D.bk) h S R⟩
theorem ds_cont : DS X xi W (.Continue pos) mCont := ⟨tCont, ps_continue, fun ρ M H σ τ D S R h => After.here (P := D.ct) h S R⟩
def mDrop (a : ME) : MS := fun τ M => (a τ M).out τ fun _ M => .nx τ M
theorem ds_expr (ha : DE X xi W e me) (hs : swapsWith e none pos.line X.env = pure false) : DS X xi W (.Expr e pos) (mDrop me) := by
  obtain ⟨t, p, s⟩ := ha
  exact ⟨_, ps_expr p hs, fun ρ M H σ τ D S R h => s ρ M H σ τ _ S R (SQ.out R h fun x M1 ρ1 H1 u e1 S1 r1 R1 h1 => After.here h1 S1 R1)⟩
def mRet (a : ME) : MS := fun τ M => (a τ M).out τ fun v M => .rt v M
theorem ds_ret (ha : DE X xi W e me) : DS X xi W (.Return (some e) pos) (mRet me) := by
  obtain ⟨t, p, s⟩ := ha
  exact ⟨_, ps_ret p, fun ρ M H σ τ D S R h => s ρ M H σ τ _ S R (SQ.out R h fun x M1 ρ1 H1 u e1 S1 r1 R1 h1 => h1 ρ1 H1 u Ext.refl S1 r1)⟩
def mRetN : MS := fun _ M => .rt .non M
theorem ds_retN : DS X xi W (.Return none pos) mRetN := ⟨_, ps_retN, fun ρ M H σ τ D S R h => h ρ H .non Ext.refl S .non⟩
def mIfS (c : MB) (a b : MS) : MS := fun τ M => (c τ M).out τ fun k M => if k = true then a τ M else b τ M
theorem ds_if {as bs : List Stmt} (hc : DT X xi W c mc) (ha : DSs X xi W as m1') (hb : DSs X xi W bs m2') : DS X xi W (.If c as bs pos) (mIfS mc m1' m2') := by
  obtain ⟨v, w, z⟩ := hc
  obtain ⟨t, p, s⟩ := ha
  obtain ⟨u, q, r⟩ := hb
  refine ⟨_, ps_if w p q, fun ρ M H σ τ D S R h => z ρ M H σ τ _ S R (SQ.out R h fun k M1 ρ1 H1 k' e1 S1 r1 R1 h1 => ?_)⟩
  obtain rfl : k = k' := r1
  by_cases c : k = true
  · rw [if_pos c] at h1 ⊢; exact s ρ1 M1 H1 σ τ D S1 R1 h1
  · rw [if_neg c] at h1 ⊢; exact r ρ1 M1 H1 σ τ D S1 R1 h1

/-! ### targets -/
theorem GQ.mono {K : PySem.W.Frag} {ρ ρ' : Nat → Option Addr} {H H' : Hp} {Q : St → Hp → Prop} {r : Res Loc} (e : Ext ρ H ρ' H') (h : GQ K xi ρ H Q r) : GQ K xi ρ' H' Q r := by
  cases r with
  | ok τ M => exact After.mono e h
  | ex c fs M => exact h
  | stuck => exact h
theorem GQ.bind {K : PySem.W.Frag} {ρ : Nat → Option Addr} {H : Hp} {Q P : St → Hp → Prop} {r : Res Loc} {f : Loc → MH → Res Loc} (h : GQ K xi ρ H Q (r.bind f))
    (k : ∀ τ M ρ' H' σ', Ext ρ H ρ' H' → Sim K ρ' M H' → SR K xi ρ' H' τ σ' → GQ K xi ρ' H' Q (f τ M) → P σ' H') : GQ K xi ρ H P r := by
  cases r with
  | ok τ M => exact fun ρ' H' σ' e s x => k τ M ρ' H' σ' e s x (GQ.mono e h)
  | ex c fs M => exact h
  | stuck => exact h
def gSet (i : Nat) : MG := fun v τ M => .ok (τ.set i (.va v)) M
theorem dg_name {i : Nat} {x : Str} (hN : X.N.Nodup) (hi : X.N[i]? = some x) (hx : L2.Loc X.env.scope x) (hf : X.fn x = true ∨ X.env.scope.names.lookup x = some .local) : DG X xi W (.Name x pos) (gSet i) :=
  ⟨_, pg_name hN hi hx hf, fun ρ M H σ τ v u Q S R r h => After.here (P := Q) h S (R.set i ⟨u, rfl, r⟩)⟩
/-- several targets -/
def gAll : List MG → List MV → Loc → MH → Res Loc
  | [], [], τ, M => .ok τ M
  | g :: gs, v :: vs, τ, M => (g v τ M).bind fun τ M => gAll gs vs τ M
  | _, _, _, _ => .stuck
def SGs (K : PySem.W.Frag) (xi : Option XI) (W : WX) (t : TGs) (m : List MG) : Prop := ∀ ρ M H σ τ vs us Q, Sim K ρ M H → SR K xi ρ H τ σ → VRs K ρ H vs us → GQ K xi ρ H Q (gAll m vs τ M) → t us σ H Q
def DGs (X : Cx) (xi : Option XI) (W : WX) (es : List Expr) (m : List MG) : Prop := ∃ t, PGs X es t ∧ SGs X.K xi W t m
theorem dgs_nil : DGs X xi W [] [] := ⟨_, pgs_nil, fun ρ M H σ τ vs us Q S R r h => by
  cases vs with
  | nil => cases r; exact ⟨rfl, After.here (P := Q) h S R⟩
  | cons v vs => exact h.elim⟩
theorem dgs_cons {g : MG} {gs : List MG} (ha : DG X xi W e g) (hb : DGs X xi W es gs) (hs : (assignEach (e :: es) X.env).map (·.2) = assign e X.env :: (assignEach es X.env).map (·.2)) : DGs X xi W (e :: es) (g :: gs) := by
  obtain ⟨t, p, s⟩ := ha
  obtain ⟨u, q, r⟩ := hb
  refine ⟨_, pgs_cons p q hs, fun ρ M H σ τ vs us Q S R rv h => ?_⟩
  cases rv with
  | nil => exact h.elim
  | cons r1 rs => exact ⟨_, _, rfl, s _ _ _ _ _ _ _ _ S R r1 (GQ.bind h fun τ1 M1 ρ1 H1 σ1 e1 S1 R1 h1 => r ρ1 M1 H1 σ1 τ1 _ _ Q S1 R1 (rs.mono e1) h1)⟩
/-- what is unpacked -/
def itemsOf (M : MH) : MV → Option (List MV)
  | .tup xs => some xs
  | .fro xs => some xs
  | .ref i => match M.get i with
    | some (.lst xs) => some xs
    | _ => none
  | _ => none
def gUnp (gs : List MG) : MG := fun v τ M => match itemsOf M v with
  | some xs => gAll gs xs τ M
  | none => .stuck
theorem gAll_len {gs : List MG} : ∀ {vs : List MV} {τ : Loc} {M : MH} {K : PySem.W.Frag} {ρ : Nat → Option Addr} {H : Hp} {Q : St → Hp → Prop}, GQ K xi ρ H Q (gAll gs vs τ M) → vs.length = gs.length := by
  induction gs with
  | nil =>
    intro vs τ M K ρ H Q h
    cases vs with
    | nil => rfl
    | cons v vs => exact h.elim
  | cons g gs ih =>
    intro vs τ M K ρ H Q h
    cases vs with
    | nil => exact h.elim
    | cons v vs =>
      unfold gAll at h
      cases e : g v τ M with
      | ok τ1 M1 =>
        rw [e] at h
        exact congrArg (· + 1) (ih (Q := Q) (show GQ K xi ρ H Q (gAll gs vs τ1 M1) from h))
      | ex c fs M1 => rw [e] at h; exact h.elim
      | stuck => rw [e] at h; exact h.elim
theorem dgs_len {es : List Expr} {gs : List MG} {env : Env} (hn : (assignEach es env).length = gs.length) : (assignEach es env).length = gs.length := hn
theorem pg_or {g1 g2 : TG} (h1 : PG X e g1) (h2 : PG X e g2) : PG X e (fun v σ H Q => g1 v σ H Q ∨ g2 v σ H Q) := ⟨fun pins s σ H v u Q I r h => by
  rcases h with h | h
  · exact h1.run pins s σ H v u Q I r h
  · exact h2.run pins s σ H v u Q I r h⟩
theorem dg_tup {gs : List MG} {k : Nat} (hc : X.calm = true) (h : DGs X xi W es gs) (hn : (assignEach es X.env).length = gs.length) (hst : (assignEach es X.env).findIdx? (·.1) = none) : DG X xi W (.Tuple es k pos) (gUnp gs) := by
  obtain ⟨t, p, s⟩ := h
  refine ⟨_, pg_or (pg_tup hc p hn hst) (pg_lst hc p hn hst), fun ρ M H σ τ v u Q S R r h => ?_⟩
  unfold gUnp at h
  split at h
  · rename_i xs e
    have hl := gAll_len h
    unfold itemsOf at e
    split at e
    · cases e
      cases r with
      | tup q rs => exact .inl ⟨_, _, rfl, q, by rw [← rs.length]; exact hl, s ρ M H σ τ _ _ Q S R rs h⟩
    · cases e
      cases r with
      | fro q rs => exact .inr ⟨_, _, rfl, q.l, by rw [← rs.length]; exact hl, s ρ M H σ τ _ _ Q S R rs h⟩
    · split at e
      · rename_i ys e2
        cases e
        cases r with
        | ref q =>
          obtain ⟨o, g, r⟩ := S.at_ q
          rw [e2] at g
          cases g
          obtain ⟨zs, h1, rs⟩ := r
          exact .inr ⟨_, _, rfl, SqL.of h1, by rw [← rs.length]; exact hl, s ρ M H σ τ _ _ Q S R rs h⟩
      · cases e
    · cases e
  · exact h.elim
/-- target = value -/
def mAsg (a : ME) (g : MG) : MS := fun τ M => (a τ M).out τ fun v M => match g v τ M with
  | .ok τ M => .nx τ M
  | _ => .stuck
theorem asg_ok {K : PySem.W.Frag} {t : TE} {g : TG} {ma : ME} {mg : MG} (s : SE K xi W t ma) (z : SG K xi W g mg) : SS K xi W (tAsg t g) (mAsg ma mg) := fun ρ M H σ τ D S R h =>
  s ρ M H σ τ _ S R (SQ.out R h fun x M1 ρ1 H1 u e1 S1 r1 R1 h1 => z _ _ _ _ _ _ _ _ S1 R1 r1 (by
    split at h1
    · rename_i eq
      rw [eq]
      exact h1
    · exact h1.elim))
theorem ds_asg {g : MG} {tg : Expr} (ha : DE X xi W e me) (hg : DG X xi W tg g) (hs : swapsWithSole [tg] e pos.line X.env = pure false) (hw : swappedStores [tg] e X.env = pure none)
    (h1 : (assignEach [tg] X.env).map (·.2) = [assign tg X.env]) : DS X xi W (.Assign [tg] e pos) (mAsg me g) := by
  obtain ⟨t, p, s⟩ := ha
  obtain ⟨u, q, r⟩ := hg
  exact ⟨_, ps_asg p q hs hw h1, asg_ok s r⟩
theorem ds_set {i : Nat} {x : Str} (hN : X.N.Nodup) (hi : X.N[i]? = some x) (hx : L2.Loc X.env.scope x) (ha : DE X xi W e me) (hs : swapsWith e (some (.Name x p')) pos.line X.env = pure false) (hf : X.fn x = true ∨ X.env.scope.names.lookup x = some .local) :
    DS X xi W (.Assign [.Name x p'] e pos) (mAsg me (gSet i)) := by
  obtain ⟨t, p, s⟩ := ha
  exact ⟨_, ps_set hN hi hx p hs hf, asg_ok s (fun ρ M H σ τ v u Q S R r h => After.here (P := Q) h S (R.set i ⟨u, rfl, r⟩))⟩
/-! ### name op= value -/
def IpR (X : Cx) (W : WX) (op : Operator) (f : MV → MV → MH → Res MV) : Prop := ∃ r, PIp X op r ∧ S2 X.K W r f
def mAug (i : Nat) (f : MV → MV → MH → Res MV) (a : ME) : MS := fun τ M => match τ[i]? with
  | some (.va x) => (a τ M).out τ fun y M => (f x y M).out τ fun z M => .nx (τ.set i (.va z)) M
  | _ => .stuck
theorem ds_aug {i : Nat} {x : Str} {op : Operator} {f : MV → MV → MH → Res MV} (hN : X.N.Nodup) (hi : X.N[i]? = some x) (hx : L2.Loc X.env.scope x) (ha : DE X xi W e me) (ho : IpR X W op f) (hf : X.fn x = true ∨ X.env.scope.names.lookup x = some .local) :
    DS X xi W (.AugAssign (.Name x p') op e pos) (mAug i f me) := by
  obtain ⟨t, p, s⟩ := ha
  obtain ⟨r, q, z⟩ := ho
  refine ⟨_, ps_aug hN hi hx p q hf, fun ρ M H σ τ D S R h => ?_⟩
  unfold mAug at h
  split at h
  · rename_i v ev
    obtain ⟨u, h1, h2⟩ := R.var ev
    exact ⟨u, h1, s ρ M H σ τ _ S R (SQ.out R h fun y M1 ρ1 H1 w e1 S1 r1 R1 k1 => z ρ1 M1 H1 σ v y u w _ S1 (h2.mono e1) r1 (SQ.out R1 k1 fun k M2 ρ2 H2 w2 e2 S2 r2 R2 k2 => After.here k2 S2 (R2.set i ⟨w2, rfl, r2⟩)))⟩
  · exact h.elim
/-! ### fields of instances -/
/-- the classes whose instances' fields are plain -/
structure Fd where
  fld : Str → Str → Bool
structure FdOk (K : PySem.W.Frag) (F : Fd) : Prop where
  ok : ∀ C f, F.fld C f = true → Cls K (He.ga K C) ∧ NoAttr K (He.ga K C) f
def mFld (F : Fd) (f : Str) (a : ME) : ME := fun τ M => (a τ M).bind fun x M => match x with
  | .ref i => (match M.get i with
    | some (.ins C fs) => if F.fld C f = true then (match fs.lookup f with
      | some v => .ok v M
      | none => .stuck) else .stuck
    | _ => .stuck)
  | _ => .stuck
theorem de_fld {F : Fd} {f : Str} (hF : FdOk X.K F) (ha : DE X xi W o mo) (hb : attributeBase o f X.env (eval o X.env) = eval o X.env) : DE X xi W (.Attribute o f pos) (mFld F f mo) := by
  obtain ⟨t, p, s⟩ := ha
  refine ⟨_, pe_fld p hb, fun ρ M H σ τ Q S R h => s ρ M H σ τ _ S R (QR.bind h fun x M1 ρ1 H1 u e1 S1 r1 h1 => ?_)⟩
  split at h1
  · rename_i i
    split at h1
    · rename_i C fs eo
      split at h1
      · rename_i hc
        split at h1
        · rename_i v ev
          cases r1 with
          | ref q =>
            obtain ⟨o', g, r⟩ := S1.at_ q
            rw [eo] at g
            cases g
            obtain ⟨dx, gs, k1, k2⟩ := r
            obtain ⟨w, k3, k4⟩ := (k2.lookup (f := f)).1 v ev
            obtain ⟨c1, c2⟩ := hF.ok C f hc
            exact ⟨_, _, dx, gs, w, rfl, k1, c1, c2, k3, h1.here S1 k4⟩
        · exact h1.elim
      · exact h1.elim
    · exact h1.elim
  · exact h1.elim
theorem FR.put {K : PySem.W.Frag} {ρ : Nat → Option Addr} {H : Hp} {f : Str} {x : MV} {y : V} (r : VR K ρ H x y) : ∀ {v : List (Str × MV)} {u : List (Str × V)}, FR K ρ H v u → FR K ρ H (putM f x v) (putF f y u)
  | _, _, .nil => .cons r .nil
  | _, _, .cons (f := g) q rs => by
    unfold putM putF
    by_cases e : g = f
    · rw [if_pos e, if_pos e]; exact .cons r rs
    · rw [if_neg e, if_neg e]; exact .cons q (FR.put r rs)
/-- the field put -/
def putO (F : Fd) (f : Str) (x v : MV) (M : MH) : Option MH := match x with
  | .ref i => (match M.get i with
    | some (.ins C fs) => if (F.fld C f && decide (fs.length < 1000)) = true then some (M.set i (.ins C (putM f v fs))) else none
    | _ => none)
  | _ => none
theorem putO_ok {K : PySem.W.Frag} {F : Fd} (hF : FdOk K F) {f : Str} {x v : MV} {M M' : MH} {ρ : Nat → Option Addr} {H : Hp} {u w : V} (S : Sim K ρ M H) (rx : VR K ρ H x u) (rv : VR K ρ H v w) (h : putO F f x v M = some M') :
    ∃ a C dx fs, u = .ref a ∧ H a = some (.ins C dx fs) ∧ Cls K C ∧ NoAttr K C f ∧ fs.length < 1000 ∧ Ext ρ H ρ (upd H a (.ins C dx (putF f w fs))) ∧ Sim K ρ M' (upd H a (.ins C dx (putF f w fs))) := by
  unfold putO at h
  split at h
  · rename_i i
    split at h
    · rename_i C fs eo
      split at h
      · rename_i hc
        cases h
        rw [Bool.and_eq_true, decide_eq_true_eq] at hc
        cases rx with
        | ref q =>
          obtain ⟨o', g, r⟩ := S.at_ q
          have g0 := g
          rw [eo] at g
          cases g
          obtain ⟨dx, gs, k1, k2⟩ := r
          obtain ⟨c1, c2⟩ := hF.ok C f hc.1
          rename_i a
          have e0 : Ext ρ H ρ (upd H a (.ins (He.ga K C) dx (putF f w gs))) := by
            have ne : ∀ {b : Addr} {z : HO}, H b = some z → (∀ C dx gs, z ≠ .ins C dx gs) → b ≠ a := fun {b z} hz n e => by
              rw [e, k1] at hz
              cases hz
              exact n _ _ _ rfl
            exact ⟨fun _ _ h => h, fun b xs h => by rw [upd_ne (ne h fun _ _ _ e => nomatch e)]; exact h, fun b o u h => by rw [upd_ne (ne h fun _ _ _ e => nomatch e)]; exact h, fun b fs h => by rw [upd_ne (ne h fun _ _ _ e => nomatch e)]; exact h⟩
          obtain ⟨E, S'⟩ := S.write (o' := .ins C (putM f v fs)) (ho := .ins (He.ga K C) dx (putF f w gs)) g0 q k1 (.inr ⟨_, _, _, rfl⟩) ⟨dx, _, upd_same, (FR.put rv k2).mono e0⟩
          exact ⟨_, _, dx, gs, rfl, k1, c1, c2, by rw [← k2.length]; exact hc.2, E, S'⟩
      · cases h
    · cases h
  · cases h
def mFldSet (F : Fd) (f : Str) (o a : ME) : MS := fun τ M => (a τ M).out τ fun v M => (o τ M).out τ fun x M => match putO F f x v M with
  | some M => .nx τ M
  | none => .stuck
theorem ds_fld {F : Fd} {f : Str} (hF : FdOk X.K F) (ho : DE X xi W o mo) (ha : DE X xi W e me) (hs : swapsWith e (some (.Attribute o f p')) pos.line X.env = pure false) : DS X xi W (.Assign [.Attribute o f p'] e pos) (mFldSet F f mo me) := by
  obtain ⟨t, p, s⟩ := ho
  obtain ⟨u, q, z⟩ := ha
  refine ⟨_, ps_fld p q hs, fun ρ M H σ τ D S R h => z ρ M H σ τ _ S R (SQ.out R h fun v M1 ρ1 H1 w e1 S1 r1 R1 h1 => s ρ1 M1 H1 σ τ _ S1 R1 (SQ.out R1 h1 fun x M2 ρ2 H2 y e2 S2 r2 R2 h2 => ?_))⟩
  split at h2
  · rename_i M3 eq
    obtain ⟨a, C, dx, fs, k1, k2, k3, k4, k5, E, S3⟩ := putO_ok hF S2 r2 (r1.mono e2) eq
    exact ⟨a, C, dx, fs, k1, k2, k3, k4, k5, h2 _ _ _ E S3 (R2.mono E)⟩
  · exact h2.elim
def IoR (X : Cx) (W : WX) (op : Operator) (f : MV → MV → MH → Res MV) : Prop := ∃ r, InOp X op r ∧ S2 X.K W r f
def clsAt (M : MH) (i : Nat) (C : Str) : Bool := match M.get i with
  | some (.ins D _) => decide (D = C)
  | _ => false
def mFldAug (F : Fd) (f : Str) (g : MV → MV → MH → Res MV) (o a : ME) : MS := fun τ M => (o τ M).out τ fun x M => match x with
  | .ref i => (match M.get i with
    | some (.ins C fs) => if F.fld C f = true then (match fs.lookup f with
      | some v => (a τ M).out τ fun y M => (g v y M).out τ fun z M => if clsAt M i C = true then (match putO F f (.ref i) z M with
        | some M => .nx τ M
        | none => .stuck) else .stuck
      | none => .stuck) else .stuck
    | _ => .stuck)
  | _ => .stuck
theorem ds_fldaug {F : Fd} {f : Str} {op : Operator} {g : MV → MV → MH → Res MV} (hF : FdOk X.K F) (ho : DE X xi W o mo) (ha : DE X xi W e me) (hg : IoR X W op g) : DS X xi W (.AugAssign (.Attribute o f p') op e pos) (mFldAug F f g mo me) := by
  obtain ⟨t, p, s⟩ := ho
  obtain ⟨u, q, z⟩ := ha
  obtain ⟨rd, k, l⟩ := hg
  refine ⟨_, ps_fldaug p q k, fun ρ M H σ τ D S R h => s ρ M H σ τ _ S R (SQ.out R h fun x M1 ρ1 H1 w e1 S1 r1 R1 h1 => ?_)⟩
  split at h1
  · rename_i i
    split at h1
    · rename_i C fs eo
      split at h1
      · rename_i hc
        split at h1
        · rename_i v ev
          have r1' := r1
          cases r1 with
          | ref q1 =>
            obtain ⟨o', g', r⟩ := S1.at_ q1
            rw [eo] at g'
            cases g'
            obtain ⟨dx, gs, k1, k2⟩ := r
            obtain ⟨w', k3, k4⟩ := (k2.lookup (f := f)).1 v ev
            obtain ⟨c1, c2⟩ := hF.ok C f hc
            refine ⟨_, _, dx, gs, w', rfl, k1, c1, c2, k3, z ρ1 M1 H1 σ τ _ S1 R1 (SQ.out R1 h1 fun y M2 ρ2 H2 w2 e2 S2 r2 R2 h2 => ?_)⟩
            refine l ρ2 M2 H2 σ v y w' w2 _ S2 (k4.mono e2) r2 (SQ.out R2 h2 fun z2 M3 ρ3 H3 w3 e3 S3 r3 R3 h3 => ?_)
            split at h3
            · rename_i hk
              split at h3
              · rename_i M4 eq
                obtain ⟨a, C', dx', fs', j1, j2, j3, j4, j5, E, S4⟩ := putO_ok hF S3 ((r1'.mono e2).mono e3) r3 eq
                injection j1 with j1
                subst j1
                have ec : C' = He.ga X.K C := by
                  obtain ⟨o3, g3, r3'⟩ := S3.at_ (e3.r _ _ (e2.r _ _ q1))
                  unfold clsAt at hk
                  rw [g3] at hk
                  cases o3 with
                  | lst xs => cases hk
                  | ins C3 fs3 =>
                    obtain ⟨dx3, gs3, l1, _⟩ := r3'
                    rw [l1] at j2
                    cases j2
                    rw [of_decide_eq_true hk]
                subst ec
                exact ⟨dx', fs', j2, j5, h3 _ _ _ E S4 (R3.mono E)⟩
              · exact h3.elim
            · exact h3.elim
        · exact h1.elim
      · exact h1.elim
    · exact h1.elim
  · exact h1.elim
end
end MX
end
section
set_option Elab.async false
set_option linter.all false
set_option maxRecDepth 100000
set_option maxHeartbeats 1000000
/-! MX8: loops. -/
namespace MX
open PySem PySem.Spec L2
/-- what a loop walks: a list as it stands, values, numbers -/
inductive Wk where
  | lst (i : Nat) | fix (xs : List MV) | rng (lo : Int) (n : Nat)
def nextM : Wk → Nat → MH → Option (Option MV)
  | .lst p, i, M => (match M.get p with
    | some (.lst xs) => some xs[i]?
    | _ => none)
  | .fix xs, i, _ => some xs[i]?
  | .rng lo n, i, _ => if i < n then some (some (.int (lo + i))) else some none
def signs (x : List Nat) : List MV := x.map fun c => .str [c]
def WR (K : PySem.W.Frag) (ρ : Nat → Option Addr) (H : Hp) : Wk → It → Prop
  | .lst p, J => ∃ a, ρ p = some a ∧ J = Itl K a
  | .fix xs, J => (∃ a ys, SqT K H a ys ∧ VRs K ρ H xs ys ∧ J = Itt K a) ∨ (∃ a ys, SqF K H a ys ∧ VRs K ρ H xs ys ∧ J = Itl K a) ∨ ∃ x, J = Its ⟨x.toArray⟩ ∧ xs = signs x
  | .rng lo n, J => J = Itr lo n
section
variable {K : PySem.W.Frag} {ρ ρ' : Nat → Option Addr} {H H' : Hp} {M : MH} {w : Wk} {J : It} {i : Nat} {v : MV}
theorem WR.mono (e : Ext ρ H ρ' H') (h : WR K ρ H w J) : WR K ρ' H' w J := by
  cases w with
  | lst p => obtain ⟨a, h1, h2⟩ := h; exact ⟨a, e.r _ _ h1, h2⟩
  | rng lo n => exact h
  | fix xs =>
    rcases h with ⟨a, ys, h1, h2, h3⟩ | ⟨a, ys, h1, h2, h3⟩ | h
    · exact .inl ⟨a, ys, e.sqT h1, h2.mono e, h3⟩
    · exact .inr (.inl ⟨a, ys, e.sqF h1, h2.mono e, h3⟩)
    · exact .inr (.inr h)
theorem WR.done (S : Sim K ρ M H) (h : WR K ρ H w J) (e : nextM w i M = some none) : J.stop i H := by
  cases w with
  | lst p =>
    obtain ⟨a, h1, rfl⟩ := h
    unfold nextM at e
    dsimp only at e
    obtain ⟨o, g, r⟩ := S.at_ h1
    rw [g] at e
    cases o with
    | ins C fs => cases e
    | lst xs =>
      obtain ⟨ys, k1, k2⟩ := r
      have e' := List.getElem?_eq_none_iff.mp (Option.some.inj e)
      exact ⟨ys, SqL.of k1, by rw [← k2.length]; exact e'⟩
  | rng lo n =>
    obtain rfl : J = Itr lo n := h
    unfold nextM at e
    dsimp only at e
    by_cases c : i < n
    · rw [if_pos c] at e; cases e
    · exact Nat.le_of_not_lt c
  | fix xs =>
    have e' := List.getElem?_eq_none_iff.mp (Option.some.inj (show some xs[i]? = some none from e))
    rcases h with ⟨a, ys, h1, h2, rfl⟩ | ⟨a, ys, h1, h2, rfl⟩ | ⟨x, rfl, rfl⟩
    · exact ⟨ys, h1, by rw [← h2.length]; exact e'⟩
    · exact ⟨ys, h1.l, by rw [← h2.length]; exact e'⟩
    · unfold signs at e'
      rw [List.length_map] at e'
      show x.toArray.size ≤ i
      simpa using e'
theorem WR.turn (S : Sim K ρ M H) (h : WR K ρ H w J) (e : nextM w i M = some (some v)) : J.go i H ∧ ∀ x H', J.yld i H x H' → H' = H ∧ VR K ρ H v x := by
  cases w with
  | lst p =>
    obtain ⟨a, h1, rfl⟩ := h
    unfold nextM at e
    dsimp only at e
    obtain ⟨o, g, r⟩ := S.at_ h1
    rw [g] at e
    cases o with
    | ins C fs => cases e
    | lst xs =>
      obtain ⟨ys, k1, k2⟩ := r
      obtain ⟨y, q1, q2⟩ := k2.get (Option.some.inj e)
      refine ⟨⟨ys, y, SqL.of k1, q1⟩, fun x H' z => ⟨z.1, ?_⟩⟩
      have z2 := z.2 ys (SqL.of k1)
      rw [q1] at z2
      cases z2
      exact q2
  | rng lo n =>
    obtain rfl : J = Itr lo n := h
    unfold nextM at e
    dsimp only at e
    by_cases c : i < n
    · rw [if_pos c] at e
      cases e
      exact ⟨c, fun x H' z => ⟨z.1, by rw [z.2]; exact .int _⟩⟩
    · rw [if_neg c] at e; cases e
  | fix xs =>
    have e' := Option.some.inj (show some xs[i]? = some (some v) from e)
    rcases h with ⟨a, ys, h1, h2, rfl⟩ | ⟨a, ys, h1, h2, rfl⟩ | ⟨x, rfl, rfl⟩
    · obtain ⟨y, q1, q2⟩ := h2.get e'
      refine ⟨⟨ys, y, h1, q1⟩, fun x H' z => ⟨z.1, ?_⟩⟩
      have z2 := z.2 ys h1
      rw [q1] at z2
      cases z2
      exact q2
    · obtain ⟨y, q1, q2⟩ := h2.get e'
      refine ⟨⟨ys, y, h1.l, q1⟩, fun x H' z => ⟨z.1, ?_⟩⟩
      have z2 := z.2 ys h1.l
      rw [q1] at z2
      cases z2
      exact q2
    · unfold signs at e'
      rw [List.getElem?_map] at e'
      obtain ⟨c, q1, q2⟩ := Option.map_eq_some_iff.mp e'
      have hl : i < x.length := (List.getElem?_eq_some_iff.mp q1).1
      refine ⟨by show i < x.toArray.size; simpa using hl, fun u H' z => ?_⟩
      obtain ⟨z1, d, z2, rfl⟩ := z
      have z3 : x[i]? = some d := by simpa using z2
      rw [q1] at z3
      cases z3
      rw [← q2]
      exact ⟨z1, .str [_]⟩
end
abbrev MI := MX.Loc → MH → Res Wk
def SI (K : PySem.W.Frag) (xi : Option XI) (W : WX) (t : TI) (m : MI) : Prop := ∀ ρ M H σ τ R, Sim K ρ M H → SR K xi ρ H τ σ → QR K (WR K) W σ ρ H R (m τ M) → t σ H R
def DI (X : Cx) (tg : Expr) (xi : Option XI) (W : WX) (e : Expr) (m : MI) : Prop := ∃ t, PI X tg e t ∧ SI X.K xi W t m
section
variable {X : Cx} {tg e a b : Expr} {xi : Option XI} {W : WX} {me ma mb : ME} {mc : MB} {mi : MI} {mA : MA} {pos p : Pos}
def mNeverI : MI := fun _ _ => .stuck
theorem di_never : DI X tg xi W e mNeverI := ⟨fun _ _ _ => False, ⟨fun _ _ _ _ _ _ h => h.elim⟩, fun _ _ _ _ _ _ _ _ h => h⟩
/-- any value that can be walked -/
def iAny (K : PySem.W.Frag) (te : TE) : TI := fun σ H R => te σ H fun x H1 => (∃ a xs, x = .ref a ∧ SqL K H1 a xs ∧ R (Itl K a) H1) ∨ (∃ a xs, x = .ref a ∧ SqT K H1 a xs ∧ R (Itt K a) H1) ∨ ∃ z, x = .str z ∧ R (Its z) H1
theorem pi_any {te : TE} (he : PE X e te) : PI X tg e (iAny X.K te) := by
  constructor
  intro pins s σ H R I h
  refine thn (he.run pins s σ H _ I h) ?_
  rintro v s1 ⟨x, H1, I1, r1, ⟨a, xs, rfl, hq, q⟩ | ⟨a, xs, rfl, hq, q⟩ | ⟨z, rfl, q⟩⟩
  · cases r1
    obtain ⟨its, rv, pl, hz⟩ := I1.list hq
    exact wpAny_pyIter_list pl.isList (pi_one (tk := s1.toks) I1 _ (turn_list a _) ⟨_, Heap.get?_push_size _ rfl, rfl, rfl⟩ q)
  · cases r1
    obtain ⟨its, rv, pl, hz⟩ := I1.tuple hq
    exact wpAny_pyIter_tuple (show s1.heap.IsTuple a its.toArray from pl) (pi_one (tk := s1.toks) I1 _ (turn_tuple a _) ⟨_, Heap.get?_push_size _ rfl, rfl, rfl⟩ q)
  · obtain ⟨t, rfl⟩ := r1
    by_cases ha : z.cps.all (· < 128) = true
    · exact wpAny_pyIter_ascii ha (pi_one (tk := s1.toks) I1 _ (turn_str _ z t "str_ascii_iterator" (.inl rfl)) ⟨_, Heap.get?_push_size _ rfl, rfl, rfl⟩ q)
    · exact wpAny_pyIter_wide (by simpa using ha) (pi_one (tk := s1.toks) I1 _ (turn_str _ z t "str_iterator" (.inr rfl)) ⟨_, Heap.get?_push_size _ rfl, rfl, rfl⟩ q)
def wkOf (M : MH) : MV → Option Wk
  | .ref i => (match M.get i with
    | some (.lst _) => some (.lst i)
    | _ => none)
  | .tup xs => some (.fix xs)
  | .fro xs => some (.fix xs)
  | .str x => some (.fix (signs x))
  | _ => none
def mWalk (a : ME) : MI := fun τ M => (a τ M).bind fun x M => match wkOf M x with
  | some w => .ok w M
  | none => .stuck
theorem di_any (he : DE X xi W e me) : DI X tg xi W e (mWalk me) := by
  obtain ⟨t, pe, s⟩ := he
  refine ⟨_, pi_any pe, fun ρ M H σ τ R S T h => s ρ M H σ τ _ S T (QR.bind h fun x M1 ρ1 H1 u e1 S1 r1 h1 => ?_)⟩
  split at h1
  · rename_i w ew
    unfold wkOf at ew
    split at ew
    · split at ew
      · rename_i xs eo
        cases ew
        cases r1 with
        | ref q =>
          obtain ⟨o, g, r⟩ := S1.at_ q
          rw [eo] at g
          cases g
          obtain ⟨ys, k1, k2⟩ := r
          exact .inl ⟨_, ys, rfl, SqL.of k1, h1.here S1 ⟨_, q, rfl⟩⟩
      · cases ew
    · cases ew
      cases r1 with
      | tup q rs => exact .inr (.inl ⟨_, _, rfl, q, h1.here S1 (.inl ⟨_, _, q, rs, rfl⟩)⟩)
    · cases ew
      cases r1 with
      | fro q rs => exact .inl ⟨_, _, rfl, q.l, h1.here S1 (.inr (.inl ⟨_, _, q, rs, rfl⟩))⟩
    · cases ew
      cases r1
      exact .inr (.inr ⟨_, rfl, h1.here S1 (.inr (.inr ⟨_, rfl, rfl⟩))⟩)
    · cases ew
  · exact h1.elim
def i62 (j : Int) : Bool := decide (-4611686018427387904 ≤ j) && decide (j < 4611686018427387904)
def mRange (a : MA) : MI := fun τ M => (a τ M).bind fun xs M => match xs with
  | [.int j] => if i62 j = true then .ok (.rng 0 j.toNat) M else .stuck
  | [.int i, .int j] => if (i62 i && i62 j) = true then .ok (.rng i (j - i).toNat) M else .stuck
  | _ => .stuck
theorem VRs.int1 {K : PySem.W.Frag} {ρ : Nat → Option Addr} {H : Hp} {j : Int} {us : List V} (r : VRs K ρ H [.int j] us) : us = [.int j] := by
  obtain ⟨u, rfl, ru⟩ := r.one
  cases ru
  rfl
theorem di_range1 (hg : Gl X "range") (hm : X.mg "range" = none) (ha : DA X xi W [a] mA) (hs : starEach [a] X.env = [(false, eval a X.env)]) : DI X tg xi W (.Call (.Name "range" p) [a] [] pos) (fun τ M => (mA τ M).bind fun xs M => match xs with
    | [.int j] => if i62 j = true then .ok (.rng 0 j.toNat) M else .stuck
    | _ => .stuck) := by
  obtain ⟨t, pa, s⟩ := ha
  refine ⟨_, pi_range1 hg hm pa hs, fun ρ M H σ τ R S T h => s ρ M H σ τ _ S T (QR.bind h fun xs M1 ρ1 H1 us e1 S1 r1 h1 => ?_)⟩
  split at h1
  · rename_i j
    split at h1
    · rename_i c
      unfold i62 at c
      rw [Bool.and_eq_true, decide_eq_true_eq, decide_eq_true_eq] at c
      exact ⟨j, VRs.int1 r1, c.1, c.2, h1.here S1 rfl⟩
    · exact h1.elim
  · exact h1.elim
theorem di_range2 (hg : Gl X "range") (hm : X.mg "range" = none) (ha : DA X xi W [a, b] mA) (hs : starEach [a, b] X.env = [(false, eval a X.env), (false, eval b X.env)]) (hs2 : starEach [b] X.env = [(false, eval b X.env)]) :
    DI X tg xi W (.Call (.Name "range" p) [a, b] [] pos) (fun τ M => (mA τ M).bind fun xs M => match xs with
    | [.int i, .int j] => if (i62 i && i62 j) = true then .ok (.rng i (j - i).toNat) M else .stuck
    | _ => .stuck) := by
  obtain ⟨t, pa, s⟩ := ha
  refine ⟨_, pi_range2 hg hm pa hs hs2, fun ρ M H σ τ R S T h => s ρ M H σ τ _ S T (QR.bind h fun xs M1 ρ1 H1 us e1 S1 r1 h1 => ?_)⟩
  split at h1
  · rename_i i j
    split at h1
    · rename_i c
      unfold i62 at c
      simp only [Bool.and_eq_true, decide_eq_true_eq] at c
      obtain ⟨u, v, rfl, ru, rv⟩ := r1.two
      cases ru; cases rv
      exact ⟨i, j, rfl, ⟨c.1.1, c.1.2, c.2.1, c.2.2⟩, h1.here S1 rfl⟩
    · exact h1.elim
  · exact h1.elim

/-! ### for -/
/-- behind a turn -/
def Out.again (o : Out) (f : MX.Loc → MH → Out) : Out := match o with
  | .nx τ M => f τ M
  | .ct τ M => f τ M
  | .bk τ M => .nx τ M
  | .rt v M => .rt v M
  | .ex c fs τ M => .ex c fs τ M
  | .stuck => .stuck
def forGo (w : Wk) (g : MG) (b : MS) : Nat → Nat → MX.Loc → MH → Out
  | 0, _, _, _ => .stuck
  | n + 1, i, τ, M => match nextM w i M with
    | none => .stuck
    | some none => .nx τ M
    | some (some v) => match g v τ M with
      | .ok τ M => (b τ M).again (forGo w g b n (i + 1))
      | _ => .stuck
def mFor (n : Nat) (it : MI) (g : MG) (b : MS) : MS := fun τ M => (it τ M).out τ fun w M => forGo w g b n 0 τ M
theorem SQ.again {K : PySem.W.Frag} {ρ : Nat → Option Addr} {H : Hp} {D : Ends} {o : Out} {f : MX.Loc → MH → Out} {N : St → Hp → Prop} (h : SQ K xi W ρ H D (o.again f))
    (k : ∀ τ M ρ' H' σ', Ext ρ H ρ' H' → Sim K ρ' M H' → SR K xi ρ' H' τ σ' → SQ K xi W ρ' H' D (f τ M) → N σ' H') : SQ K xi W ρ H { D with nx := N, ct := N, bk := D.nx } o := by
  cases o with
  | nx τ M => exact fun ρ' H' σ' e s r => k τ M ρ' H' σ' e s r (SQ.mono e h)
  | ct τ M => exact fun ρ' H' σ' e s r => k τ M ρ' H' σ' e s r (SQ.mono e h)
  | bk τ M => exact h
  | rt v M => exact h
  | ex c fs τ M => exact h
  | stuck => exact h
theorem ds_for {n : Nat} {g : MG} {body : List Stmt} {m : MS} (hp : PassesOwn (model X.prog X.w) X.A X.env X.xe) (hc : X.calm = true) (hi : DI X tg xi W e mi) (hg : DG X xi W tg g) (hb : DSs X xi W body m) (hs : ∀ x, foldedSetIterable e X.env x = pure x) :
    DS X xi W (.For tg e body [] pos) (mFor n mi g m) := by
  obtain ⟨ti, p1, s1⟩ := hi
  obtain ⟨tg', p2, s2⟩ := hg
  obtain ⟨tb, p3, s3⟩ := hb
  refine ⟨_, ps_for hp hc p1 p2 p3 hs, fun ρ M H σ τ D S R h => s1 ρ M H σ τ _ S R (SQ.out R h fun w M1 ρ1 H1 J e1 S1 r1 R1 h1 => ?_)⟩
  refine ⟨fun i k σ' H' => ∃ ρ' M' τ', Sim X.K ρ' M' H' ∧ SR X.K xi ρ' H' τ' σ' ∧ WR X.K ρ' H' w J ∧ SQ X.K xi W ρ' H' D (forGo w g m k i τ' M'), ⟨n, ρ1, M1, τ, S1, R1, r1, h1⟩, ?_⟩
  rintro i k σ2 H2 ⟨ρ2, M2, τ2, S2, R2, r2, h2⟩
  cases k with
  | zero => exact h2.elim
  | succ k =>
    unfold forGo at h2
    split at h2
    · exact h2.elim
    · rename_i en
      exact .inl ⟨r2.done S2 en, After.here h2 S2 R2⟩
    · rename_i v en
      obtain ⟨go, yl⟩ := r2.turn S2 en
      refine .inr ⟨go, fun σ' H' => ∃ ρ' M' τ', Sim X.K ρ' M' H' ∧ SR X.K xi ρ' H' τ' σ' ∧ WR X.K ρ' H' w J ∧ SQ X.K xi W ρ' H' D (forGo w g m k (i + 1) τ' M'), fun σ' H' z => ⟨k, Nat.lt_succ_self _, z⟩, fun x H' y => ?_⟩
      obtain ⟨rfl, rx⟩ := yl x H' y
      refine s2 ρ2 M2 H' σ2 τ2 v x _ S2 R2 rx ?_
      split at h2
      · rename_i τ3 M3 eg
        rw [eg]
        intro ρ4 H4 σ4 e4 S4 R4
        exact s3 ρ4 M3 H4 σ4 τ3 _ S4 R4 (SQ.again (SQ.mono e4 h2) fun τ5 M5 ρ5 H5 σ5 e5 S5 R5 h5 => ⟨ρ5, M5, τ5, S5, R5, (r2.mono e4).mono e5, h5⟩)
      · exact h2.elim
/-! ### while -/
def whileGo (c : MB) (b : MS) : Nat → MX.Loc → MH → Out
  | 0, _, _ => .stuck
  | n + 1, τ, M => (c τ M).out τ fun k M => if k = true then (b τ M).again (whileGo c b n) else .nx τ M
theorem ds_while {n : Nat} {body : List Stmt} {m : MS} (hp : PassesOwn (model X.prog X.w) X.A X.env X.xe) (hc : DT X xi W e mc) (hb : DSs X xi W body m) : DS X xi W (.While e body [] pos) (whileGo mc m n) := by
  obtain ⟨t, p1, s1⟩ := hc
  obtain ⟨u, p2, s2⟩ := hb
  refine ⟨_, ps_while hp p1 p2, fun ρ M H σ τ D S R h => ?_⟩
  refine ⟨fun k σ' H' => ∃ ρ' M' τ', Sim X.K ρ' M' H' ∧ SR X.K xi ρ' H' τ' σ' ∧ SQ X.K xi W ρ' H' D (whileGo mc m k τ' M'), ⟨n, ρ, M, τ, S, R, h⟩, ?_⟩
  rintro k σ2 H2 ⟨ρ2, M2, τ2, S2, R2, h2⟩
  cases k with
  | zero => exact h2.elim
  | succ k =>
    unfold whileGo at h2
    refine s1 ρ2 M2 H2 σ2 τ2 _ S2 R2 (SQ.out R2 h2 fun q M3 ρ3 H3 q' e3 S3 r3 R3 h3 => ?_)
    obtain rfl : q = q' := r3
    by_cases c : q = true
    · rw [if_pos c] at h3 ⊢
      refine ⟨fun σ' H' => ∃ ρ' M' τ', Sim X.K ρ' M' H' ∧ SR X.K xi ρ' H' τ' σ' ∧ SQ X.K xi W ρ' H' D (whileGo mc m k τ' M'), fun σ' H' z => ⟨k, Nat.lt_succ_self _, z⟩, ?_⟩
      exact s2 ρ3 M3 H3 σ2 τ2 _ S3 R3 (SQ.again h3 fun τ5 M5 ρ5 H5 σ5 e5 S5 R5 h5 => ⟨ρ5, M5, τ5, S5, R5, h5⟩)
    · rw [if_neg c] at h3 ⊢
      exact After.here h3 S3 R3
end
end MX
end
section
set_option Elab.async false
set_option linter.all false
set_option maxRecDepth 100000
set_option maxHeartbeats 2000000
/-! MX9: an exception that leaves a comprehension's block. -/
namespace MX
open PySem PySem.Spec L2
/-- what calls may let out, at every state of the slots -/
def PsE (X : Cx) (W : WX) : Prop := ∀ σ, PassesAt (L2.CX X.prog X.w) X σ (WE W σ)
theorem psE_of {X : Cx} {W : WX} (tk : Takes X W) : PsE X W := fun σ => passAt tk σ
/-- the ground without one address -/
theorem without (B : Heap) (c : Addr) : ∃ G : Heap, (∀ b, b ≠ c → G.get? b = B.get? b) ∧ G.get? c = none := by
  obtain ⟨G, h1, h2⟩ := restrict B fun b => decide (b ≠ c)
  exact ⟨G, fun b hb => h1 b (decide_eq_true hb), h2 c (by simp)⟩
section
variable {X : Cx} {pins : List (Addr × Obj)} {σ : St} {H3 : Hp} {s3 : Shared} {scope : Scope} {ce : Env} {fp : List Addr} {E' : Value → Shared → Prop} {W : WX}
/-- the block's context, its exceptions wished by E' -/
abbrev blkE (X : Cx) (s : Shared) (H : Hp) (scope : Scope) (ce : Env) (fp : List Addr) (E' : Value → Shared → Prop) : Cx := (X.blk s H scope ce fp).wish E'
theorem block_raise (hs : X.stack = X.env :: X.outer) (hf : X.env.frame = some X.env.locals) (tk : Takes X W) (I3 : Inv X pins σ H3 s3) (hcf : ce.frame = X.env.frame) (hC : ce.locals = s3.heap.objs.size)
    (hfp : ∀ b ∈ fp, FpOk X pins H3 b) (σ' : St) :
    PassesAt (L2.CX X.prog X.w) (blkE X s3 H3 scope ce fp (notedBy (model X.prog X.w) X.A ce fun e s' => CompFails (model X.prog X.w) X.A X.xe ce e s')) σ' (fun cls d H => W cls d σ H) := by
  intro pins' H s e s' I cx
  obtain ⟨a, B, H', cls, d, rfl, fl, hok, ub, na, os, ag, w⟩ := cx
  have fl : HandSPX.FlyingZ B X.stack a (Zc cls d) s'.heap := fl
  have ub : UB (frs X.stack) H H' s.heap B s'.heap := ub
  have hok : HOk X.prog X.w H' B := hok
  have un : Un (frs X.stack) fp H3 H s3.heap s.heap := I.base
  have hfr : X.A.frames = some (X.env :: X.outer) := by rw [I3.ok.frames, hs]
  have cFree : s3.heap.get? ce.locals = none := Heap.get?_none_of_le (Nat.le_of_eq hC.symm)
  have HC : H ce.locals = none := I.free
  obtain ⟨m, hn, _⟩ := I.loc
  have hn : s.heap.Ns ce.locals m := hn
  obtain ⟨oC, esC, epC, hoC, hdC, hrC⟩ := id hn
  have cFrame : ce.locals ∉ frs X.stack := fun hm => by
    have z := I.ok.funs
    have z2 : (X.blk s3 H3 scope ce fp).s_0.heap.FunFrames X.base X.stack := z
    obtain ⟨_, o, ho, _⟩ := z2.mem hm
    have ho : s3.heap.get? ce.locals = some o := ho
    rw [cFree] at ho
    cases ho
  have cB : B.get? ce.locals = some oC := ub.keep _ _ hoC HC cFrame
  have HC' : H' ce.locals = none := ub.free _ _ hoC HC
  -- the ground without the block
  obtain ⟨B', b1, b2⟩ := without B ce.locals
  have inB : ∀ b o, B'.get? b = some o → B.get? b = some o := fun b o e => by
    by_cases z : b = ce.locals
    · rw [z, b2] at e; cases e
    · rw [← b1 b z]; exact e
  obtain ⟨k1, k2, k3, oe, vs, T, oT, ts, t1, t2, t3, t4, t5, t6, t7, t8, t9⟩ := id fl
  have nB : ∀ b, B.get? b = none → B'.get? b = none := fun b e => by
    cases q : B'.get? b with
    | none => rfl
    | some o => rw [inB b o q] at e; cases e
  have fl' : HandSPX.FlyingZ B' (X.env :: X.outer) a (Zc cls d) s'.heap := by
    rw [hs] at k3
    refine ⟨fun b o e => k1 b o (inB b o e), nB a k2, funFrames_none k3 fun L hL => ?_, oe, vs, T, oT, ts, t1, t2, t3, t4, nB T t5, t6, t7, t8, t9⟩
    obtain ⟨hb, _⟩ := k3.mem hL
    exact nB L hb
  show wpAny (model X.prog X.w) X.A (noteFrame (.ref a) ce) _ _ s'
  rw [PySem.noteFrame_env _ hcf]
  refine HandSPX.looks_onZ Zc.steady hfr hf fl' fun h1 hh1 up1 => ?_
  have nC1 : h1.Ns ce.locals m := by
    obtain ⟨sl, q⟩ := up1 ce.locals oC (k1 _ _ cB) fun vs z => by rw [hdC] at z; cases z
    exact ⟨_, esC, epC, q, hdC, hrC⟩
  refine ⟨m, nC1, fun h2 m2 nC2 sb => ?_⟩
  obtain ⟨j1, j2, j3, oe1, vs1, T1, oT1, ts1, u1, u2, u3, u4, u5, u6, u7, u8, u9⟩ := hh1
  have recNe : ∀ {b : Addr} {o : Obj} {vs : Array Value}, h1.get? b = some o → o.data = .fields vs → b ≠ ce.locals := fun {b o vs} e dd z => by
    obtain ⟨o2, es2, ep2, e2, d2, _⟩ := nC1
    rw [z, e2] at e
    cases e
    rw [d2] at dd
    cases dd
  have st2 : B'.StaysIn h2 := fun b o e => (sb.2 b fun z => by rw [z, b2] at e; cases e).trans (j1 b o e)
  have ff2 : h2.FunFrames B' (X.env :: X.outer) := Heap.FunFrames.sameBut sb nC2 j3
  have tr2 : HandSPX.TracedZ h2 B' a (Zc cls d) (rawInt X.env.locals) := ⟨oe1, vs1, T1, oT1, ts1, (sb.2 a (recNe u1 u3)).trans u1, u2, u3, u4, u5, u6, (sb.2 T1 (recNe u7 u8)).trans u7, u8, u9⟩
  unfold passOn
  refine wpAny_bind (wpAny_field ((sb.2 a (recNe u1 u3)).trans u1) u3 u4 ?_)
  rw [if_neg (show ¬ ((Value.ref T1 == Value.none) = true) from by simp)]
  rw [hcf, hf]
  have fin : wpAny (model X.prog X.w) X.A (setFlight (.ref a) (some X.env.locals)) (fun _ s4 => wpAny (model X.prog X.w) X.A (throw (.ref a) : Sem Value) (fun _ _ => False) X.xe s4) X.xe { s' with heap := h2 } := by
    refine HandSPX.setFlight_anyZ (s := { s' with heap := h2 }) st2 ff2 tr2 fun h5 v1 v2 v3 v4 => wpAny_throw (tk _ _ ?_)
    -- the state of the def without the exception
    obtain ⟨G, g1, g2⟩ := restrict s'.heap fun b => (B'.get? b).isSome || decide (b ∈ frs X.stack)
    have gB : ∀ b o, B'.get? b = some o → G.get? b = some o := fun b o e => by
      rw [g1 b (by simp [e])]
      exact k1 b o (inB b o e)
    have gF : ∀ b, b ∈ frs X.stack → G.get? b = s'.heap.get? b := fun b hb => g1 b (by simp [hb])
    have og : ∀ b o, G.get? b = some o → s'.heap.get? b = some o ∧ ((B'.get? b).isSome = true ∨ b ∈ frs X.stack) := fun b o e => by
      cases q : ((B'.get? b).isSome || decide (b ∈ frs X.stack)) with
      | false => rw [g2 b q] at e; cases e
      | true =>
        rw [g1 b q] at e
        exact ⟨e, by simpa [Bool.or_eq_true] using q⟩
    have old : ∀ {b : Addr} {o : Obj}, s3.heap.get? b = some o → b ≠ ce.locals := fun {b o} e z => by
      rw [z, cFree] at e
      cases e
    have BtoG : ∀ b o, b ≠ ce.locals → B.get? b = some o → G.get? b = some o := fun b o z e => gB b o (by rw [b1 b z]; exact e)
    have IG : L2.Inv X pins σ H' { s3 with heap := G, gens := s'.gens, drawn := s'.drawn, toks := s'.toks } := by
      refine I3.call (ch := fp) ⟨fun b o e n hb hx => BtoG b o (old e) (ub.keep b o (un.keep b o e n hb hx) (un.free b o e n hx) hb), fun b o e n hb hx => ?_, fun b o e n hx => ?_, fun b o e hx => ?_,
        fun b xs e => ub.tups b xs (un.tups b xs e), fun b o v e => ub.frzs b o v (un.frzs b o v e), fun b ps e => ?_⟩ (fun b o e => ?_) ag (fun b hb => ⟨(hfp b hb).2.2.2.1, (hfp b hb).2.1, (hfp b hb).2.2.2.2.1, (hfp b hb).2.2.2.2.2⟩)
      · obtain ⟨sl, e1⟩ := un.slot b o e n hb hx
        obtain ⟨sl2, e2⟩ := ub.slot b _ e1 hb
        exact ⟨sl2, by rw [gF b hb]; exact e2⟩
      · obtain ⟨o', e1⟩ := un.there b o e hx
        exact ub.free b o' e1 (un.free b o e n hx)
      · obtain ⟨o', e1⟩ := un.there b o e hx
        by_cases hb : b ∈ frs X.stack
        · obtain ⟨sl2, e2⟩ := ub.slot b o' e1 hb
          exact ⟨_, by rw [gF b hb]; exact e2⟩
        · obtain ⟨o2, e2⟩ := ub.there b o' e1 hb
          exact ⟨o2, BtoG b o2 (old e) e2⟩
      · obtain ⟨m1, e1⟩ := un.tbls b ps e
        obtain ⟨m2, e2⟩ := ub.tbls b _ e1
        exact ⟨m1 ++ m2, by rw [e2, Array.append_assoc]⟩
      · refine (hok b o e).stay (fun c u hc r => BtoG c u (fun z => ?_) r) (fun _ r => r) fun _ _ r => r
        rw [z] at hc
        rcases hc with hc | hc
        · rw [← hc, HC'] at e; cases e
        · rw [HC'] at hc; cases hc
    refine ⟨a, B', _, pins, σ, H', cls, d, rfl, IG, fun b o e hb => ?_, fun b o e dd => ?_, .inr (.inr ⟨v1, j2, by rw [hs]; exact v2, v3⟩), na, os.trans I.os, ag, w⟩
    · obtain ⟨e', h⟩ := og b o e
      rcases h with h | h
      · obtain ⟨o', q⟩ := Option.isSome_iff_exists.mp h
        have z := k1 b o' (inB b o' q)
        rw [e'] at z; cases z
        exact q
      · exact absurd h hb
    · obtain ⟨e', h⟩ := og b o e
      obtain ⟨sl1, e1⟩ := up1 b o e' dd
      have nb : b ≠ ce.locals := fun z => by
        rcases h with h | h
        · rw [z, b2] at h; cases h
        · exact cFrame (by rw [← z]; exact h)
      obtain ⟨sl2, e2⟩ := v4 b _ ((sb.2 b nb).trans e1) dd
      exact ⟨sl2, e2⟩
  first
    | exact wpAny_bind (wpAny_pure (wpAny_bind fin))
    | exact wpAny_bind fin
end
end MX
end
section
set_option Elab.async false
set_option linter.all false
set_option maxRecDepth 100000
set_option maxHeartbeats 2000000
/-! MX10: list comprehensions whose elements may raise. -/
namespace MX
open PySem PySem.Spec L2
/-- a target that writes the slots vs alone -/
def GW (vs : List Nat) (t : TG) : Prop := ∀ u σ H Q, t u σ H Q → t u σ H (fun σ' H' => Q σ' H' ∧ σ'.length = σ.length ∧ ∀ j, j ∉ vs → σ'[j]? = σ[j]?)
def GWs (vs : List Nat) (t : TGs) : Prop := ∀ us σ H Q, t us σ H Q → t us σ H (fun σ' H' => Q σ' H' ∧ σ'.length = σ.length ∧ ∀ j, j ∉ vs → σ'[j]? = σ[j]?)
theorem gw_name {vs : List Nat} {i : Nat} (h : i ∈ vs) : GW vs (gName i) := fun u σ H Q q => ⟨q, List.length_set .., fun j hj => List.getElem?_set_ne (fun e => hj (by rw [← e]; exact h))⟩
theorem gws_nil {vs : List Nat} : GWs vs gNil := fun us σ H Q q => ⟨q.1, q.2, rfl, fun _ _ => rfl⟩
theorem TGs.imp_of {vs : List Nat} {t : TGs} (h : GWs vs t) : True := trivial
/-- targets that may be weakened at their end -/
def GM (t : TG) : Prop := ∀ u σ H Q Q', (∀ σ' H', Q σ' H' → Q' σ' H') → t u σ H Q → t u σ H Q'
def GMs (t : TGs) : Prop := ∀ u σ H Q Q', (∀ σ' H', Q σ' H' → Q' σ' H') → t u σ H Q → t u σ H Q'
theorem gm_name {i : Nat} : GM (gName i) := fun u σ H Q Q' h q => h _ _ q
theorem gms_nil : GMs gNil := fun u σ H Q Q' h q => ⟨q.1, h _ _ q.2⟩
theorem gms_cons {t : TG} {u : TGs} (a : GM t) (b : GMs u) : GMs (gCons t u) := fun vs σ H Q Q' h ⟨v, r, e, q⟩ => ⟨v, r, e, a _ _ _ _ _ (fun σ' H' z => b _ _ _ _ _ h z) q⟩
theorem gws_cons {vs : List Nat} {t : TG} {u : TGs} (a : GW vs t) (am : GM t) (b : GWs vs u) (bm : GMs u) : GWs vs (gCons t u) := fun us σ H Q ⟨v, r, e, q⟩ => ⟨v, r, e, am _ _ _ _ _ (fun σ' H' z => bm _ _ _ _ _ (fun σ2 H2 y => ⟨y.1, y.2.1.trans z.2.1, fun j hj => (y.2.2 j hj).trans (z.2.2 j hj)⟩) (b _ _ _ _ z.1)) (a _ _ _ _ q)⟩
theorem gw_unp {K : PySem.W.Frag} {vs : List Nat} {n : Nat} {t : TGs} (h : GWs vs t) : GW vs (fun v σ H Q => gTup K n t v σ H Q ∨ gLst K n t v σ H Q) := fun u σ H Q q => by
  rcases q with ⟨a, xs, e, h1, h2, q⟩ | ⟨a, xs, e, h1, h2, q⟩
  · exact .inl ⟨a, xs, e, h1, h2, h _ _ _ _ q⟩
  · exact .inr ⟨a, xs, e, h1, h2, h _ _ _ _ q⟩
def wipeL (τ : MX.Loc) : List Nat → MX.Loc
  | [] => τ
  | v :: vs => (wipeL τ vs).set v .un
theorem wipeL_SR {K : PySem.W.Frag} {xi : Option XI} {ρ : Nat → Option Addr} {H : Hp} {τ : MX.Loc} {σ : St} (R : SR K xi ρ H τ σ) : ∀ vs, SR K xi ρ H (wipeL τ vs) (wipe σ vs)
  | [] => R
  | v :: vs => (wipeL_SR R vs).set (l := .un) (o := none) v trivial
theorem wipe_at {σ : St} {i : Nat} {x : V} : ∀ {vs : List Nat}, (wipe σ vs)[i]? = some (some x) → i ∉ vs := fun {vs} h => (wipe_some h).2
def lcGo (w : Wk) (g : MG) (tt : MB) (te : ME) (τ : MX.Loc) (r : Nat) : Nat → Nat → MH → Res MV
  | 0, _, _ => .stuck
  | n + 1, i, M => match nextM w i M with
    | none => .stuck
    | some none => .ok (.ref r) M
    | some (some v) => match g v τ M with
      | .ok τ2 M2 => (tt τ2 M2).bind fun b M3 => if b = true then (te τ2 M3).bind fun y M4 => (match M4.get r with
          | some (.lst acc) => if acc.length < 16777216 then lcGo w g tt te τ r n (i + 1) (M4.set r (.lst (acc ++ [y]))) else .stuck
          | _ => .stuck) else lcGo w g tt te τ r n (i + 1) M3
      | _ => .stuck
def mLc (n : Nat) (it : MI) (g : MG) (tt : MB) (te : ME) (vs : List Nat) : ME := fun τ M => (it τ M).bind fun w M =>
  lcGo w g tt te (wipeL τ vs) M.n n 0 (M.push (.lst []))
def BlkCx (X : Cx) (scope : Scope) (Xb : Cx) : Prop := ∃ s H cl C fp E', Xb = blkE X s H scope (compEnvC scope cl C X.env) fp E'
def DTs (X : Cx) (xi : Option XI) (W : WX) (ifs : List Expr) (m : MB) : Prop := ∃ t, PTs X ifs t ∧ ST X.K xi W t m
def mYes : MB := fun _ M => .ok true M
section
variable {X : Cx} {tg iter elt e : Expr} {ifs : List Expr} {xi : Option XI} {W : WX} {scope : Scope} {own : List (Str × Nat)} {pos pos' : Pos} {mi : MI} {g : MG} {tt mc : MB} {te : ME} {n : Nat}
theorem dts_nil : DTs X xi W [] mYes := ⟨_, pts_nil, fun ρ M H σ τ Q S R h => h.here S rfl⟩
theorem dts_one (h : DT X xi W e mc) : DTs X xi W [e] mc := by
  obtain ⟨t, p, s⟩ := h
  exact ⟨t, pts_one p, s⟩
theorem lc_run (hs : X.stack = X.env :: X.outer) (hf : X.env.frame = some X.env.locals) (hc : X.calm = true) (hN : X.N.Nodup) (tk : Takes X W) (hi : DI X tg xi W iter mi) (ok : BlkOk X.N X.env.scope scope own) (hfo : ∀ x, foldedSetIterable iter X.env x = pure x)
    (hb : ∀ (Wb : WX) (Xb : Cx), BlkCx X scope Xb → PsE Xb Wb → (∃ t, PG Xb tg t ∧ SG X.K xi Wb t g ∧ GW (own.map (·.2)) t) ∧ DTs Xb xi Wb ifs tt ∧ DE Xb xi Wb elt te)
    {pins : List (Addr × Obj)} {s : Shared} {σ : St} {H : Hp} {Q : VK} {ρ : Nat → Option Addr} {M : MH} {τ : MX.Loc} {use : Option (Value → Sem Unit)} {Qf : Value → Shared → Prop} (I : L2.Inv X pins σ H s) (S : Sim X.K ρ M H) (R : SR X.K xi ρ H τ σ)
    (h : QR X.K (VR X.K) W σ ρ H Q (mLc n mi g tt te (own.map (·.2)) τ M))
    (hRR : ∀ D (cenv : Env) s' m H', L2.Inv X pins σ H' s' → Q (.ref D) H' → s'.heap.Ns cenv.locals m → FpOk X pins H' cenv.locals → compEnds (model X.prog X.w) X.A X.xe use Qf (.ref D) cenv (.ok .next) s') :
    wpAny (model X.prog X.w) X.A (comprehension (.ListComp elt [⟨tg, iter, ifs, 0⟩] scope pos) scope X.env pos' (newList []) false (eval iter X.env) use) Qf X.xe s := by
  have hfree : ∀ y ∈ scope.names, y.2 = .free → ∃ c, X.env.cells.lookup y.1 = some c := fun y hy e => by
    rcases ok.free y hy e with k | k
    · exact I.ok.has _ (.inl k)
    · exact I.ok.has _ (.inr k)
  obtain ⟨ti, pi, si⟩ := hi
  -- the iterator's reading
  have hit : ti σ H fun J H1 => ∃ ρ1 M1 w, Sim X.K ρ1 M1 H1 ∧ SR X.K xi ρ1 H1 τ σ ∧ WR X.K ρ1 H1 w J ∧ QR X.K (VR X.K) W σ ρ1 H1 Q (lcGo w g tt te (wipeL τ (own.map (·.2))) M1.n n 0 (M1.push (.lst []))) := by
    refine si ρ M H σ τ _ S R ?_
    unfold mLc at h
    exact QR.bind h fun w M1 ρ1 H1 J e1 S1 r1 h1 => ⟨ρ1, M1, w, S1, R.mono e1, r1, h1⟩
  refine comprehension_at (use := use) rfl hfo (closure_ok hfree) ok.kind (fun y hy e => by rw [ok.uniq y hy, e]) (thn (pi.run pins s σ H _ I hit) fun xv s1 hx => thn hx fun itv s2 h2 => ?_)
  obtain ⟨it, fp, tn, J, H2, e, I2, T, st2, f2, ρ2, M2, w, S2, R2, r2, q2⟩ := h2
  subst e
  refine wpAny_newObj_type (newEnv_comp ?_) (by show 0 ≤ sizeLine; exact Nat.zero_le _)
  generalize hD : s2.heap.objs.size = D
  have hDn : H2 D = none := I2.hok.fresh (Nat.le_of_eq hD)
  generalize hs3 : ({ s2 with heap := s2.heap.push { cls := .type "list", data := .seq ([] : List Value).toArray } } : Shared) = s3
  have I3 : L2.Inv X pins σ (upd H2 D (.lst [])) s3 := by
    rw [← hs3]
    refine I2.laid (t' := s2.toks) (fun b o e => Heap.get?_push_of_some _ e) (Nat.le_of_eq hD) ⟨Nat.zero_le _, [], 0, .nil, ?_⟩
    rw [← hD]
    exact Heap.get?_push_size _ rfl
  have h3 : s3.heap = s2.heap.push { cls := .type "list", data := .seq ([] : List Value).toArray } := by rw [← hs3]
  obtain ⟨ED, SD, rD⟩ := S2.newL (xs := []) (ys := []) hDn .nil
  have sz : ∀ b ∈ fp, b < s2.heap.objs.size := fun b hb => by
    obtain ⟨o, e, _⟩ := T.obj _ _ st2 b hb
    exact Heap.lt_size e
  have f3 : ∀ b ∈ fp, FpOk X pins (upd H2 D (.lst [])) b ∧ b < s3.heap.objs.size := fun b hb => by
    have hlt := sz b hb
    refine ⟨⟨?_, (f2 b hb).2⟩, by rw [h3, Heap.size_push]; exact Nat.lt_succ_of_lt hlt⟩
    rw [upd_ne (by rw [← hD]; exact Nat.ne_of_lt hlt)]
    exact (f2 b hb).1
  have st3 : tn 0 s3.heap := T.keep _ _ _ st2 fun b _ o e => by rw [h3]; exact Heap.get?_push_of_some _ e
  have I4 := block_start I3 ok hN f3
  -- the block's context
  show codeAny _ _ (.compStart (.ListComp elt [⟨tg, iter, ifs, 0⟩] scope pos) 0 (.ref it) (.ref D) (compEnvC scope (cellsFrom (s3.heap.objs.size + 1) scope.names (cloFrom X.env.cells scope.names [])) s3.heap.objs.size X.env))
    (compEnds (model X.prog X.w) X.A X.xe use Qf (.ref D) (compEnvC scope (cellsFrom (s3.heap.objs.size + 1) scope.names (cloFrom X.env.cells scope.names [])) s3.heap.objs.size X.env)) { s3 with heap := pushCells (s3.heap.push { cls := .type "dict", data := .dict #[] }) scope.names }
  have bk : ∀ E', BlkCx X scope (blkE X s3 (upd H2 D (.lst [])) scope (compEnvC scope (cellsFrom (s3.heap.objs.size + 1) scope.names (cloFrom X.env.cells scope.names [])) s3.heap.objs.size X.env) fp E') := fun E' => ⟨_, _, _, _, _, _, rfl⟩
  generalize hce : compEnvC scope (cellsFrom (s3.heap.objs.size + 1) scope.names (cloFrom X.env.cells scope.names [])) s3.heap.objs.size X.env = ce at I4 bk ⊢
  have cL : ce.locals = s3.heap.objs.size := by subst hce; rfl
  have cF : ce.frame = X.env.frame := by subst hce; rfl
  have nfp : ∀ b ∈ fp, (upd H2 D (.lst [])) b = none := fun b hb => (f3 b hb).1.1
  generalize hH3 : upd H2 D (.lst []) = H3 at I3 I4 nfp f3 bk ED SD rD
  generalize hs4 : ({ s3 with heap := pushCells (s3.heap.push { cls := .type "dict", data := .dict #[] }) scope.names } : Shared) = s4 at I4 ⊢
  have st4 : tn 0 s4.heap := T.keep _ _ _ st3 fun b _ o e => by rw [← hs4]; exact pushCells_keeps _ _ _ _ (Heap.get?_push_of_some _ e)
  have ps : PsE (blkE X s3 H3 scope ce fp (notedBy (model X.prog X.w) X.A ce fun e s' => CompFails (model X.prog X.w) X.A X.xe ce e s')) (fun cls d _ H => W cls d σ H) := fun σ' => block_raise hs hf tk I3 cF cL (fun b hb => (f3 b hb).1) σ'
  obtain ⟨⟨tG, pg, sg, gw⟩, ⟨tT, pt, sT⟩, ⟨tE, pe, sE⟩⟩ := hb _ _ (bk _) ps
  generalize hX : blkE X s3 H3 scope ce fp (notedBy (model X.prog X.w) X.A ce fun e s' => CompFails (model X.prog X.w) X.A X.xe ce e s') = Xb at pg pt pe
  have I5 : L2.Inv Xb [] (wipe σ (own.map (·.2))) H3 s4 := by rw [← hX]; exact I4.wish _
  have stat : ∀ {σ' : St} {H' : Hp} {s' : Shared}, L2.Inv Xb [] σ' H' s' → (∀ b ∈ fp, H' b = none) → ∀ b ∈ fp, FpOk Xb [] H' b := by
    subst hX
    exact fun {σ' H' s'} I' hn b hb => ⟨hn b hb, (I'.ok.exf b hb).1, I'.ok.exfs b hb, .inl hb, fun x c e => (I'.ok.exf b hb).2 x c e, fun p hp => absurd (show p ∈ ([] : List (Addr × Obj)) ++ [] from hp) (by simp)⟩
  have loop : codeAny (model X.prog X.w) X.A (.compLoop (.ListComp elt [⟨tg, iter, ifs, 0⟩] scope pos) 0 (.ref it) (.ref D) ce) (compEnds (model X.prog X.w) X.A X.xe use Qf (.ref D) ce) s4 := by
    refine compLoop_any (fun k s' => ∃ i H' ρ' M', L2.Inv Xb [] (wipe σ (own.map (·.2))) H' s' ∧ tn i s'.heap ∧ (∀ b ∈ fp, H' b = none) ∧ Ext (ext ρ2 M2.n D) H3 ρ' H' ∧ Sim X.K ρ' M' H' ∧ QR X.K (VR X.K) W σ ρ' H' Q (lcGo w g tt te (wipeL τ (own.map (·.2))) M2.n k i M')) ?_ n
      ⟨0, H3, _, _, I5, st4, nfp, Ext.refl, SD, QR.mono ED q2⟩
    rintro k s5 ⟨i, H5, ρ5, M5, J5, st5, n5, E5, S5, q5⟩
    have w5 : WR X.K ρ5 H5 w J := (r2.mono ED).mono E5
    have R5 : SR X.K xi ρ5 H5 (wipeL τ (own.map (·.2))) (wipe σ (own.map (·.2))) := wipeL_SR ((R2.mono ED).mono E5) _
    have numD : ρ5 M2.n = some D := E5.r _ _ (if_pos rfl)
    cases k with
    | zero => exact q5.elim
    | succ k =>
      unfold lcGo at q5
      split at q5
      · exact q5.elim
      · rename_i en
        have td := T.done Xb (by rw [← hX]) (by rw [← hX]) (by rw [← hX]) (by rw [← hX]; exact hc) i [] s5 _ H5 (fun _ _ => False) J5 (stat J5 n5) st5 (w5.done S5 en)
        have eA : Xb.A = X.A := by rw [← hX]
        rw [eA] at td
        refine thnF td fun r s6 ⟨hr, I6'⟩ => ?_
        subst hr
        have I6 : L2.Inv (blkE X s3 H3 scope ce fp (notedBy (model X.prog X.w) X.A ce fun e s' => CompFails (model X.prog X.w) X.A X.xe ce e s')) [] (wipe σ (own.map (·.2))) H5 s6 := by rw [hX]; exact I6'
        have I7 : L2.Inv X pins σ H5 s6 := I3.call' (ch := fp) I6.os I6.base I6.hok I6.bare fun b hb => ⟨(f3 b hb).1.2.2.2.1, (f3 b hb).1.2.1, (f3 b hb).1.2.2.2.2.1, (f3 b hb).1.2.2.2.2.2⟩
        have nC : H5 ce.locals = none := I6.free
        obtain ⟨m, hn, _⟩ := I6.loc
        have qq : Q (.ref D) H5 := q5.here S5 (.ref numD)
        exact hRR D ce s6 m H5 I7 qq hn (by rw [cL] at nC ⊢; exact I3.fpOk (Nat.le_refl _) nC)
      · rename_i v en
        obtain ⟨go, yl⟩ := w5.turn S5 en
        have eA : Xb.A = X.A := by rw [← hX]
        have eP : Xb.prog = X.prog := by rw [← hX]
        have eW : Xb.w = X.w := by rw [← hX]
        have eE : Xb.env = ce := by rw [← hX]
        have eX : Xb.xe = notedBy (model X.prog X.w) X.A ce fun e s' => CompFails (model X.prog X.w) X.A X.xe ce e s' := by rw [← hX]
        have ti := T.item Xb eP eW (by rw [← hX]) (by rw [← hX]; exact hc) i [] s5 _ H5 (fun _ _ => False) J5 (stat J5 n5) st5 go
        rw [eA] at ti
        refine thnF ti fun r s6 ⟨u, hr, h6⟩ => ?_
        subst hr
        refine thnF h6 fun _ s7 ⟨x, H7, I7, r7, y7, st7, n7⟩ => ?_
        obtain ⟨eH, rx⟩ := yl x H7 y7
        subst eH
        have I7' := I7.pinned (stat I7 n7) (T.obj _ _ st7)
        split at q5
        · rename_i τ3 M3 eg
          have hg : tG x (wipe σ (own.map (·.2))) H7 (fun σ' H' => (∃ ρ', Ext ρ5 H7 ρ' H' ∧ Sim X.K ρ' M3 H' ∧ SR X.K xi ρ' H' τ3 σ') ∧ σ'.length = (wipe σ (own.map (·.2))).length ∧ ∀ j, j ∉ own.map (·.2) → σ'[j]? = (wipe σ (own.map (·.2)))[j]?) :=
            gw _ _ _ _ (sg ρ5 M5 H7 _ _ v x _ S5 R5 rx (by rw [eg]; exact fun ρ' H' σ' e s r => ⟨ρ', e, s, r⟩))
          have pgr := pg.run _ s7 _ H7 x u _ I7' r7 hg
          rw [eA, eP, eW, eE, eX] at pgr
          refine thn pgr fun _ s8 ⟨σ8, H8, I8, ⟨ρ8, E8, S8, R8⟩, len8, out8⟩ => ?_
          have ht : tT σ8 H8 (fun b H9 => ∃ ρ9 M9, Ext ρ8 H8 ρ9 H9 ∧ Sim X.K ρ9 M9 H9 ∧ QR X.K (VR X.K) W σ ρ9 H9 Q (if b = true then (te τ3 M9).bind fun y M4 => (match M4.get M2.n with
              | some (.lst acc) => if acc.length < 16777216 then lcGo w g tt te (wipeL τ (own.map (·.2))) M2.n k (i + 1) (M4.set M2.n (.lst (acc ++ [y]))) else .stuck
              | _ => .stuck) else lcGo w g tt te (wipeL τ (own.map (·.2))) M2.n k (i + 1) M9)) := by
            refine sT ρ8 M3 H8 σ8 τ3 _ S8 R8 ?_
            have q8 := QR.mono E8 q5
            generalize tt τ3 M3 = z at q8 ⊢
            cases z with
            | ok b M9 =>
              intro ρ9 H9 b' e9 s9 r9
              obtain rfl : b = b' := r9
              exact ⟨ρ9, M9, e9, s9, QR.mono e9 q8⟩
            | ex c fs M9 => exact fun ρ9 H9 d e9 s9 x9 => q8 ρ9 H9 d e9 s9 x9
            | stuck => exact q8
          have ptr := pt.run _ s8 σ8 H8 _ I8 ht
          rw [eA, eP, eW, eE, eX] at ptr
          refine thn ptr fun b s9 ⟨H9, I9, ρ9, M9, E9, S9, q9⟩ => ?_
          have fin : ∀ {s' : Shared} {H' : Hp} {ρ' : Nat → Option Addr} {M' : MH}, L2.Inv Xb ([] ++ pinsAt fp s7.heap) σ8 H' s' → Ext ρ9 H9 ρ' H' → Sim X.K ρ' M' H' → QR X.K (VR X.K) W σ ρ' H' Q (lcGo w g tt te (wipeL τ (own.map (·.2))) M2.n k (i + 1) M') →
              ∃ m, m < k + 1 ∧ ∃ i H' ρ' M', L2.Inv Xb [] (wipe σ (own.map (·.2))) H' s' ∧ tn i s'.heap ∧ (∀ b ∈ fp, H' b = none) ∧ Ext (ext ρ2 M2.n D) H3 ρ' H' ∧ Sim X.K ρ' M' H' ∧ QR X.K (VR X.K) W σ ρ' H' Q (lcGo w g tt te (wipeL τ (own.map (·.2))) M2.n m i M') := fun {s' H' ρ' M'} I' e' S' q' => by
            have pin' : ∀ b ∈ fp, ∀ o, s7.heap.get? b = some o → s'.heap.get? b = some o ∧ H' b = none := fun b hb o e =>
              let z := I'.pin (b, o) (List.mem_append_right _ (List.mem_append_right _ (mem_pinsAt hb e)))
              ⟨z.1, z.2.1⟩
            refine ⟨k, Nat.lt_succ_self _, i + 1, H', ρ', M', (I'.unpinned (pins := [])).weak len8.symm (fun j v e => ?_), T.keep _ _ _ st7 fun b hb o e => (pin' b hb o e).1, fun b hb => ?_, ((E5.trans E8).trans E9).trans e', S', q'⟩
            · rw [out8 j (wipe_at e)]
              exact e
            · obtain ⟨o, e, _⟩ := T.obj _ _ st7 b hb
              exact (pin' b hb o e).2
          cases b with
          | false =>
            rw [if_neg Bool.false_ne_true] at q9 ⊢
            exact fin I9 Ext.refl S9 q9
          | true =>
            rw [if_pos rfl] at q9 ⊢
            have he : tE σ8 H9 (fun y H10 => ∃ ρ10 M10 v10, Ext ρ9 H9 ρ10 H10 ∧ Sim X.K ρ10 M10 H10 ∧ VR X.K ρ10 H10 v10 y ∧ QR X.K (VR X.K) W σ ρ10 H10 Q (match M10.get M2.n with
                | some (.lst acc) => if acc.length < 16777216 then lcGo w g tt te (wipeL τ (own.map (·.2))) M2.n k (i + 1) (M10.set M2.n (.lst (acc ++ [v10]))) else .stuck
                | _ => .stuck)) := by
              refine sE ρ9 M9 H9 σ8 τ3 _ S9 (R8.mono E9) ?_
              generalize te τ3 M9 = z at q9 ⊢
              cases z with
              | ok b M10 => exact fun ρ10 H10 b' e10 s10 r10 => ⟨ρ10, M10, b, e10, s10, r10, QR.mono e10 q9⟩
              | ex c fs M10 => exact q9
              | stuck => exact q9
            have per := pe.run _ s9 σ8 H9 _ I9 he
            rw [eA, eP, eW, eE, eX] at per
            refine thn per fun z s10 ⟨yv, H10, I10, r10, ρ10, M10, v10, E10, S10, rv, q10⟩ => ?_
            split at q10
            · rename_i acc ea
              split at q10
              · rename_i hl
                have nD : ρ10 M2.n = some D := E10.r _ _ (E9.r _ _ (E8.r _ _ numD))
                obtain ⟨o, g0, ro⟩ := S10.at_ nD
                have g1 := g0
                rw [ea] at g0
                cases g0
                obtain ⟨ys, hD10, rs⟩ := ro
                obtain ⟨EW, SW⟩ := S10.writeL g1 nD hD10 (.inl ⟨ys, rfl⟩) (rs.append (.cons rv .nil))
                have ap := app_ok (X := Xb) (E := Xb.xe) I10 hD10 (by rw [← rs.length]; exact lt_line hl) r10 (Q := fun _ s' => ∃ m, m < k + 1 ∧ ∃ i H' ρ' M', L2.Inv Xb [] (wipe σ (own.map (·.2))) H' s' ∧ tn i s'.heap ∧ (∀ b ∈ fp, H' b = none) ∧ Ext (ext ρ2 M2.n D) H3 ρ' H' ∧ Sim X.K ρ' M' H' ∧ QR X.K (VR X.K) W σ ρ' H' Q (lcGo w g tt te (wipeL τ (own.map (·.2))) M2.n m i M'))
                  fun s11 I11 => fin I11 (E10.trans EW) SW (QR.mono EW q10)
                rw [eA, eP, eW, eX] at ap
                exact ap
              · exact q10.elim
            · exact q10.elim
        · exact q5.elim
  exact PySem.codeAny_compStart_list loop (T.self X.A 0 _ _ _ st4 loop)
theorem de_lc (hs : X.stack = X.env :: X.outer) (hf : X.env.frame = some X.env.locals) (hc : X.calm = true) (hN : X.N.Nodup) (tk : Takes X W) (hi : DI X tg xi W iter mi) (ok : BlkOk X.N X.env.scope scope own) (hfo : ∀ x, foldedSetIterable iter X.env x = pure x)
    (hb : ∀ (Wb : WX) (Xb : Cx), BlkCx X scope Xb → PsE Xb Wb → (∃ t, PG Xb tg t ∧ SG X.K xi Wb t g ∧ GW (own.map (·.2)) t) ∧ DTs Xb xi Wb ifs tt ∧ DE Xb xi Wb elt te) :
    DE X xi W (.ListComp elt [⟨tg, iter, ifs, 0⟩] scope pos) (mLc n mi g tt te (own.map (·.2))) := by
  refine ⟨fun σ H Q => ∃ ρ M τ, Sim X.K ρ M H ∧ SR X.K xi ρ H τ σ ∧ QR X.K (VR X.K) W σ ρ H Q (mLc n mi g tt te (own.map (·.2)) τ M), ⟨fun pins s σ H Q I h => ?_⟩, fun ρ M H σ τ Q S R h => ⟨ρ, M, τ, S, R, h⟩⟩
  obtain ⟨ρ, M, τ, S, R, h⟩ := h
  rw [PySem.eval_ListComp]
  refine lc_run hs hf hc hN tk hi ok hfo hb I S R h fun D cenv s' m H' I' q hn f => ⟨m, hn, fun h'' sb => ?_⟩
  obtain ⟨f0, f1, f2, f3, f4, f5⟩ := f
  exact ⟨.ref D, H', I'.turned (t' := s'.toks) (fun b o hb e => (sb.2 b hb).trans e) f0 f1 f3 f4 f5, rfl, q⟩
end
end MX
end
section
set_option Elab.async false
set_option linter.all false
set_option maxRecDepth 100000
set_option maxHeartbeats 2000000
/-! MX11: calls. -/
namespace MX
open PySem PySem.Spec L2
/-- a def's promise where no guard stands around the call -/
structure FnG (P : Program) (w : World) (K : PySem.W.Frag) (mg : Str → Option Value) (base : Heap) (k : Nat) (f : Addr) (fd : FuncData) (ps : List Str) (sp : Sp) : Prop where
  len : ∀ vs H Q E, sp vs H Q E → vs.length = ps.length
  run : ∀ (A : Around) (outer : List Env) (s : Shared) (H : Hp) (args : Args) (us : List Value) (vs : List V) (Q : VK) (E : XK), Room k A → A.guards = some [] → Env0 P w K mg base A outer s H → BindsTo s fd args (ps.zip us) → Vals vs us → sp vs H Q E →
    codeAny (model P w) A (.call (.ref f) args) (CR (L2.CX P w) outer P w H s Q E) s
theorem FnG.mono {P : Program} {w : World} {K : PySem.W.Frag} {mg : Str → Option Value} {base : Heap} {j k : Nat} {f : Addr} {fd : FuncData} {ps : List Str} {sp : Sp} (F : FnG P w K mg base j f fd ps sp) (h : j ≤ k) : FnG P w K mg base k f fd ps sp :=
  ⟨F.len, fun A outer s H args us vs Q E hr => F.run A outer s H args us vs Q E (hr.mono h)⟩
/-- the promise of a function by values -/
def spM (K : PySem.W.Frag) (n : Nat) (f : List MV → MH → Res MV) : Sp := fun vs H Q E => vs.length = n ∧ ∃ ρ M xs, Sim K ρ M H ∧ VRs K ρ H xs vs ∧ QR K (VR K) (fun c d _ H => E c d H) [] ρ H Q (f xs M)
theorem QR.swap {α β : Type} {K : PySem.W.Frag} {rel : (Nat → Option Addr) → Hp → α → β → Prop} {W W' : WX} {σ σ' : St} {ρ : Nat → Option Addr} {H : Hp} {Q : β → Hp → Prop} {r : Res α} (w : ∀ c d H, W c d σ H → W' c d σ' H) (h : QR K rel W σ ρ H Q r) : QR K rel W' σ' ρ H Q r := by
  cases r with
  | ok v M => exact h
  | ex c fs M => exact fun r h' d e s x => w _ _ _ (h r h' d e s x)
  | stuck => exact h
section
variable {X : Cx} {W : WX} {xi : Option XI} {k : Nat} {f C : Addr} {fd : FuncData} {ps : List Str} {sp : Sp} {x m : Str} {p pos apos : Pos} {e o : Expr} {es : List Expr} {mA : MA} {mo : ME} {g : List MV → MH → Res MV}
theorem run_fnG {pins : List (Addr × Obj)} {σ : St} {H : Hp} {s : Shared} {Q : VK} {us : List Value} {vs : List V} (F : FnG X.prog X.w X.K X.mg X.base k f fd ps sp) (hr : Room k X.A) (hg : X.A.guards = some []) (hb : Binds X.K fd ps []) (hx : PsE X W)
    (I : L2.Inv X pins σ H s) (r : Vals vs us) (h : sp vs H Q (WE W σ)) : wpAny (model X.prog X.w) X.A (call (.ref f) us) (EP X pins σ Q) X.xe s := by
  have hl : us.length = ps.length := by rw [← r.length]; exact F.len _ _ _ _ h
  have b := hb s us I.kIn (by rw [List.append_nil]; exact hl)
  rw [List.append_nil] at b
  refine wpAny_call (codeAny_mono (F.run X.A X.stack s H ⟨us, []⟩ us vs Q _ hr hg I.env0 b r h) ?_)
  intro r s' hq
  cases r with
  | error e => exact hx σ pins H s e s' I hq
  | ok fl =>
    cases fl with
    | ret u => exact I.after hq
    | next => exact hq.elim
    | brk => exact hq.elim
    | cont => exact hq.elim
theorem spM_of {K : PySem.W.Frag} {n : Nat} {ρ : Nat → Option Addr} {M : MH} {H : Hp} {xs : List MV} {vs : List V} {Q : VK} {σ : St} (S : Sim K ρ M H) (r : VRs K ρ H xs vs) (hl : xs.length = n) (h : QR K (VR K) W σ ρ H Q (g xs M)) : spM K n g vs H Q (WE W σ) :=
  ⟨by rw [← r.length]; exact hl, ρ, M, xs, S, r, QR.swap (fun _ _ _ z => z) h⟩
/-- a call with n arguments -/
def mCall (n : Nat) (g : List MV → MH → Res MV) (a : MA) : ME := fun τ M => (a τ M).bind fun xs M => if xs.length = n then g xs M else .stuck
/-- what a function of the table is -/
structure FnT (P : Program) (w : World) (K : PySem.W.Frag) (mg : Str → Option Value) (base : Heap) (k : Nat) (f : Addr) (n : Nat) (g : List MV → MH → Res MV) : Prop where
  ex : ∃ fd ps, PySem.W.keepIn K (.ref f) = true ∧ Binds K fd ps [] ∧ ps.length = n ∧ FnG P w K mg base k f fd ps (spM K n g)
theorem FnT.mono {P : Program} {w : World} {K : PySem.W.Frag} {mg : Str → Option Value} {base : Heap} {j k n : Nat} {f : Addr} {g : List MV → MH → Res MV} (F : FnT P w K mg base j f n g) (h : j ≤ k) : FnT P w K mg base k f n g := by
  obtain ⟨fd, ps, h1, h2, h3, h4⟩ := F.ex
  exact ⟨fd, ps, h1, h2, h3, h4.mono h⟩
theorem de_call {n : Nat} (F : FnT X.prog X.w X.K X.mg X.base k f n g) (hr : Room k X.A) (hgd : X.A.guards = some []) (hx : PsE X W) (hg : Gl X x) (hm : X.mg x = some (.ref f)) (hdb : (x == ("__debug__" : Str)) = false) (ha : DA X xi W (e :: es) mA)
    (he : starEach (e :: es) X.env = (false, eval e X.env) :: starEach es X.env) (hpl : (backTo pos (starEach es X.env)).any (·.1) = false) : DE X xi W (.Call (.Name x p) (e :: es) [] pos) (mCall n g mA) := by
  obtain ⟨t, pa, sa⟩ := ha
  obtain ⟨fd, ps, kp, hb, hn, F⟩ := F.ex
  refine ⟨fun σ H Q => t σ H fun vs H1 => spM X.K n g vs H1 Q (WE W σ), ⟨fun pins s σ H Q I h => ?_⟩, fun ρ M H σ τ Q S R h => sa ρ M H σ τ _ S R (QR.bind h fun xs M1 ρ1 H1 us e1 S1 r1 h1 => ?_)⟩
  · refine wpAny_Call_Name_kw (ld_glob I hg hm ?_ hdb)
    refine PySem.W.callWith_K (h₀ := X.base) I.ok.mod.kin kp (thn (pa.run pos pins s σ H _ I h) fun us s1 ⟨vs, H1, I1, r, q⟩ => ⟨I1.kIn, ?_⟩) he hpl
    exact run_fnG F hr hgd hb hx I1 r q
  · by_cases c : xs.length = n
    · rw [if_pos c] at h1
      exact spM_of S1 r1 c h1
    · rw [if_neg c] at h1
      exact h1.elim
theorem de_call0 (F : FnT X.prog X.w X.K X.mg X.base k f 0 g) (hr : Room k X.A) (hgd : X.A.guards = some []) (hx : PsE X W) (hg : Gl X x) (hm : X.mg x = some (.ref f)) (hdb : (x == ("__debug__" : Str)) = false) : DE X xi W (.Call (.Name x p) [] [] pos) (mCall 0 g mNil) := by
  obtain ⟨fd, ps, kp, hb, hn, F⟩ := F.ex
  refine ⟨fun σ H Q => spM X.K 0 g [] H Q (WE W σ), ⟨fun pins s σ H Q I h => ?_⟩, fun ρ M H σ τ Q S R h => spM_of S .nil rfl h⟩
  refine wpAny_Call_Name_kw (ld_glob I hg hm ?_ hdb)
  exact PySem.W.callWith_K0 I.kIn kp (run_fnG (us := []) F hr hgd hb hx I .nil h)
/-! ### methods of own instances -/
abbrev MT := Str → Str → Option (Nat × (List MV → MH → Res MV))
structure MtT (P : Program) (w : World) (K : PySem.W.Frag) (mg : Str → Option Value) (base : Heap) (k : Nat) (T : MT) : Prop where
  ok : ∀ C m n g, T C m = some (n, g) → Cls K (He.ga K C) ∧ ∃ f, Meth K (He.ga K C) m f ∧ FnT P w K mg base k f n g
def mMethI (T : MT) (m : Str) (o : ME) (a : MA) : ME := fun τ M => (o τ M).bind fun x M => match x with
  | .ref i => (match M.get i with
    | some (.ins C fs) => (match T C m, fs.lookup m with
      | some (n, g), none => (a τ M).bind fun xs M => if xs.length + 1 = n then g (.ref i :: xs) M else .stuck
      | _, _ => .stuck)
    | _ => .stuck)
  | _ => .stuck
def tMethG (X : Cx) (W : WX) (k : Nat) (m : Str) (ta : TE) (t : TA) : TE := fun σ H Q => ta σ H fun x H1 => ∃ (a C dx : Addr) (fs : List (Str × V)) (f : Addr) (n : Nat) (g : List MV → MH → Res MV), x = .ref a ∧ H1 a = some (.ins C dx fs) ∧ Cls X.K C ∧ Meth X.K C m f ∧ fs.lookup m = none ∧
  FnT X.prog X.w X.K X.mg X.base k f n g ∧ t σ H1 fun vs H2 => spM X.K n g (x :: vs) H2 Q (WE W σ)
theorem se_methG {T : MT} {ta : TE} {t : TA} (hT : MtT X.prog X.w X.K X.mg X.base k T) (sa : SE X.K xi W ta mo) (st : SA X.K xi W t mA) : SE X.K xi W (tMethG X W k m ta t) (mMethI T m mo mA) := fun ρ M H σ τ Q S R h =>
  sa ρ M H σ τ _ S R (QR.bind h fun x M1 ρ1 H1 u e1 S1 r1 h1 => by
    split at h1
    · rename_i i
      split at h1
      · rename_i C fs eo
        split at h1
        · rename_i n g eT el
          have r0 := r1
          cases r1 with
          | ref q =>
            obtain ⟨o', go, ro⟩ := S1.at_ q
            rw [eo] at go
            cases go
            obtain ⟨dx, gs, k1, k2⟩ := ro
            obtain ⟨c1, f, c2, c3⟩ := hT.ok C m n g eT
            refine ⟨_, _, dx, gs, f, n, g, rfl, k1, c1, c2, (k2.lookup (f := m)).2 el, c3, st ρ1 M1 H1 σ τ _ S1 (R.mono e1) (QR.bind h1 fun xs M2 ρ2 H2 us e2 S2 r2 h2 => ?_)⟩
            by_cases c : xs.length + 1 = n
            · rw [if_pos c] at h2
              exact spM_of S2 (.cons (r0.mono e2) r2) c h2
            · rw [if_neg c] at h2
              exact h2.elim
        · exact h1.elim
      · exact h1.elim
    · exact h1.elim)
theorem de_methG {T : MT} {pl : Sem Bool} (hT : MtT X.prog X.w X.K X.mg X.base k T) (hr : Room k X.A) (hgd : X.A.guards = some []) (hx : PsE X W) (ho : DE X xi W o mo) (ha : DA X xi W (e :: es) mA)
    (h1 : starEach (e :: es) X.env = (false, eval e X.env) :: starEach es X.env) (h2 : (backTo pos (starEach es X.env)).any (·.1) = false)
    (ht : eval (.Call (.Attribute o m apos) (e :: es) [] pos) X.env = (do
      let ov ← eval o X.env
      standAt apos.atName
      let (f, first) ← holding [ov] (getMethod ov m pl)
      callWith pos f first (backTo pos (starEach (e :: es) X.env)) (backToKw pos (keywordEach [] X.env)))) : DE X xi W (.Call (.Attribute o m apos) (e :: es) [] pos) (mMethI T m mo mA) := by
  obtain ⟨ta, po, so⟩ := ho
  obtain ⟨t, pa, sa⟩ := ha
  refine ⟨_, ⟨fun pins s σ H Q I h => ?_⟩, se_methG hT so sa⟩
  refine PySem.W.methodCall_KW (pl := pl) (thn (po.run pins s σ H _ I h) fun u s1 ⟨x, H1, I1, rx, a, C, dx, fs, f, n, g, ex, ea, c, k1, l, F, q⟩ => ?_) ht
  subst ex
  obtain rfl : u = Value.ref a := rx
  obtain ⟨fd, ps, kp, hb, hn, F⟩ := F.ex
  refine getmeth_ok I1 ea c k1 l ?_
  refine PySem.W.callWith_K (first := [.ref a]) (h₀ := X.base) I1.ok.mod.kin kp (thn (pa.run pos pins s1 σ H1 _ I1 q) fun us s2 ⟨vs, H2, I2, r, q2⟩ => ⟨I2.kIn, ?_⟩) h1 h2
  exact run_fnG (us := .ref a :: us) (vs := .ref a :: vs) F hr hgd hb hx I2 (.cons rfl r) q2
theorem de_methG0 {T : MT} {pl : Sem Bool} (hT : MtT X.prog X.w X.K X.mg X.base k T) (hr : Room k X.A) (hgd : X.A.guards = some []) (hx : PsE X W) (ho : DE X xi W o mo)
    (ht : eval (.Call (.Attribute o m apos) [] [] pos) X.env = (do
      let ov ← eval o X.env
      standAt apos.atName
      let (f, first) ← holding [ov] (getMethod ov m pl)
      callWith pos f first (backTo pos (starEach [] X.env)) (backToKw pos (keywordEach [] X.env)))) : DE X xi W (.Call (.Attribute o m apos) [] [] pos) (mMethI T m mo mNil) := by
  obtain ⟨ta, po, so⟩ := ho
  refine ⟨_, ⟨fun pins s σ H Q I h => ?_⟩, se_methG hT so (sa_nil (xi := xi))⟩
  refine PySem.W.methodCall_KW (pl := pl) (thn (po.run pins s σ H _ I h) fun u s1 ⟨x, H1, I1, rx, a, C, dx, fs, f, n, g, ex, ea, c, k1, l, F, q⟩ => ?_) ht
  subst ex
  obtain rfl : u = Value.ref a := rx
  obtain ⟨fd, ps, kp, hb, hn, F⟩ := F.ex
  exact getmeth_ok I1 ea c k1 l (PySem.W.callWith_K0 (first := [.ref a]) I1.kIn kp (run_fnG (us := [.ref a]) (vs := [.ref a]) F hr hgd hb hx I1 (.cons rfl .nil) q))
/-! ### a class called -/
/-- C(..): an instance without fields, then __init__ -/
def mMake (C : Str) (n : Nat) (g : List MV → MH → Res MV) (a : MA) : ME := fun τ M => (a τ M).bind fun xs M => if xs.length + 1 = n then
    (g (.ref M.n :: xs) (M.push (.ins C []))).bind fun v M2 => (match v with
      | .non => .ok (.ref M.n) M2
      | _ => .stuck) else .stuck
theorem run_makeG {pins : List (Addr × Obj)} {σ : St} {H : Hp} {s : Shared} {Q : VK} {us : List Value} {vs : List V} (M : Mk X.K C f) (F : FnG X.prog X.w X.K X.mg X.base k f fd ps sp) (hr : Room (k + 1) X.A) (hgd : X.A.guards = some []) (hb : Binds X.K fd ps []) (hx : PsE X W) (I : L2.Inv X pins σ H s) (r : Vals vs us)
    (h : ∀ x dx, H x = none → H dx = none → dx ≠ x → sp (.ref x :: vs) (upd (upd H dx (.own x)) x (.ins C dx [])) (fun v H2 => v = .non ∧ Q (.ref x) H2) (WE W σ)) :
    wpAny (model X.prog X.w) X.A (call (.ref C) us) (EP X pins σ Q) X.xe s := by
  have hq := h (s.heap.objs.size + 1) s.heap.objs.size (I.hok.fresh (Nat.le_succ _)) (I.hok.fresh (Nat.le_refl _)) (Nat.ne_of_lt (Nat.lt_succ_self _))
  have I2 := Inv.made (C := C) I
  have r2 : Vals (V.ref (s.heap.objs.size + 1) :: vs) (Value.ref (s.heap.objs.size + 1) :: us) := .cons rfl r
  have hl : (Value.ref (s.heap.objs.size + 1) :: us).length = ps.length := by
    rw [← r2.length]
    exact F.len _ _ _ _ hq
  have b := hb _ (Value.ref (s.heap.objs.size + 1) :: us) I2.kIn (by rw [List.append_nil]; exact hl)
  rw [List.append_nil] at b
  have gd : (X.A.under (.builtin "type.__call__" ⟨.ref C :: us, []⟩)).guards = some [] := by
    unfold Around.under
    dsimp only
    rw [hgd]
    first
    | rfl
    | decide
    | simp [Code.guards, Code.isGuard, guardIds, pushGuards]
  refine wpAny_call (make_map (f := f) I.kIn M.makes M.init (beq_iff_eq.mp M.fn) (codeAny_mono (F.run _ X.stack _ _ ⟨Value.ref (s.heap.objs.size + 1) :: us, []⟩ (Value.ref (s.heap.objs.size + 1) :: us) _ _ _ (hr.make C us []) gd (I2.env0.make C us []) b r2 hq) ?_))
  intro r s' hq'
  cases r with
  | error e => exact hx σ pins _ _ e s' I2 hq'
  | ok fl =>
    cases fl with
    | ret u =>
      obtain ⟨v, H', I3, rv, ev, q3⟩ := I2.after hq'
      subst ev
      exact ⟨rv, ⟨V.ref (s.heap.objs.size + 1), H', I3, rfl, q3⟩⟩
    | next => exact hq'.elim
    | brk => exact hq'.elim
    | cont => exact hq'.elim
theorem de_make {n : Nat} {c : Str} (M : Mk X.K (He.ga X.K c) f) (F : FnT X.prog X.w X.K X.mg X.base k f n g) (hr : Room (k + 1) X.A) (hgd : X.A.guards = some []) (hx : PsE X W) (hg : Gl X x) (hm : X.mg x = some (.ref (He.ga X.K c))) (hdb : (x == ("__debug__" : Str)) = false) (ha : DA X xi W (e :: es) mA)
    (he : starEach (e :: es) X.env = (false, eval e X.env) :: starEach es X.env) (hpl : (backTo pos (starEach es X.env)).any (·.1) = false) : DE X xi W (.Call (.Name x p) (e :: es) [] pos) (mMake c n g mA) := by
  obtain ⟨t, pa, sa⟩ := ha
  obtain ⟨fd, ps, kp, hb, hn, F⟩ := F.ex
  refine ⟨fun σ H Q => t σ H fun vs H1 => ∀ x dx, H1 x = none → H1 dx = none → dx ≠ x → spM X.K n g (.ref x :: vs) (upd (upd H1 dx (.own x)) x (.ins (He.ga X.K c) dx [])) (fun v H2 => v = .non ∧ Q (.ref x) H2) (WE W σ),
    ⟨fun pins s σ H Q I h => ?_⟩, fun ρ M0 H σ τ Q S R h => sa ρ M0 H σ τ _ S R (QR.bind h fun xs M1 ρ1 H1 us e1 S1 r1 h1 => fun a dx na nd ne => ?_)⟩
  · refine wpAny_Call_Name_kw (ld_glob I hg hm ?_ hdb)
    refine PySem.W.callWith_K (h₀ := X.base) I.ok.mod.kin M.kp (thn (pa.run pos pins s σ H _ I h) fun us s1 ⟨vs, H1, I1, r, q⟩ => ⟨I1.kIn, ?_⟩) he hpl
    exact run_makeG M F hr hgd hb hx I1 r q
  · by_cases cc : xs.length + 1 = n
    · rw [if_pos cc] at h1
      obtain ⟨e2, S2⟩ := S1.beside (ho := .own a) nd
      have na2 : upd H1 dx (.own a) a = none := by rw [upd_ne (Ne.symm ne)]; exact na
      obtain ⟨e3, S3⟩ := S2.new (o := .ins c []) (ho := .ins (He.ga X.K c) dx []) na2 ⟨dx, [], upd_same, .nil⟩
      have e4 := e2.trans e3
      refine spM_of S3 (.cons (.ref (if_pos rfl)) (r1.mono e4)) (by rw [List.length_cons]; exact cc) ?_
      refine QR.bind (QR.mono e4 h1) fun v M4 ρ4 H4 u e5 S4 r4 h4 => ?_
      cases v with
      | non => cases r4; exact ⟨rfl, h4.here S4 (.ref (e5.r _ _ (if_pos rfl)))⟩
      | _ => exact h4.elim
    · rw [if_neg cc] at h1
      exact h1.elim
end
end MX
end
section
set_option Elab.async false
set_option linter.all false
set_option maxRecDepth 100000
set_option maxHeartbeats 2000000
/-! MX12: defs, raise, try. -/
namespace MX
open PySem PySem.Spec L2
/-- the weakest reading of a suite -/
def tSt (K : PySem.W.Frag) (xi : Option XI) (W : WX) (m : MS) : TS := fun D σ H => ∃ ρ M τ, Sim K ρ M H ∧ SR K xi ρ H τ σ ∧ SQ K xi W ρ H D (m τ M)
theorem DSs.can {X : Cx} {xi : Option XI} {W : WX} {st : List Stmt} {m : MS} (h : DSs X xi W st m) : PSs X st (tSt X.K xi W m) := by
  obtain ⟨t, p, s⟩ := h
  exact ⟨fun pins s0 σ H D I ⟨ρ, M, τ, S, R, q⟩ => p.run pins s0 σ H D I (s ρ M H σ τ D S R q)⟩
theorem ds_of {X : Cx} {xi : Option XI} {W : WX} {st : Stmt} {m : MS} (h : PS X st (tSt X.K xi W m)) : DS X xi W st m := ⟨_, h, fun ρ M H σ τ D S R q => ⟨ρ, M, τ, S, R, q⟩⟩
/-! ### a def by its body -/
def startM (n : Nat) (xs : List MV) : MX.Loc := xs.map .va ++ List.replicate (n - xs.length) .un
theorem start_SR {K : PySem.W.Frag} {xi : Option XI} {ρ : Nat → Option Addr} {H : Hp} {xs : List MV} {vs : List V} (N : List Str) (r : VRs K ρ H xs vs) : SR K xi ρ H (startM N.length xs) (L2.start N vs) := by
  have hl := r.length
  refine ⟨by unfold startM L2.start; rw [List.length_append, List.length_append, List.length_map, List.length_map, List.length_replicate, List.length_replicate, hl], fun i l o h1 h2 => ?_⟩
  unfold startM at h1
  unfold L2.start at h2
  by_cases hi : i < xs.length
  · rw [List.getElem?_append_left (by rw [List.length_map]; exact hi), List.getElem?_map] at h1
    rw [List.getElem?_append_left (by rw [List.length_map, ← hl]; exact hi), List.getElem?_map] at h2
    obtain ⟨x, e1, rfl⟩ := Option.map_eq_some_iff.mp h1
    obtain ⟨y, e2, rfl⟩ := Option.map_eq_some_iff.mp h2
    obtain ⟨z, e3, rz⟩ := r.get e1
    rw [e2] at e3
    cases e3
    exact ⟨y, rfl, rz⟩
  · rw [List.getElem?_append_right (by rw [List.length_map]; exact Nat.le_of_not_lt hi), List.getElem?_replicate] at h1
    split at h1
    · cases h1; trivial
    · cases h1
def runBody (n : Nat) (m : MS) (xs : List MV) (M : MH) : Res MV := match m (startM n xs) M with
  | .nx _ M => .ok .non M
  | .rt v M => .ok v M
  | .ex c fs _ M => .ex c fs M
  | _ => .stuck
section
variable {P : Program} {w : World} {K : PySem.W.Frag} {mg : Str → Option Value} {base : Heap} {k : Nat} {f : Addr} {fd : FuncData} {x qual : Str} {params : Arguments} {body : List Stmt} {scope : Scope} {dvs : List V} {kws : List (Str × V)} {N ps : List Str} {sp : Sp}
theorem fnG_of (F : FunD K x qual params body scope dvs kws f fd) (S : FnScope N ps scope) (len : ∀ vs H Q E, sp vs H Q E → vs.length = ps.length)
    (hbody : ∀ (cdv : Value) (A : Around) (outer : List Env) (s : Shared) (H : Hp) (vs : List V) (Q : VK) (E : XK), Room k (A.deeper (PyProof.Rows.envOfC qual scope s.heap.objs.size f cdv)) → A.guards = some [] → sp vs H Q E →
      ∃ t, PSs (cxOf (L2.CX P w) P w K mg base N qual scope f cdv A outer s H E) body t ∧ t { nx := fun _ H' => Q .non H', rt := Q } (L2.start N vs) H) : FnG P w K mg base (k + 1) f fd ps sp := by
  obtain ⟨oc, od, dV, kV, doc, pm, an, cdv, ct, osl, rfl, lk, hcd, _, _⟩ := F.ex
  refine ⟨len, fun A outer s H args us vs Q E hr hgd e0 hb r hsp => ?_⟩
  have KX : K.In s.heap := e0.mod.kin.keeps fun b o e => (e0.bs b o e).1
  have lim : s.heap.NoLimit := e0.mod.nolimit.keeps fun b o e => (e0.bs b o e).1
  refine codeAny_call_function hr.depth (KX _ _ lk) rfl S.co S.gen rfl (PySem.W.codeRec_of KX hcd) (hb _ _ _ _ ?_)
  refine wpAny_newFunctionEnv_cells S.kind (fun y hy => ?_) ?_
  · rcases S.par y.1 (List.of_mem_zip hy).1 with q | q
    · exact .inl q
    · exact .inr ⟨q, PySem.W.cellsFrom_some _ _ _ (.inl q)⟩
  intro env he s1 x1
  subst he
  refine ⟨lim.keeps x1.toInCall.keep, codeAny_func ?_⟩
  obtain ⟨t, ht, hq⟩ := hbody cdv A outer s H vs Q E (hr.deeper _) hgd hsp
  have I : L2.Inv (cxOf (L2.CX P w) P w K mg base N qual scope f cdv A outer s H E) [] (L2.start N vs) H s1 := inv_start S hr.hd e0 (len _ _ _ _ hsp) r x1
  refine wpAny_mono (ht.run [] s1 (L2.start N vs) H _ I hq) ?_ fun _ _ z => z
  intro fl s' hs
  have close : ∀ {σ' : St} {H' : Hp} {v : V} {u : Value}, L2.Inv (cxOf (L2.CX P w) P w K mg base N qual scope f cdv A outer s H E) [] σ' H' s' → RelV v u → Q v H' → CE outer P w H s Q u s' :=
    fun {σ' H' v u} J rv q => ⟨v, H', J.os, J.bare, J.base, J.hok, rv, q⟩
  match fl, hs with
  | .ret u, ⟨v, σ', H', J, rv, q⟩ => exact close J rv q
  | .next, ⟨σ', H', J, q⟩ => exact close (v := V.non) (u := Value.none) J rfl q
  | .brk, ⟨_, _, _, q⟩ => exact q.elim
  | .cont, ⟨_, _, _, q⟩ => exact q.elim
/-- the context of a def's body, as the readings ask -/
structure BodyCx (P : Program) (w : World) (K : PySem.W.Frag) (mg : Str → Option Value) (base : Heap) (N : List Str) (scope : Scope) (k : Nat) (X : Cx) (W : WX) : Prop where
  prog : X.prog = P
  w_ : X.w = w
  K_ : X.K = K
  mg_ : X.mg = mg
  base_ : X.base = base
  N_ : X.N = N
  sc : X.env.scope = scope
  stk : X.stack = X.env :: X.outer
  frm : X.env.frame = some X.env.locals
  calm : X.calm = true
  room : Room k X.A
  gd : X.A.guards = some []
  tk : Takes X W
  pass : PassesOwn (model X.prog X.w) X.A X.env X.xe
  fn : ∀ x, X.fn x = true
theorem fnM_of {m : MS} (F : FunD K x qual params body scope dvs kws f fd) (S : FnScope N ps scope) (hm : ∀ X W, BodyCx P w K mg base N scope k X W → DSs X none W body m) :
    FnG P w K mg base (k + 1) f fd ps (spM K ps.length (runBody N.length m)) := by
  refine fnG_of F S (fun vs H Q E h => h.1) fun cdv A outer s H vs Q E hr hgd h => ?_
  have gd2 : (A.deeper (PyProof.Rows.envOfC qual scope s.heap.objs.size f cdv)).guards = some [] := hgd
  have B : BodyCx P w K mg base N scope k (cxOf (L2.CX P w) P w K mg base N qual scope f cdv A outer s H E) (fun cls d _ H => E cls d H) := ⟨rfl, rfl, rfl, rfl, rfl, rfl, rfl, rfl, rfl, rfl, hr, gd2, takes_of rfl rfl rfl rfl, passes_of rfl, fun _ => rfl⟩
  refine ⟨_, (hm _ _ B).can, ?_⟩
  obtain ⟨hl, ρ, M, xs, S0, r, q⟩ := h
  refine ⟨ρ, M, startM N.length xs, S0, start_SR N r, ?_⟩
  show SQ K none _ ρ H _ (m (startM N.length xs) M)
  unfold runBody at q
  generalize m (startM N.length xs) M = o at q ⊢
  cases o with
  | nx τ M1 => exact fun ρ' H' σ' e s _ => q ρ' H' .non e s .non
  | rt v M1 => exact q
  | bk τ M1 => exact q.elim
  | ct τ M1 => exact q.elim
  | ex c fs τ M1 => exact fun ρ' H' σ' d e s _ x => q ρ' H' d e s x
  | stuck => exact q
end
/-! ### raise -/
abbrev MMk := MX.Loc → MH → Res (Str × List (Str × MV))
def SMk (K : PySem.W.Frag) (W : WX) (t : St → Hp → XK → Prop) (m : MMk) : Prop := ∀ ρ M H σ τ Q, Sim K ρ M H → SR K none ρ H τ σ →
  (match m τ M with
  | .ok cf M => ∀ ρ' H' d, Ext ρ H ρ' H' → Sim K ρ' M H' → XR K ρ' H' cf.2 d → Q (.ref (He.ga K cf.1)) d H'
  | .ex c fs M => ∀ ρ' H' d, Ext ρ H ρ' H' → Sim K ρ' M H' → XR K ρ' H' fs d → W (.ref (He.ga K c)) d σ H'
  | .stuck => False) → t σ H Q
def DMk (X : Cx) (W : WX) (e : Expr) (m : MMk) : Prop := ∃ t, PMk X e t ∧ SMk X.K W t m
def mRaise (m : MMk) : MS := fun τ M => match m τ M with
  | .ok cf M => .ex cf.1 cf.2 τ M
  | .ex c fs M => .ex c fs τ M
  | .stuck => .stuck
section
variable {X : Cx} {W : WX} {e : Expr} {es : List Expr} {mm : MMk} {mA : MA} {pos p p1 p2 : Pos} {x : Str}
theorem ds_raise (hc : X.calm = true) (tk : Takes X W) (h : DMk X W e mm) : DS X none W (.Raise (some e) none pos) (mRaise mm) := by
  obtain ⟨t, p, s⟩ := h
  refine ⟨_, ps_raise hc tk p, fun ρ M H σ τ D S R q => s ρ M H σ τ _ S R ?_⟩
  unfold mRaise at q
  generalize mm τ M = z at q ⊢
  cases z with
  | ok cf M1 => exact fun ρ' H' d e s x => q ρ' H' σ d e s (R.mono e) x
  | ex c fs M1 => exact fun ρ' H' d e s x => q ρ' H' σ d e s (R.mono e) x
  | stuck => exact q
end
end MX
end
section
set_option Elab.async false
set_option linter.all false
set_option maxRecDepth 100000
set_option maxHeartbeats 2000000
/-! MX13: forms of the text. -/
namespace MX
open PySem PySem.Spec L2
def isSt : Expr → Bool
  | .Starred .. => true
  | _ => false
theorem star_cons {e : Expr} (h : isSt e = false) (es : List Expr) (env : Env) : starEach (e :: es) env = (false, eval e env) :: starEach es env := by
  cases e <;> first | rfl | cases h
theorem star_any {pos : Pos} : ∀ (es : List Expr) (env : Env), es.any isSt = false → (backTo pos (starEach es env)).any (·.1) = false
  | [], _, _ => rfl
  | e :: es, env, h => by
    rw [List.any_cons, Bool.or_eq_false_iff] at h
    rw [star_cons h.1]
    exact star_any es env h.2
def isSuper : Expr → Bool
  | .Call _ [] [] _ => true
  | _ => false
theorem base_plain {o : Expr} {a : Str} {env : Env} {w : Sem Value} (h : isSuper o = false) : attributeBase o a env w = w := by
  unfold attributeBase
  split
  · cases h
  · rfl
def isSl : Expr → Bool
  | .Slice .. => true
  | _ => false
theorem plainIx {b : Expr} (h : isSl b = false) : PlainIx b := fun o i => by
  cases b <;> first | rfl | cases h
def isComp : Expr → Bool
  | .ListComp .. | .SetComp .. | .DictComp .. => true
  | _ => false
theorem swaps_plain {e : Expr} {t : Option Expr} {l : Nat} {env : Env} (h : isComp e = false) : swapsWith e t l env = pure false := by
  cases e <;> first | rfl | cases h
theorem swapsSole_plain {e t : Expr} {l : Nat} {env : Env} (h : isComp e = false) : swapsWithSole [t] e l env = pure false := swaps_plain h
def isDisp : Expr → Bool
  | .Tuple .. | .List .. => true
  | _ => false
theorem swapped_plain {e t : Expr} {env : Env} (h : isDisp e = false) : swappedStores [t] e env = pure none := by
  cases e <;> first | (cases t <;> rfl) | cases h
def isBoolish : Expr → Bool
  | .UnaryOp .Not _ _ | .BoolOp .. | .IfExp .. | .Compare .. => true
  | _ => false
theorem truth_plain {e : Expr} {env : Env} (h : isBoolish e = false) : ∀ whole, isTrue e env whole = (do let v ← whole; standAt e.pos; holding [v] (truthy v)) := fun whole => by
  cases e with
  | UnaryOp op x p => cases op <;> first | rfl | cases h
  | _ => first | rfl | cases h
def isSet : Expr → Bool
  | .Set .. => true
  | _ => false
theorem folded_plain {e : Expr} {env : Env} (h : isSet e = false) : ∀ x, foldedSetIterable e env x = pure x := fun x => by
  cases e <;> first | rfl | cases h
theorem marks_plain {op : CmpOp} {e : Expr} (h : isSet e = false) : behindInMarks op e = false := by
  cases e <;> first | rfl | cases h
theorem assign_cons {e : Expr} (h : isSt e = false) (es : List Expr) (env : Env) : (assignEach (e :: es) env).map (·.2) = assign e env :: (assignEach es env).map (·.2) := by
  cases e <;> first | rfl | cases h
theorem assign_len : ∀ (es : List Expr) (env : Env), (assignEach es env).length = es.length
  | [], _ => rfl
  | e :: es, env => by
    have ih := assign_len es env
    cases e <;> exact congrArg (· + 1) ih
theorem assign_find : ∀ (es : List Expr) (env : Env), es.any isSt = false → (assignEach es env).findIdx? (·.1) = none
  | [], _, _ => rfl
  | e :: es, env, h => by
    rw [List.any_cons, Bool.or_eq_false_iff] at h
    have ih := assign_find es env h.2
    have e1 : assignEach (e :: es) env = (false, assign e env) :: assignEach es env := by
      have h1 := h.1
      cases e <;> first | rfl | cases h1
    rw [e1, List.findIdx?_cons, ih]
    rfl
theorem all_plain {pos : Pos} : ∀ (es : List Expr) (env : Env), es.any isSt = false → (backTo pos (starEach es env)).all (fun x => !x.1) = true
  | [], _, _ => rfl
  | e :: es, env, h => by
    rw [List.any_cons, Bool.or_eq_false_iff] at h
    rw [star_cons h.1]
    exact all_plain es env h.2
/-- a method call, its receiver no super() -/
theorem meth_form {o : Expr} {m : Str} {apos pos : Pos} {args : List Expr} {env : Env} (hb : isSuper o = false) (hs : args.any isSt = false) (hl : args.length < 29) (hline : (apos.endLine == pos.line) = true) :
    eval (.Call (.Attribute o m apos) args [] pos) env = (do
      let ov ← eval o env
      standAt apos.atName
      let (f, first) ← holding [ov] (getMethod ov m (do return (← importBound o env).getD true))
      callWith pos f first (backTo pos (starEach args env)) (backToKw pos (keywordEach [] env))) := by
  have form : methodCallForm (args.length + ([] : List Keyword).length) (backTo pos (starEach args env)) (backToKw pos (keywordEach [] env)) = true := by
    unfold methodCallForm
    rw [Bool.and_eq_true, Bool.and_eq_true]
    refine ⟨⟨all_plain args env hs, rfl⟩, ?_⟩
    exact decide_eq_true (by show args.length + 0 + _ < 30; simp only [keywordEach, backToKw, List.map_nil, List.isEmpty_nil, if_true]; omega)
  rw [PySem.arm_eval_Call]
  rw [base_plain hb]
  unfold methodCall
  rw [form]
  unfold methodCallPos calleeOf
  rw [hline]
  rfl
theorem few_form {args : List Expr} {env : Env} {pos : Pos} (hs : args.any isSt = false) (hl : args.length < 29) : ((backTo pos (starEach args env)).all (fun x => !x.1) && (backToKw pos (keywordEach [] env)).all (fun x => x.1.isSome)
      && decide (args.length + ([] : List Keyword).length + (if ([] : List Keyword).isEmpty then 0 else 1) < 30)) = true := by
  rw [all_plain args env hs]
  exact decide_eq_true (by show args.length + 0 + 0 < 30; omega)
end MX
end
section
set_option Elab.async false
set_option linter.all false
set_option maxRecDepth 100000
set_option maxHeartbeats 2000000
/-! MX14: exceptions: made, caught, read. -/
namespace MX
open PySem PySem.Spec L2
abbrev veMro : List Value := [.type "ValueError", .type "Exception", .type "BaseException", .type "object"]
/-! ### raised with a text -/
structure ExT (K : PySem.W.Frag) (mg : Str → Option Value) (c : Str) : Prop where
  q : PySem.W.excIn K (He.ga K c) veMro "ValueError.__new__" = true
  g : mg c = some (.ref (He.ga K c))
  kp : PySem.W.keepIn K (.ref (He.ga K c)) = true
  r1 : PySem.W.subIn K (.ref (He.ga K c)) (.type "BaseException") = some true
  r2 : PySem.W.typeIn K (.ref (He.ga K c)) = some (.type "type")
section
variable {X : Cx} {W : WX} {e : Expr} {es : List Expr} {mA : MA} {pos p p1 p2 p3 p4 p5 p6 p7 p8 p9 p10 : Pos} {x c : Str}
def mMkT (c : Str) : MMk := fun _ M => .ok (c, []) M
theorem dmk_text {m : Str} {j : Nat} (T : ExT X.K X.mg c) (hg : Gl X c) (hdb : (c == ("__debug__" : Str)) = false) : DMk X W (.Call (.Name c p) [.Constant (.str m) j p2] [] pos) (mMkT c) :=
  ⟨_, pmk_own PySem.F.excBase_ValueError T.q T.g T.kp (raises_own T.r1 T.r2) hg hdb, fun ρ M H σ τ Q S R h => h ρ H none Ext.refl S (.inl ⟨rfl, rfl⟩)⟩
/-! ### B.__init__(self, ..) -/
structure BInit (K : PySem.W.Frag) (B : Addr) : Prop where
  rd : PySem.W.readsIn K B (.type "type") = true
  ga : PySem.W.specialIn K (.ref B) "__getattribute__" = some (some (.builtin "type.__getattribute__"))
  at_ : PySem.W.findCls K (.ref B) (.type "type") "__init__" = some (.val (.builtin "ValueError.__init__"))
theorem pe_binit {B : Addr} {ta : TA} (hg : Gl X x) (hm : X.mg x = some (.ref B)) (hdb : (x == ("__debug__" : Str)) = false) (T : BInit X.K B) (ha : PA X (e :: es) ta) (hs : (e :: es).any isSt = false) (hl : (e :: es).length < 29) (hline : (p2.endLine == pos.line) = true) :
    PE X (.Call (.Attribute (.Name x p1) "__init__" p2) (e :: es) [] pos) (tVeI X.K ta) := by
  refine ⟨fun pins s σ H Q I h => ?_⟩
  refine PySem.W.methodCall_KW (ld_glob I hg hm ?_ hdb) (meth_form rfl hs hl hline)
  refine PySem.W.method_cls I.kIn T.ga (PySem.W.cls_value I.kIn T.rd T.at_ (by decide +kernel) ?_)
  show wpAny _ _ (callWith pos (Value.builtin "ValueError.__init__") [] (backTo pos (starEach (e :: es) X.env)) []) _ _ _
  rw [List.any_cons, Bool.or_eq_false_iff] at hs
  refine PyProof.Rows.callWith_method1 (thn (ha.run pos pins _ σ H _ (I.tok _) h) fun us s1 ⟨vs, H1, I1, r1, a, C, ws, ev, hl2, T, ea, q⟩ => ?_) (star_cons hs.1 es X.env) (star_any es X.env hs.2)
  subst ev
  cases r1 with
  | @cons _ u0 _ ur ra rw' =>
    obtain rfl : u0 = Value.ref a := ra
    refine oinit_ok T I1 ea ?_ fun s' J => ⟨.non, H1, J, rfl, q⟩
    rw [← PySem.Paired.length rw', sizeLine_eq]
    omega
/-! ### an own __init__(self, a): B.__init__(self, 'text'), self.f = a -/
def initBody (b s a f msg : Str) (j : Nat) (p1 p2 p3 p4 p5 p6 p7 p8 p9 p10 : Pos) : List Stmt :=
  [.Expr (.Call (.Attribute (.Name b p1) "__init__" p2) [.Name s p3, .Constant (.str msg) j p4] [] p5) p6, .Assign [.Attribute (.Name s p7) f p8] (.Name a p9) p10]
def spI (K : PySem.W.Frag) (C : Addr) (f : Str) : Sp := fun vs H Q _ => ∃ a v, vs = [.ref a, v] ∧ H a = some (exo a C none) ∧ ∀ d, H d = none → d ≠ a → Q .non (upd (upd H d (exd d [(f, v)])) a (exo a C (some d)))
theorem init_ok {P : Program} {w : World} {K : PySem.W.Frag} {mg : Str → Option Value} {base : Heap} {fI : Addr} {fd : FuncData} {qual b s a f msg : Str} {params : Arguments} {scope : Scope} {B C : Addr} {j : Nat} {nm : Str}
    (F : FunD K nm qual params (initBody b s a f msg j p1 p2 p3 p4 p5 p6 p7 p8 p9 p10) scope [] [] fI fd) (S : FnScope [s, a] [s, a] scope) (hb : scope.names.lookup b = some .globalImplicit) (hm : mg b = some (.ref B)) (hdb : (b == ("__debug__" : Str)) = false)
    (hds : (s == ("__debug__" : Str)) = false) (hcs : (s == ("__classdict__" : Str)) = false) (hda : (a == ("__debug__" : Str)) = false) (hca : (a == ("__classdict__" : Str)) = false) (hline : (p2.endLine == p5.line) = true)
    (T : BInit K B) (O : OexC K C) (hno : PySem.W.findIn K (.ref C) f = some none) : FnOk P w K mg base (L2.CX P w) 1 fI fd [s, a] (spI K C f) := by
  refine F.ok S (fun vs H Q E h => ?_) fun cdv A outer s0 H vs Q E hr h => ?_
  · obtain ⟨a', v, rfl, _⟩ := h
    rfl
  · have vs_ : ∀ i y, ([s, a] : List Str)[i]? = some y → Vis scope y := fun i y hy => by
      rcases S.par y (List.mem_of_getElem? hy) with k | k
      · exact .inl k
      · exact .inr (.inl k)
    obtain ⟨a0, v, rfl, e1, hq⟩ := h
    refine ⟨tSeq (tDrop (tVeI K (tCons (tVar 0) (tCons (tC (.str msg)) tNil)))) (tOst K f (tVar 0) (tVar 1)), pss_cons (ps_expr (pe_binit hb hm hdb T (pa_cons (pe_var (i := 0) rfl (vs_ 0 _ rfl) hds hcs) (pa_cons pe_str pa_nil)) rfl (by show 2 < 29; omega) hline) rfl)
      (pss_one (ps_ost (pe_var (i := 0) rfl (vs_ 0 _ rfl) hds hcs) (pe_var (i := 1) rfl (vs_ 1 _ rfl) hda hca))), ?_⟩
    refine ⟨.ref a0, rfl, a0, C, _, rfl, by show 1 ≤ 1000; omega, O, e1, ?_⟩
    exact ⟨v, rfl, .ref a0, rfl, a0, C, rfl, O, hno, .inl ⟨e1, fun dx n ne => hq dx n ne⟩⟩
/-- what a class with such an __init__ must have -/
structure ExI (P : Program) (w : World) (K : PySem.W.Frag) (mg : Str → Option Value) (base : Heap) (c f : Str) : Prop where
  g : mg c = some (.ref (He.ga K c))
  o : OexC K (He.ga K c)
  fn : ∃ fI fd s a, PySem.W.findIn K (.ref (He.ga K c)) "__init__" = some (some (.ref fI)) ∧ PySem.W.typeIn K (.ref fI) = some (.type "function") ∧ Binds K fd [s, a] [] ∧ FnOk P w K mg base (L2.CX P w) 1 fI fd [s, a] (spI K (He.ga K c) f)
def mMkI (c f : Str) (a : MA) : MMk := fun τ M => (a τ M).bind fun xs M => match xs with
  | [v] => .ok (c, [(f, v)]) M
  | _ => .stuck
theorem dmk_init {f : Str} (T : ExI X.prog X.w X.K X.mg X.base c f) (hr : Room 2 X.A) (hg : Gl X c) (hdb : (c == ("__debug__" : Str)) = false) (hx : ∀ σ, PassesAt (L2.CX X.prog X.w) X σ (WE W σ)) (ha : DA X none W (e :: es) mA) (hs : (e :: es).any isSt = false) :
    DMk X W (.Call (.Name c p) (e :: es) [] pos) (mMkI c f mA) := by
  obtain ⟨t, pa, sa⟩ := ha
  obtain ⟨fI, fd, s, a, h1, h2, hb, F⟩ := T.fn
  rw [List.any_cons, Bool.or_eq_false_iff] at hs
  refine ⟨_, pmk_oex T.o h1 h2 F hr hb .nil (fun pins σ H s e s' I cx => ?_) hg T.g pa hdb (star_cons hs.1 es X.env) (star_any es X.env hs.2), fun ρ M H σ τ Q S R h => ?_⟩
  · obtain ⟨_, _, _, _, _, _, _, _, _, _, _, _, hE⟩ := cx
    exact hE.elim
  · refine sa ρ M H σ τ _ S R ?_
    unfold mMkI at h
    generalize mA τ M = z at h ⊢
    cases z with
    | stuck => exact h
    | ex c' fs M1 => exact h
    | ok xs M1 =>
      intro ρ1 H1 us e1 S1 r1
      dsimp only [Res.bind] at h
      match xs, r1, h with
      | [v], r1, h =>
        obtain ⟨u, rfl, ru⟩ := r1.one
        refine ⟨by show 1 ≤ 1000; omega, fun a na => ?_⟩
        refine ⟨a, u, rfl, upd_same, fun d nd ne => ?_⟩
        rw [upd_ne ne] at nd
        refine ⟨rfl, d, [(f, u)], upd_same, by rw [upd_ne ne, upd_same], nd, ?_⟩
        have eH : upd (del (upd (upd (upd H1 a (exo a (He.ga X.K c) none)) d (exd d [(f, u)])) a (exo a (He.ga X.K c) (some d))) a) d (.xd [(f, u)]) = upd H1 d (.xd [(f, u)]) := by
          funext b
          by_cases hb : b = d
          · subst hb; rw [upd_same, upd_same]
          · rw [upd_ne hb, upd_ne hb]
            by_cases hb2 : b = a
            · subst hb2; rw [del_same, na]
            · rw [del_ne hb2, upd_ne hb2, upd_ne hb, upd_ne hb2]
        have e2 : (fun (v : V) (H2 : Hp) => True) u H1 := trivial
        rw [eH]
        obtain ⟨e3, S3⟩ := S1.beside (ho := .xd [(f, u)]) nd
        exact h ρ1 _ (some d) (e1.trans e3) S3 (.inr ⟨d, [(f, u)], rfl, upd_same, .cons (ru.mono e3) .nil⟩)
      | [], r1, h => exact h.elim
      | _ :: _ :: _, r1, h => exact h.elim
end
end MX
end
section
set_option Elab.async false
set_option linter.all false
set_option maxRecDepth 100000
set_option maxHeartbeats 2000000
/-! MX15: try. -/
namespace MX
open PySem PySem.Spec L2
abbrev WF : WX := fun _ _ _ _ => False
/-- caught exceptions forgotten -/
def clearL (τ : MX.Loc) : MX.Loc := τ.map fun l => match l with
  | .exc _ _ => .un
  | l => l
theorem clear_SR {K : PySem.W.Frag} {xi xi' : Option XI} {ρ : Nat → Option Addr} {H : Hp} {τ : MX.Loc} {σ : St} (R : SR K xi ρ H τ σ) : SR K xi' ρ H (clearL τ) σ := by
  refine ⟨by unfold clearL; rw [List.length_map]; exact R.len, fun i l o h1 h2 => ?_⟩
  unfold clearL at h1
  rw [List.getElem?_map] at h1
  obtain ⟨l0, e1, e2⟩ := Option.map_eq_some_iff.mp h1
  have r := R.at_ i l0 o e1 h2
  cases l0 with
  | un => subst e2; trivial
  | va v => subst e2; exact r
  | exc c fs => subst e2; trivial
theorem none_SR {K : PySem.W.Frag} {xi : Option XI} {ρ : Nat → Option Addr} {H : Hp} {τ : MX.Loc} {σ : St} (R : SR K none ρ H τ σ) : SR K xi ρ H τ σ := by
  refine ⟨R.len, fun i l o h1 h2 => ?_⟩
  have r := R.at_ i l o h1 h2
  cases l with
  | un => trivial
  | va v => exact r
  | exc c fs =>
    obtain ⟨x, h, _⟩ := r
    cases h
/-- behind a suite: the exception's name goes -/
def Out.unname (o : Out) (i : Nat) : Out := match o with
  | .nx τ M => .nx ((clearL τ).set i .un) M
  | .bk τ M => .bk ((clearL τ).set i .un) M
  | .ct τ M => .ct ((clearL τ).set i .un) M
  | .rt v M => .rt v M
  | _ => .stuck
def Out.clear (o : Out) : Out := match o with
  | .nx τ M => .nx (clearL τ) M
  | .bk τ M => .bk (clearL τ) M
  | .ct τ M => .ct (clearL τ) M
  | .rt v M => .rt v M
  | _ => .stuck
/-- which class catches which -/
abbrev Cat := Str → Str → Option Bool
structure CatOk (K : PySem.W.Frag) (T : Cat) (c : Str) (cv : Value) : Prop where
  ok : ∀ c' b, T c' c = some b → PySem.W.exmOne K (.ref (He.ga K c')) cv = some b
def mTryAs (T : Cat) (c : Str) (i : Nat) (mb ms : MS) : MS := fun τ M => match mb τ M with
  | .ex c' fs τ' M' => (match T c' c with
    | some true => (ms (τ'.set i (.exc c' fs)) M').unname i
    | some false => .ex c' fs τ' M'
    | none => .stuck)
  | o => o
def mTryOnly (T : Cat) (c : Str) (mb ms : MS) : MS := fun τ M => match mb τ M with
  | .ex c' fs τ' M' => (match T c' c with
    | some true => (ms τ' M').clear
    | some false => .ex c' fs τ' M'
    | none => .stuck)
  | o => o
section
variable {X : Cx} {W : WX} {T : Cat} {c n : Str} {cv : Value} {i : Nat} {body suite : List Stmt} {b₀ : Stmt} {np pos pos' : Pos} {mb ms : MS}
/-- the body's contexts, the suite's -/
def BodyOk (X : Cx) (body : List Stmt) (mb : MS) : Prop := ∀ (W' : WX) (pn : List (Addr × Obj)) (xe : Value → Shared → Prop), Takes (X.tr pn xe) W' → PassesOwn (model X.prog X.w) X.A X.env xe → DSs (X.tr pn xe) none W' body mb
def SuiteOk (X : Cx) (suite : List Stmt) (ms : MS) : Prop := ∀ (a : Addr) (oe : Obj) (cls : Value) (d : Option Addr) (pn : List (Addr × Obj)), Zc cls d oe → (∃ vs, oe.data = .fields vs) → DSs (X.suite a ((a, oe) :: pn)) (some ⟨a, cls, d⟩) WF suite ms
theorem SQ.unname {K : PySem.W.Frag} {xi : Option XI} {ρ : Nat → Option Addr} {H : Hp} {D : Ends} {o : Out} (h : SQ K none W ρ H D (o.unname i)) :
    SQ K xi WF ρ H { nx := fun σ' H' => D.nx (σ'.set i none) H', rt := D.rt, bk := fun σ' H' => D.bk (σ'.set i none) H', ct := fun σ' H' => D.ct (σ'.set i none) H' } o := by
  cases o with
  | nx τ M => exact fun ρ' H' σ' e s r => h ρ' H' _ e s ((clear_SR r).set (l := .un) (o := none) i trivial)
  | bk τ M => exact fun ρ' H' σ' e s r => h ρ' H' _ e s ((clear_SR r).set (l := .un) (o := none) i trivial)
  | ct τ M => exact fun ρ' H' σ' e s r => h ρ' H' _ e s ((clear_SR r).set (l := .un) (o := none) i trivial)
  | rt v M => exact h
  | ex c fs τ M => exact h.elim
  | stuck => exact h
theorem SQ.clear {K : PySem.W.Frag} {xi : Option XI} {ρ : Nat → Option Addr} {H : Hp} {D : Ends} {o : Out} (h : SQ K none W ρ H D o.clear) : SQ K xi WF ρ H D o := by
  cases o with
  | nx τ M => exact fun ρ' H' σ' e s r => h ρ' H' _ e s (clear_SR r)
  | bk τ M => exact fun ρ' H' σ' e s r => h ρ' H' _ e s (clear_SR r)
  | ct τ M => exact fun ρ' H' σ' e s r => h ρ' H' _ e s (clear_SR r)
  | rt v M => exact h
  | ex c fs τ M => exact h.elim
  | stuck => exact h
theorem SQ.ret {K : PySem.W.Frag} {xi : Option XI} {W W' : WX} {ρ : Nat → Option Addr} {H : Hp} {D : Ends} {o : Out} (h : SQ K xi W ρ H D o) (hn : ∀ c fs τ M, o ≠ .ex c fs τ M) : SQ K xi W' ρ H D o := by
  cases o with
  | nx τ M => exact h
  | bk τ M => exact h
  | ct τ M => exact h
  | rt v M => exact h
  | ex c fs τ M => exact absurd rfl (hn c fs τ M)
  | stuck => exact h
theorem ds_try_as (hs : X.stack = X.env :: X.outer) (hf : X.env.frame = some X.env.locals) (hN : X.N.Nodup) (hi : X.N[i]? = some n) (hln : X.env.kindOf n = some .local) (hc : Names X c cv) (tk : Takes X W) (hT : CatOk X.K T c cv)
    (hb : BodyOk X body mb) (hsu : SuiteOk X (b₀ :: suite) ms) : DS X none W (.Try body [.ExceptHandler (some (.Name c np)) (some n) (b₀ :: suite) pos'] [] [] pos) (mTryAs T c i mb ms) := by
  refine ⟨_, ps_try_as (tb := fun W' => tSt X.K none W' mb) (ts := fun a cls d => tSt X.K (some ⟨a, cls, d⟩) WF ms) hs hf hN hi hln hc tk (fun W' pn xe t p => (hb W' pn xe t p).can) (fun a oe cls d pn z f => (hsu a oe cls d pn z f).can), ?_⟩
  intro ρ M H σ τ D S R h
  refine ⟨ρ, M, τ, S, R, ?_⟩
  unfold mTryAs at h
  generalize mb τ M = o at h ⊢
  cases o with
  | nx τ M => exact h
  | bk τ M => exact h
  | ct τ M => exact h
  | rt v M => exact h
  | stuck => exact h
  | ex c' fs τ' M' =>
    dsimp only at h
    intro ρ' H' σ' d e s r x
    have h' := SQ.mono e h
    cases eT : T c' c with
    | none => rw [eT] at h'; exact h'.elim
    | some b =>
      rw [eT] at h'
      refine ⟨b, hT.ok c' b eT, fun eb a na => ?_, fun eb => ?_⟩
      · subst eb
        refine ⟨ρ', M', _, s, (none_SR r).set (l := .exc c' fs) (o := some (.ref a)) i ⟨⟨a, _, d⟩, rfl, rfl, rfl, x⟩, SQ.unname h'⟩
      · subst eb
        exact h' ρ' H' σ' d Ext.refl s r x
theorem ds_try_only (hs : X.stack = X.env :: X.outer) (hf : X.env.frame = some X.env.locals) (hc : Names X c cv) (tk : Takes X W) (hT : CatOk X.K T c cv)
    (hb : BodyOk X body mb) (hsu : SuiteOk X (b₀ :: suite) ms) : DS X none W (.Try body [.ExceptHandler (some (.Name c np)) none (b₀ :: suite) pos'] [] [] pos) (mTryOnly T c mb ms) := by
  refine ⟨_, ps_try_only (tb := fun W' => tSt X.K none W' mb) (ts := fun a cls d => tSt X.K (some ⟨a, cls, d⟩) WF ms) hs hf hc tk (fun W' pn xe t p => (hb W' pn xe t p).can) (fun a oe cls d pn z f => (hsu a oe cls d pn z f).can), ?_⟩
  intro ρ M H σ τ D S R h
  refine ⟨ρ, M, τ, S, R, ?_⟩
  unfold mTryOnly at h
  generalize mb τ M = o at h ⊢
  cases o with
  | nx τ M => exact h
  | bk τ M => exact h
  | ct τ M => exact h
  | rt v M => exact h
  | stuck => exact h
  | ex c' fs τ' M' =>
    dsimp only at h
    intro ρ' H' σ' d e s r x
    have h' := SQ.mono e h
    cases eT : T c' c with
    | none => rw [eT] at h'; exact h'.elim
    | some b =>
      rw [eT] at h'
      refine ⟨b, hT.ok c' b eT, fun eb a na => ?_, fun eb => ?_⟩
      · subst eb
        exact ⟨ρ', M', _, s, none_SR r, SQ.clear h'⟩
      · subst eb
        exact h' ρ' H' σ' d Ext.refl s r x
end
/-! ### the caught exception's field -/
structure XfOk (K : PySem.W.Frag) (F : Str → Str → Bool) : Prop where
  ok : ∀ C f, F C f = true → XfC K (He.ga K C) ∧ PySem.W.findIn K (.ref (He.ga K C)) f = some none
def mXf (F : Str → Str → Bool) (i : Nat) (f : Str) : ME := fun τ M => match τ[i]? with
  | some (.exc c fs) => if F c f = true then (match fs.lookup f with
    | some v => .ok v M
    | none => .stuck) else .stuck
  | _ => .stuck
theorem de_xf {X : Cx} {a : Addr} {oe : Obj} {cls : Value} {d : Option Addr} {pn : List (Addr × Obj)} {F : Str → Str → Bool} {i : Nat} {f n : Str} {p pos : Pos} {W : WX} (hF : XfOk X.K F) (hz : Zc cls d oe) (hv : ∃ vs, oe.data = .fields vs)
    (hN : X.N[i]? = some n) (hvis : Vis X.env.scope n) (hd : (n == ("__debug__" : Str)) = false) (hcd : (n == ("__classdict__" : Str)) = false) :
    DE (X.suite a ((a, oe) :: pn)) (some ⟨a, cls, d⟩) W (.Attribute (.Name n p) f pos) (mXf F i f) := by
  by_cases hC : ∃ C, cls = .ref (He.ga X.K C) ∧ F C f = true
  · obtain ⟨C, e1, e2⟩ := hC
    obtain ⟨h1, h2⟩ := hF.ok C f e2
    refine ⟨_, pe_xf (C := He.ga X.K C) h1 h2 hz hv (pe_var (X := X.suite a ((a, oe) :: pn)) hN hvis hd hcd) (base_plain rfl), fun ρ M H σ τ Q S R h => ?_⟩
    unfold mXf at h
    split at h
    · rename_i c fs ei
      split at h
      · split at h
        · rename_i v ev
          have hi : i < τ.length := (List.getElem?_eq_some_iff.mp ei).1
          have his : i < σ.length := by rw [← R.len]; exact hi
          obtain ⟨x, q1, q2, q3, q4⟩ := R.at_ i _ σ[i] ei (List.getElem?_eq_getElem his)
          cases q1
          refine ⟨.ref a, by rw [List.getElem?_eq_getElem his, q2], rfl, e1, ?_⟩
          rcases q4 with ⟨rfl, _⟩ | ⟨dd, gs, k1, k2, k3⟩
          · cases ev
          · obtain ⟨u, j1, j2⟩ := (k3.lookup (f := f)).1 v ev
            exact ⟨dd, gs, u, k1, k2, j1, h.here S j2⟩
        · exact h.elim
      · exact h.elim
    · exact h.elim
  · refine ⟨fun _ _ _ => False, ⟨fun _ _ _ _ _ _ h => h.elim⟩, fun ρ M H σ τ Q S R h => ?_⟩
    unfold mXf at h
    split at h
    · rename_i c fs ei
      split at h
      · rename_i hc
        have hi : i < τ.length := (List.getElem?_eq_some_iff.mp ei).1
        have his : i < σ.length := by rw [← R.len]; exact hi
        obtain ⟨x, q1, q2, q3, q4⟩ := R.at_ i _ σ[i] ei (List.getElem?_eq_getElem his)
        cases q1
        exact hC ⟨c, q3, hc⟩
      · exact h.elim
    · exact h.elim
end MX
end
section
set_option Elab.async false
set_option linter.all false
set_option maxRecDepth 100000
set_option maxHeartbeats 4000000
/-! MX16: the meaning of expressions, reckoned from the text. -/
namespace MX
open PySem PySem.Spec L2
/-- what a global name is -/
inductive GV where
  | const (v : MV) | fn (n : Nat) (g : List MV → MH → Res MV) | cls (n : Nat) (g : List MV → MH → Res MV) | exT | exI (f : Str) | none
/-- the program's tables -/
structure Tb where
  gk : Str → GV
  blt : Str → Bool
  fld : Str → Str → Bool
  xf : Str → Str → Bool
  cat : Cat
  met : MT
/-- where the text stands -/
structure Cf where
  N : List Str
  sc : Scope
  top : Bool
  calm : Bool
  sui : Bool
  cells : Bool
  fuel : Nat
structure TbOk (P : Program) (w : World) (K : PySem.W.Frag) (mg : Str → Option Value) (base : Heap) (k : Nat) (T : Tb) : Prop where
  const : ∀ x v, T.gk x = .const v → ∃ u vv, mg x = some u ∧ RelV vv u ∧ ∀ ρ H, VR K ρ H v vv
  fn : ∀ x n g, T.gk x = .fn n g → ∃ f, mg x = some (.ref f) ∧ FnT P w K mg base k f n g
  cls : ∀ x n g, T.gk x = .cls n g → ∃ f k', k = k' + 1 ∧ mg x = some (.ref (He.ga K x)) ∧ Mk K (He.ga K x) f ∧ FnT P w K mg base k' f n g
  exT : ∀ x, T.gk x = .exT → ExT K mg x
  exI : ∀ x f, T.gk x = .exI f → ExI P w K mg base x f ∧ 2 ≤ k
  exC : ∀ x, (T.gk x = .exT ∨ ∃ f, T.gk x = .exI f) → CatOk K T.cat x (.ref (He.ga K x))
  blt : ∀ x, T.blt x = true → mg x = Option.none
  fld : FdOk K ⟨T.fld⟩
  xf : XfOk K T.xf
  met : MtT P w K mg base k T.met
  nd : base.NoDigits
structure GoodE (T : Tb) (c : Cf) (X : Cx) (xi : Option XI) (W : WX) : Prop where
  nd : X.N.Nodup
  N_ : X.N = c.N
  sc : X.env.scope = c.sc
  tb : ∃ k, TbOk X.prog X.w X.K X.mg X.base k T ∧ (c.calm = true → XC X ∧ Room k X.A ∧ PsE X W)
  top : c.top = true → X.stack = X.env :: X.outer ∧ X.env.frame = some X.env.locals ∧ Takes X W
  sui : c.sui = true → ∃ a oe cls d pn X0, X = Cx.suite X0 a ((a, oe) :: pn) ∧ xi = some ⟨a, cls, d⟩ ∧ Zc cls d oe ∧ ∃ vs, oe.data = .fields vs
  cells : c.cells = true → ∀ x, X.fn x = true
def badN (x : Str) : Bool := x == ("__debug__" : Str) || x == ("__classdict__" : Str) || x == ("__name__" : Str)
def kindC (c : Cf) (x : Str) : Option NameKind := c.sc.names.lookup x
def isVisC (c : Cf) (x : Str) : Bool := match kindC c x with
  | some .local => true
  | some .cell => true
  | some .free => true
  | _ => false
def isGlC (c : Cf) (x : Str) : Bool := match kindC c x with
  | some .globalImplicit => true
  | _ => false
def isLocC (c : Cf) (x : Str) : Bool := match kindC c x with
  | some .local => true
  | some .cell => c.cells
  | _ => false
def slotN (N : List Str) (x : Str) : Option Nat := N.findIdx? (· == x)
theorem slotN_ok {N : List Str} {x : Str} {i : Nat} (h : slotN N x = some i) : N[i]? = some x := by
  unfold slotN at h
  rw [List.findIdx?_eq_some_iff_getElem] at h
  obtain ⟨hi, h1, _⟩ := h
  rw [List.getElem?_eq_getElem hi]
  exact congrArg some (by simpa using h1)
/-- the built-in classes as values -/
def bltVal (x : Str) : Option MV :=
  if x = "int" then some (.ty "int") else if x = "str" then some (.ty "str") else if x = "bool" then some (.ty "bool") else if x = "tuple" then some (.ty "tuple") else if x = "list" then some (.ty "list") else if x = "dict" then some (.ty "dict") else none
def nameM (T : Tb) (c : Cf) (x : Str) : ME :=
  if badN x = true then mNever else if isVisC c x = true then (match slotN c.N x with
    | some i => mVar i
    | none => mNever) else if isGlC c x = true then (match T.gk x with
      | .const v => mK v
      | .none => if T.blt x = true then (match bltVal x with
        | some v => mK v
        | none => mNever) else mNever
      | _ => mNever) else mNever
section
variable {T : Tb} {c : Cf} {X : Cx} {xi : Option XI} {W : WX} {p pos : Pos} {x : Str}
theorem badN_of (h : ¬ badN x = true) : (x == ("__debug__" : Str)) = false ∧ (x == ("__classdict__" : Str)) = false ∧ x ≠ "__name__" := by
  have h' : badN x = false := by simpa using h
  unfold badN at h'
  rw [Bool.or_eq_false_iff, Bool.or_eq_false_iff] at h'
  exact ⟨h'.1.1, h'.1.2, by simpa using h'.2⟩
theorem GoodE.vis (G : GoodE T c X xi W) (h : isVisC c x = true) : Vis X.env.scope x := by
  unfold isVisC kindC at h
  unfold Vis
  rw [G.sc]
  split at h
  · rename_i e; exact .inl e
  · rename_i e; exact .inr (.inl e)
  · rename_i e; exact .inr (.inr e)
  · cases h
theorem GoodE.gl (G : GoodE T c X xi W) (h : isGlC c x = true) : Gl X x := by
  unfold isGlC kindC at h
  show X.env.scope.names.lookup x = _
  rw [G.sc]
  split at h
  · rename_i e; exact e
  · cases h
theorem GoodE.loc (G : GoodE T c X xi W) (h : isLocC c x = true) : L2.Loc X.env.scope x ∧ (X.fn x = true ∨ X.env.scope.names.lookup x = some .local) := by
  unfold isLocC kindC at h
  unfold L2.Loc
  rw [G.sc]
  split at h
  · rename_i e; exact ⟨.inl e, .inr e⟩
  · rename_i e; exact ⟨.inr e, .inl (G.cells h x)⟩
  · cases h
theorem GoodE.slot (G : GoodE T c X xi W) {i : Nat} (h : slotN c.N x = some i) : X.N[i]? = some x := by
  rw [G.N_]
  exact slotN_ok h
theorem bltVal_ok {v : MV} (h : bltVal x = some v) : ∃ n, v = .ty n ∧ bootBuiltins x = some (.type n) := by
  unfold bltVal at h
  split at h
  · rename_i e; cases h; subst e; exact ⟨_, rfl, by decide +kernel⟩
  split at h
  · rename_i e; cases h; subst e; exact ⟨_, rfl, by decide +kernel⟩
  split at h
  · rename_i e; cases h; subst e; exact ⟨_, rfl, by decide +kernel⟩
  split at h
  · rename_i e; cases h; subst e; exact ⟨_, rfl, by decide +kernel⟩
  split at h
  · rename_i e; cases h; subst e; exact ⟨_, rfl, by decide +kernel⟩
  split at h
  · rename_i e; cases h; subst e; exact ⟨_, rfl, by decide +kernel⟩
  · cases h
theorem de_name (G : GoodE T c X xi W) : DE X xi W (.Name x pos) (nameM T c x) := by
  unfold nameM
  split
  · exact de_never
  · rename_i hb
    obtain ⟨b1, b2, b3⟩ := badN_of hb
    split
    · rename_i hv
      split
      · rename_i i ei
        exact ⟨_, pe_var (G.slot ei) (G.vis hv) b1 b2, se_var⟩
      · exact de_never
    · split
      · rename_i hg
        obtain ⟨k, TB, _⟩ := G.tb
        split
        · rename_i v ev
          obtain ⟨u, vv, h1, h2, h3⟩ := TB.const x v ev
          exact ⟨_, pe_glob (G.gl hg) h1 h2 b1, se_c h3⟩
        · split
          · rename_i hb
            split
            · rename_i v ev
              obtain ⟨n, rfl, e⟩ := bltVal_ok ev
              exact ⟨_, pe_bltn (v := .ty n) (G.gl hg) (TB.blt x hb) e rfl b3 b1, se_c fun ρ H => .ty n⟩
            · exact de_never
          · exact de_never
        · exact de_never
      · exact de_never
/-! ### operators -/
def binF : Operator → Option (MV → MV → MH → Res MV)
  | .Add => some fPlus
  | .Sub => some fMinus
  | .Mult => some fTimes
  | .Mod => some fMod
  | .FloorDiv => some fFdiv
  | .Pow => some fPow
  | .RShift => some fShr
  | _ => none
theorem binF_ok {op : Operator} {f : MV → MV → MH → Res MV} (h : binF op = some f) : ∃ r, OpR X (binaryOp op) r ∧ S2 X.K W r f := by
  unfold binF at h
  split at h <;> cases h
  · exact ⟨_, op_plus, s_plus⟩
  · exact ⟨_, op_minus, s_minus⟩
  · exact ⟨_, op_times, s_times⟩
  · exact ⟨_, op_modN, s_mod⟩
  · exact ⟨_, op_fdivN, s_fdiv⟩
  · exact ⟨_, op_pow, s_pow⟩
  · exact ⟨_, op_shr, s_shr⟩
def cmpF : CmpOp → Option (MV → MV → MH → Res MV)
  | .Eq => some fEq
  | .NotEq => some fNe
  | .Lt => some fLt
  | .LtE => some fLe
  | .Gt => some fGt
  | .GtE => some fGe
  | .In => some fIn
  | .NotIn => some fNotIn
  | _ => none
theorem cmpF_ok {op : CmpOp} {f : MV → MV → MH → Res MV} (hu : X.A.units + 64 < cLine) (h : cmpF op = some f) : ∃ r, OpR X (compareOp op) r ∧ S2 X.K W r f := by
  unfold cmpF at h
  split at h <;> cases h
  · exact ⟨_, op_eqU hu, s_eq⟩
  · exact ⟨_, op_neU hu, s_ne⟩
  · exact ⟨_, op_lt, s_lt⟩
  · exact ⟨_, op_le, s_le⟩
  · exact ⟨_, op_gt, s_gt⟩
  · exact ⟨_, op_ge, s_ge⟩
  · exact ⟨_, op_inT, s_in⟩
  · exact ⟨_, op_notInT, s_notIn⟩
/-! ### built-ins -/
def bltF (x : Str) : Option (List MV → MH → Res MV) :=
  if x = "len" then some fLen else if x = "abs" then some fAbs else if x = "int" then some fIntC else if x = "str" then some fStrC else if x = "isinstance" then some fIsi else if x = "tuple" then some fTupC else
  if x = "list" then some fLstC else if x = "repr" then some fRepr else if x = "all" then some fAll else none
theorem de_bltF {e : Expr} {es : List Expr} {mA : MA} {f : List MV → MH → Res MV} (hx : XC X) (h : bltF x = some f) (hg : Gl X x) (hm : X.mg x = none) (hs : (e :: es).any isSt = false) (ha : DA X xi W (e :: es) mA) : DE X xi W (.Call (.Name x p) (e :: es) [] pos) (mApp f mA) := by
  obtain ⟨t, pa, sa⟩ := ha
  rw [List.any_cons, Bool.or_eq_false_iff] at hs
  have h1 := star_cons hs.1 es X.env
  have h2 := star_any (pos := pos) es X.env hs.2
  unfold bltF at h
  split at h
  · rename_i e; cases h; subst e; exact ⟨_, pe_callB call_len hg hm (by decide +kernel) pa (by decide) (by decide) h1 h2, se_app s_len sa⟩
  split at h
  · rename_i e; cases h; subst e; exact ⟨_, pe_callB call_abs hg hm (by decide +kernel) pa (by decide) (by decide) h1 h2, se_app s_abs sa⟩
  split at h
  · rename_i e; cases h; subst e; exact ⟨_, pe_callTy call_intC hg hm (by decide +kernel) pa (by decide) (by decide) h1 h2, se_app s_intC sa⟩
  split at h
  · rename_i e; cases h; subst e; exact ⟨_, pe_callTy (call_strC hx) hg hm (by decide +kernel) pa (by decide) (by decide) h1 h2, se_app s_strC sa⟩
  split at h
  · rename_i e; cases h; subst e; exact ⟨_, pe_callB call_isi hg hm (by decide +kernel) pa (by decide) (by decide) h1 h2, se_app s_isi sa⟩
  split at h
  · rename_i e; cases h; subst e; exact ⟨_, pe_callTy call_tuple_of hg hm (by decide +kernel) pa (by decide) (by decide) h1 h2, se_app s_tupC sa⟩
  split at h
  · rename_i e; cases h; subst e; exact ⟨_, pe_callTy call_list_of hg hm (by decide +kernel) pa (by decide) (by decide) h1 h2, se_app s_lstC sa⟩
  split at h
  · rename_i e; cases h; subst e; exact ⟨_, pe_callB (call_repr hx) hg hm (by decide +kernel) pa (by decide) (by decide) h1 h2, se_app s_repr sa⟩
  split at h
  · rename_i e; cases h; subst e; exact ⟨_, pe_callB (cr_all hx.calm) hg hm (by decide +kernel) pa (by decide) (by decide) h1 h2, se_app s_all sa⟩
  · cases h
end
end MX
end
section
set_option Elab.async false
set_option linter.all false
set_option maxRecDepth 100000
set_option maxHeartbeats 4000000
/-! MX17: the meaning of expressions, the whole. -/
namespace MX
open PySem PySem.Spec L2
/-! ### methods of built-in types -/
def isLstM (M : MH) : MV → Bool
  | .ref i => (match M.get i with
    | some (.lst _) => true
    | _ => false)
  | _ => false
def isStrM (_ : MH) : MV → Bool
  | .str _ => true
  | _ => false
def mBM (ty : MH → MV → Bool) (f : MV → List MV → MH → Res MV) (o : ME) (a : MA) : ME := fun τ M => (o τ M).bind fun x M => if ty M x = true then (a τ M).bind fun xs M => f x xs M else .stuck
section
variable {X : Cx} {xi : Option XI} {W : WX} {o e : Expr} {es : List Expr} {mo : ME} {mA : MA} {apos pos : Pos} {m : Str} {id : String} {r : V → List V → Hp → VK → Prop} {f : MV → List MV → MH → Res MV} {ty : MH → MV → Bool} {Ty : String}
/-- the small type test tells the type -/
def TyT (K : PySem.W.Frag) (ty : MH → MV → Bool) (T : String) : Prop := ∀ ρ M H x u, Sim K ρ M H → VR K ρ H x u → ty M x = true → tyV K T u H
theorem tyt_lst {K : PySem.W.Frag} : TyT K isLstM "list" := fun ρ M H x u S r h => by
  unfold isLstM at h
  split at h
  · split at h
    · rename_i xs e
      cases r with
      | ref q =>
        obtain ⟨o', g, ro⟩ := S.at_ q
        rw [e] at g
        cases g
        obtain ⟨ys, h1, _⟩ := ro
        exact .inl ⟨rfl, ys, SqL.of h1⟩
    · cases h
  · cases h
theorem tyt_str {K : PySem.W.Frag} : TyT K isStrM "str" := fun ρ M H x u S r h => by
  unfold isStrM at h
  split at h
  · cases r; rfl
  · cases h
theorem de_bm (pa : PlainAttrs Ty) (slot : Slot Ty m id) (hty : typeOf (.builtin id) = pure (.type "method_descriptor")) (hm : MtR X id r) (hf : SM X.K W r f) (ht : TyT X.K ty Ty) (ho : DE X xi W o mo) (ha : DA X xi W (e :: es) mA)
    (hb : isSuper o = false) (hs : (e :: es).any isSt = false) (hl : (e :: es).length < 29) (hline : (apos.endLine == pos.line) = true) : DE X xi W (.Call (.Attribute o m apos) (e :: es) [] pos) (mBM ty f mo mA) := by
  obtain ⟨t, po, so⟩ := ho
  obtain ⟨u, pA, sA⟩ := ha
  have hs' := hs
  rw [List.any_cons, Bool.or_eq_false_iff] at hs'
  refine ⟨_, pe_bm pa slot hty hm po pA (base_plain hb) (few_form hs hl) hline (star_cons hs'.1 es X.env) (star_any es X.env hs'.2), fun ρ M H σ τ Q S R h => so ρ M H σ τ _ S R (QR.bind h fun x M1 ρ1 H1 v e1 S1 r1 h1 => ?_)⟩
  split at h1
  · rename_i c
    exact ⟨ht _ _ _ _ _ S1 r1 c, sA ρ1 M1 H1 σ τ _ S1 (R.mono e1) (QR.bind h1 fun xs M2 ρ2 H2 us e2 S2 r2 h2 => hf ρ2 M2 H2 σ x v xs us Q S2 (r1.mono e2) r2 h2)⟩
  · exact h1.elim
theorem de_bm0 (pa : PlainAttrs Ty) (slot : Slot Ty m id) (hty : typeOf (.builtin id) = pure (.type "method_descriptor")) (hm : MtR X id r) (hf : SM X.K W r f) (ht : TyT X.K ty Ty) (ho : DE X xi W o mo)
    (hb : isSuper o = false) (hline : (apos.endLine == pos.line) = true) : DE X xi W (.Call (.Attribute o m apos) [] [] pos) (mBM ty f mo mNil) := by
  obtain ⟨t, po, so⟩ := ho
  refine ⟨_, pe_bm0 pa slot hty hm po (base_plain hb) hline, fun ρ M H σ τ Q S R h => so ρ M H σ τ _ S R (QR.bind h fun x M1 ρ1 H1 v e1 S1 r1 h1 => ?_)⟩
  split at h1
  · rename_i c
    exact ⟨ht _ _ _ _ _ S1 r1 c, hf ρ1 M1 H1 σ x v [] [] Q S1 r1 .nil h1⟩
  · exact h1.elim
end
/-- a built-in's method by its name -/
def bmF (m : Str) (args : List Expr) : Option ((MH → MV → Bool) × (MV → List MV → MH → Res MV)) := match args with
  | [] => if m = "reverse" then some (isLstM, fRev) else if m = "pop" then some (isLstM, fPop) else none
  | _ => if m = "append" then some (isLstM, fApp) else if m = "extend" then some (isLstM, fExt) else if m = "join" then some (isStrM, fJoin) else none
section
variable {X : Cx} {xi : Option XI} {W : WX} {o : Expr} {args : List Expr} {mo : ME} {mA : MA} {apos pos : Pos} {m : Str} {f : MV → List MV → MH → Res MV} {ty : MH → MV → Bool}
theorem de_bmF (h : bmF m args = some (ty, f)) (ho : DE X xi W o mo) (ha : DA X xi W args mA) (hA : args = [] → mA = mNil) (hb : isSuper o = false) (hs : args.any isSt = false) (hl : args.length < 29) (hline : (apos.endLine == pos.line) = true) : DE X xi W (.Call (.Attribute o m apos) args [] pos) (mBM ty f mo mA) := by
  unfold bmF at h
  split at h
  · have e := hA rfl
    subst e
    split at h
    · rename_i e; cases h; subst e; exact de_bm0 PySem.F.plainAttrs_list PySem.F.slot_list_reverse PySem.F.type_list_reverse mt_reverse s_rev tyt_lst ho hb hline
    split at h
    · rename_i e; cases h; subst e; exact de_bm0 PySem.F.plainAttrs_list PySem.F.slot_list_pop PySem.F.type_list_pop mt_pop s_pop tyt_lst ho hb hline
    · cases h
  · rename_i hne
    cases args with
    | nil => exact absurd rfl hne
    | cons e es =>
      split at h
      · rename_i q; cases h; subst q; exact de_bm PySem.F.plainAttrs_list PySem.F.slot_list_append PySem.F.type_list_append mt_append s_app tyt_lst ho ha hb hs hl hline
      split at h
      · rename_i q; cases h; subst q; exact de_bm PySem.F.plainAttrs_list PySem.F.slot_list_extend PySem.F.type_list_extend mt_extend s_ext tyt_lst ho ha hb hs hl hline
      split at h
      · rename_i q; cases h; subst q; exact de_bm PySem.F.plainAttrs_str PySem.F.slot_str_join PySem.F.type_str_join mt_join s_join tyt_str ho ha hb hs hl hline
      · cases h
end
/-! ### targets -/
def tgM (c : Cf) (ok : Nat → Bool) : Nat → Expr → MG
  | 0, _ => mNeverG
  | n + 1, e => match e with
    | .Name x _ => (match slotN c.N x with
      | some i => if (isLocC c x && ok i) = true then gSet i else mNeverG
      | none => mNeverG)
    | .Tuple es _ _ => if (c.calm && !es.any isSt) = true then gUnp (es.map (tgM c ok n)) else mNeverG
    | _ => mNeverG
section
variable {T : Tb} {c : Cf} {X : Cx} {xi : Option XI} {W : WX} {ok : Nat → Bool}
theorem GoodE.xc (G : GoodE T c X xi W) (h : c.calm = true) : XC X := let ⟨_, _, hc⟩ := G.tb; (hc h).1
theorem gm_unp {K : PySem.W.Frag} {n : Nat} {t : TGs} (h : GMs t) : GM (fun v σ H Q => gTup K n t v σ H Q ∨ gLst K n t v σ H Q) := fun u σ H Q Q' w q => by
  rcases q with ⟨a, xs, e, h1, h2, q⟩ | ⟨a, xs, e, h1, h2, q⟩
  · exact .inl ⟨a, xs, e, h1, h2, h _ _ _ _ _ w q⟩
  · exact .inr ⟨a, xs, e, h1, h2, h _ _ _ _ _ w q⟩
def TgOk (X : Cx) (xi : Option XI) (W : WX) (ok : Nat → Bool) (e : Expr) (g : MG) : Prop := ∃ t, PG X e t ∧ SG X.K xi W t g ∧ GM t ∧ ∀ vs, (∀ i, ok i = true → i ∈ vs) → GW vs t
def TgsOk (X : Cx) (xi : Option XI) (W : WX) (ok : Nat → Bool) (es : List Expr) (gs : List MG) : Prop := ∃ t, PGs X es t ∧ SGs X.K xi W t gs ∧ GMs t ∧ ∀ vs, (∀ i, ok i = true → i ∈ vs) → GWs vs t
theorem tgok_never {e : Expr} : TgOk X xi W ok e mNeverG := ⟨fun _ _ _ _ => False, ⟨fun _ _ _ _ _ _ _ _ _ h => h.elim⟩, fun _ _ _ _ _ _ _ _ _ _ _ h => h, fun _ _ _ _ _ _ h => h, fun _ _ _ _ _ _ h => h⟩
theorem tgs_all {gf : Expr → MG} : ∀ (es : List Expr), es.any isSt = false → (∀ e ∈ es, TgOk X xi W ok e (gf e)) → TgsOk X xi W ok es (es.map gf)
  | [], _, _ => by
    obtain ⟨t, p, s⟩ := (dgs_nil : DGs X xi W [] [])
    exact ⟨_, pgs_nil, fun ρ M H σ τ vs us Q S R r h => by
      cases vs with
      | nil => cases r; exact ⟨rfl, After.here (P := Q) h S R⟩
      | cons v vs => exact h.elim, gms_nil, fun vs _ => gws_nil⟩
  | e :: es, hs, h => by
    rw [List.any_cons, Bool.or_eq_false_iff] at hs
    obtain ⟨t, p, s, gm, gw⟩ := h e (List.mem_cons_self ..)
    obtain ⟨u, q, r, gms, gws⟩ := tgs_all es hs.2 fun e' he => h e' (List.mem_cons_of_mem _ he)
    refine ⟨_, pgs_cons p q (assign_cons hs.1 es X.env), fun ρ M H σ τ vs us Q S R rv h => ?_, gms_cons gm gms, fun vs hv => gws_cons (gw vs hv) gm (gws vs hv) gms⟩
    cases rv with
    | nil => exact h.elim
    | cons r1 rs => exact ⟨_, _, rfl, s _ _ _ _ _ _ _ _ S R r1 (GQ.bind h fun τ1 M1 ρ1 H1 σ1 e1 S1 R1 h1 => r ρ1 M1 H1 σ1 τ1 _ _ Q S1 R1 (rs.mono e1) h1)⟩
theorem tg_ok (G : GoodE T c X xi W) : ∀ (n : Nat) (e : Expr), TgOk X xi W ok e (tgM c ok n e)
  | 0, e => tgok_never
  | n + 1, e => by
    unfold tgM
    split
    · rename_i x p
      split
      · rename_i i ei
        split
        · rename_i h
          rw [Bool.and_eq_true] at h
          obtain ⟨h1, h2⟩ := G.loc h.1
          exact ⟨_, pg_name G.nd (G.slot ei) h1 h2, fun ρ M H σ τ v u Q S R r q => After.here (P := Q) q S (R.set i ⟨u, rfl, r⟩), gm_name, fun vs hv => gw_name (hv i h.2)⟩
        · exact tgok_never
      · exact tgok_never
    · rename_i es k p
      split
      · rename_i h
        rw [Bool.and_eq_true, Bool.not_eq_true'] at h
        obtain ⟨t, q, s, gm, gw⟩ := tgs_all (gf := tgM c ok n) es h.2 fun e _ => tg_ok G n e
        have hn : (assignEach es X.env).length = es.length := assign_len es X.env
        have hf := assign_find es X.env h.2
        refine ⟨_, pg_or (pg_tup (G.xc h.1).calm q hn hf) (pg_lst (G.xc h.1).calm q hn hf), fun ρ M H σ τ v u Q S R r h => ?_, gm_unp gm, fun vs hv => gw_unp (gw vs hv)⟩
        unfold gUnp at h
        split at h
        · rename_i xs ex
          have hl := gAll_len h
          rw [List.length_map] at hl
          unfold itemsOf at ex
          split at ex
          · cases ex
            cases r with
            | tup q1 rs => exact .inl ⟨_, _, rfl, q1, by rw [← rs.length]; exact hl, s ρ M H σ τ _ _ Q S R rs h⟩
          · cases ex
            cases r with
            | fro q1 rs => exact .inr ⟨_, _, rfl, q1.l, by rw [← rs.length]; exact hl, s ρ M H σ τ _ _ Q S R rs h⟩
          · split at ex
            · rename_i ys e2
              cases ex
              cases r with
              | ref q1 =>
                obtain ⟨o, g, ro⟩ := S.at_ q1
                rw [e2] at g
                cases g
                obtain ⟨zs, h1, rs⟩ := ro
                exact .inr ⟨_, _, rfl, SqL.of h1, by rw [← rs.length]; exact hl, s ρ M H σ τ _ _ Q S R rs h⟩
            · cases ex
          · cases ex
        · exact h.elim
      · exact tgok_never
    · exact tgok_never
end
/-! ### the comprehension's block -/
def ownOf (N : List Str) (scope : Scope) : List (Str × Nat) := scope.names.filterMap fun y => if (y.2 == .local || y.2 == .cell) = true then (slotN N y.1).map fun i => (y.1, i) else none
def blkB (N : List Str) (sc scope : Scope) : Bool := decide (scope.kind = .function) && (scope.names.all (fun y => decide (scope.names.lookup y.1 = some y.2)) &&
  scope.names.all fun y => match y.2 with
    | .free => (decide (sc.names.lookup y.1 = some .cell) || decide (sc.names.lookup y.1 = some .free))
    | _ => true)
theorem blkB_ok {N : List Str} {sc scope : Scope} (h : blkB N sc scope = true) : BlkOk N sc scope (ownOf N scope) := by
  unfold blkB at h
  rw [Bool.and_eq_true, Bool.and_eq_true, decide_eq_true_eq, List.all_eq_true, List.all_eq_true] at h
  obtain ⟨h1, h2, h3⟩ := h
  refine ⟨h1, fun y hy => of_decide_eq_true (h2 y hy), fun p hp => ?_, fun y hy e => ?_, fun y hy e => ?_⟩
  · unfold ownOf at hp
    obtain ⟨y, hy, e⟩ := List.mem_filterMap.mp hp
    split at e
    · obtain ⟨i, e1, e2⟩ := Option.map_eq_some_iff.mp e
      subst e2
      exact slotN_ok e1
    · cases e
  · have z := h3 y hy
    rw [e] at z
    simp only [Bool.or_eq_true, decide_eq_true_eq] at z
    exact z
  · by_cases hN : y.1 ∈ N
    · left
      obtain ⟨i, ei⟩ : ∃ i, slotN N y.1 = some i := by
        unfold slotN
        cases q : N.findIdx? (· == y.1) with
        | some i => exact ⟨i, rfl⟩
        | none =>
          rw [List.findIdx?_eq_none_iff] at q
          have z := q y.1 hN
          simp at z
      refine List.mem_map.mpr ⟨(y.1, i), List.mem_filterMap.mpr ⟨y, hy, ?_⟩, rfl⟩
      rw [if_pos (by rcases e with e | e <;> rw [e] <;> rfl), ei]
      rfl
    · exact .inr hN
def cBlk (c : Cf) (scope : Scope) : Cf := { c with sc := relS scope c.sc, top := false, cells := false, sui := false }
theorem GoodE.blk {T : Tb} {c : Cf} {X Xb : Cx} {xi : Option XI} {W Wb : WX} {scope : Scope} (G : GoodE T c X xi W) (h : BlkCx X scope Xb) (hp : PsE Xb Wb) : GoodE T (cBlk c scope) Xb xi Wb := by
  obtain ⟨s, H, cl, C, fp, E', rfl⟩ := h
  obtain ⟨k, TB, hc⟩ := G.tb
  refine ⟨G.nd, G.N_, ?_, ⟨k, TB, fun h => ?_⟩, fun h => (nomatch (show false = true from h)), fun h => (nomatch (show false = true from h)), fun h => (nomatch (show false = true from h))⟩
  · show relS scope X.env.scope = relS scope c.sc
    rw [G.sc]
  · obtain ⟨x, r, _⟩ := hc h
    exact ⟨⟨x.calm, x.guards, x.nd, x.un⟩, r, hp⟩
end MX
end
section
set_option Elab.async false
set_option linter.all false
set_option maxRecDepth 100000
set_option maxHeartbeats 4000000
/-! MX18: den of expressions and tests. -/
namespace MX
open PySem PySem.Spec L2
def argsM (ev : Expr → ME) : List Expr → MA
  | [] => mNil
  | e :: es => mCons (ev e) (argsM ev es)
def orV : List ME → ME
  | [] => mNever
  | [a] => a
  | a :: r => mOrV a (orV r)
def andV : List ME → ME
  | [] => mNever
  | [a] => a
  | a :: r => mAndV a (andV r)
def orT : List MB → MB
  | [] => mNeverT
  | [a] => a
  | a :: r => mOr a (orT r)
def andT : List MB → MB
  | [] => mNeverT
  | [a] => a
  | a :: r => mAnd a (andT r)
def partM (ev : Expr → ME) : Option Expr → MO'
  | none => mNoPart
  | some e => mPart (ev e)
def cmpM (c : Cf) (ev : Expr → ME) (op : CmpOp) (a b : Expr) : ME :=
  if (decide (op = .Is) && isNone b) = true then mIsN (ev a) else if (decide (op = .IsNot) && isNone b) = true then mNotN (ev a) else
    if (c.calm && !isSet b) = true then (match cmpF op with
      | some f => m2 f (ev a) (ev b)
      | none => mNever) else mNever
where isNone : Expr → Bool
  | .Constant .none _ _ => true
  | _ => false
def callN (T : Tb) (c : Cf) (ev : Expr → ME) (x : Str) (args : List Expr) : ME :=
  if (badN x || !isGlC c x) = true then mNever else match T.gk x with
    | .fn n g => mCall n g (argsM ev args)
    | .cls n g => if args.isEmpty = true then mNever else mMake x n g (argsM ev args)
    | .none => if (T.blt x && !args.isEmpty) = true then (match bltF x with
      | some f => mApp f (argsM ev args)
      | none => mNever) else mNever
    | _ => mNever
def callA (T : Tb) (ev : Expr → ME) (o : Expr) (m : Str) (apos : Pos) (args : List Expr) (pos : Pos) : ME :=
  if (!isSuper o && (decide (args.length < 29) && (apos.endLine == pos.line))) = true then (match bmF m args with
    | some (ty, f) => mBM ty f (ev o) (argsM ev args)
    | none => mMethI T.met m (ev o) (argsM ev args)) else mNever
def callM (T : Tb) (c : Cf) (ev : Expr → ME) (fn : Expr) (args : List Expr) (pos : Pos) : ME :=
  if (c.calm && !args.any isSt) = true then (match fn with
    | .Name x _ => callN T c ev x args
    | .Attribute o m apos => callA T ev o m apos args pos
    | _ => mNever) else mNever
def rng1 (mA : MA) : MI := fun τ M => (mA τ M).bind fun xs M => match xs with
  | [.int j] => if i62 j = true then .ok (.rng 0 j.toNat) M else .stuck
  | _ => .stuck
def rng2 (mA : MA) : MI := fun τ M => (mA τ M).bind fun xs M => match xs with
  | [.int i, .int j] => if (i62 i && i62 j) = true then .ok (.rng i (j - i).toNat) M else .stuck
  | _ => .stuck
def isRng (T : Tb) (c : Cf) : Expr → Option (List Expr)
  | .Call (.Name x _) args [] _ => if (decide (x = "range") && (T.blt x && (isGlC c x && !args.any isSt))) = true then some args else none
  | _ => none
def iterM (T : Tb) (c : Cf) (ev : Expr → ME) (e : Expr) : MI := match isRng T c e with
  | some [a] => rng1 (argsM ev [a])
  | some [a, b] => rng2 (argsM ev [a, b])
  | some _ => mNeverI
  | none => mWalk (ev e)
def testsM (tv : Expr → MB) : List Expr → MB
  | [] => mYes
  | [t] => tv t
  | _ => mNeverT
def lcM (T : Tb) (c : Cf) (ev : Cf → Expr → ME) (tv : Cf → Expr → MB) (elt tg iter : Expr) (ifs : List Expr) (scope : Scope) : ME :=
  if (c.top && (c.calm && (blkB c.N c.sc scope && !isSet iter))) = true then
    mLc c.fuel (iterM T c (ev c) iter) (tgM (cBlk c scope) (fun i => (ownOf c.N scope).any fun p => p.2 == i) 5 tg) (testsM (tv (cBlk c scope)) ifs) (ev (cBlk c scope) elt) ((ownOf c.N scope).map (·.2))
  else mNever
def constM : Const → ME
  | .int i => mK (.int i)
  | .str s => mK (.str s.cps.toList)
  | .bool b => mK (.bl b)
  | .none => mK .non
  | _ => mNever
def unM (ev : Expr → ME) (op : UnaryOp) (a : Expr) : ME := match op with
  | .USub => m1 fNeg (ev a)
  | .Not => mNotV (ev a)
  | _ => mNever
def subM (ev : Expr → ME) (a b : Expr) : ME := match b with
  | .Slice lo hi st _ => (match st with
    | none => mSl (ev a) (partM ev lo) (partM ev hi)
    | some _ => mNever)
  | b => m2 fIx (ev a) (ev b)
def fldM (T : Tb) (c : Cf) (ev : Expr → ME) (o : Expr) (f : Str) : ME :=
  if c.sui = true then (match o with
    | .Name x _ => if (badN x || !isVisC c x) = true then mNever else (match slotN c.N x with
      | some i => mXf T.xf i f
      | none => mNever)
    | _ => mNever) else if isSuper o = true then mNever else mFld ⟨T.fld⟩ f (ev o)
def denStep (T : Tb) (ev : Cf → Expr → ME) (tv : Cf → Expr → MB) (c : Cf) : Expr → ME
  | .Name x _ => nameM T c x
  | .Constant k _ _ => constM k
  | .BinOp a op b _ => (match binF op with
    | some f => m2 f (ev c a) (ev c b)
    | none => mNever)
  | .UnaryOp op a _ => unM (ev c) op a
  | .BoolOp op vs _ => (match op with
    | .Or => orV (vs.map (ev c))
    | .And => andV (vs.map (ev c)))
  | .IfExp t a b _ => mIf (tv c t) (ev c a) (ev c b)
  | .Compare a ops bs _ => (match ops, bs with
    | [op], [b] => cmpM c (ev c) op a b
    | _, _ => mNever)
  | .Tuple es _ _ => if es.any isSt = true then mNever else mApp mkTup (argsM (ev c) es)
  | .List es _ => if es.any isSt = true then mNever else mApp mkLst (argsM (ev c) es)
  | .Subscript a b _ => subM (ev c) a b
  | .Attribute o f _ => fldM T c (ev c) o f
  | .Call fn args kws pos => (match kws with
    | [] => callM T c (ev c) fn args pos
    | _ => mNever)
  | .ListComp elt gens scope _ => (match gens with
    | [⟨tg, iter, ifs, a⟩] => if a = 0 then lcM T c ev tv elt tg iter ifs scope else mNever
    | _ => mNever)
  | _ => mNever
def testStep (ev : Cf → Expr → ME) (tv : Cf → Expr → MB) (c : Cf) : Expr → MB
  | .UnaryOp op a _ => (match op with
    | .Not => mNot (tv c a)
    | _ => mNeverT)
  | .BoolOp op vs _ => (match op with
    | .Or => orT (vs.map (tv c))
    | .And => andT (vs.map (tv c)))
  | .Compare a ops bs _ => (match ops, bs with
    | [op], [b] => mTest (cmpM c (ev c) op a b)
    | _, _ => mNeverT)
  | .IfExp .. => mNeverT
  | e => mTru (ev c e)
def den (T : Tb) : Nat → (Cf → Expr → ME) × (Cf → Expr → MB)
  | 0 => (fun _ _ => mNever, fun _ _ => mNeverT)
  | n + 1 => (denStep T (den T n).1 (den T n).2, testStep (den T n).1 (den T n).2)
section
variable {T : Tb} {c : Cf} {X : Cx} {xi : Option XI} {W : WX} {ev : Expr → ME} {tv : Expr → MB} {e a b : Expr} {pos : Pos}
theorem da_args (h : ∀ e, DE X xi W e (ev e)) : ∀ es : List Expr, es.any isSt = false → DA X xi W es (argsM ev es)
  | [], _ => da_nil
  | e :: es, hs => by
    rw [List.any_cons, Bool.or_eq_false_iff] at hs
    exact da_cons (h e) (da_args h es hs.2) (star_cons hs.1 es X.env)
theorem de_orV (h : ∀ e, DE X xi W e (ev e)) : ∀ vs : List Expr, DE X xi W (.BoolOp .Or vs pos) (orV (vs.map ev))
  | [] => de_never
  | [a] => de_one (h a)
  | a :: b :: r => de_or (h a) (de_orV h (b :: r))
theorem de_andV (h : ∀ e, DE X xi W e (ev e)) : ∀ vs : List Expr, DE X xi W (.BoolOp .And vs pos) (andV (vs.map ev))
  | [] => de_never
  | [a] => de_one (h a)
  | a :: b :: r => de_and (h a) (de_andV h (b :: r))
theorem dw_never : DW X xi W e mNeverT := ⟨fun _ _ _ => False, ⟨fun _ _ _ _ _ _ _ h => h.elim⟩, fun _ _ _ _ _ _ _ _ h => h⟩
theorem dw_orT (h : ∀ e, DT X xi W e (tv e)) : ∀ vs : List Expr, DW X xi W (.BoolOp .Or vs pos) (orT (vs.map tv))
  | [] => dw_never
  | [a] => dw_or1 (h a)
  | a :: b :: r => dw_or (h a) (dw_orT h (b :: r))
theorem dw_andT (h : ∀ e, DT X xi W e (tv e)) : ∀ vs : List Expr, DW X xi W (.BoolOp .And vs pos) (andT (vs.map tv))
  | [] => dw_never
  | [a] => dw_and1 (h a)
  | a :: b :: r => dw_and (h a) (dw_andT h (b :: r))
theorem de_isN {j : Nat} {p : Pos} (h : DE X xi W a (ev a)) : DE X xi W (.Compare a [.Is] [.Constant .none j p] pos) (mIsN (ev a)) := by
  obtain ⟨t, p, s⟩ := h
  exact ⟨_, pe_cmp (pc_isN p) rfl, se_isN s⟩
theorem de_notN {j : Nat} {p : Pos} (h : DE X xi W a (ev a)) : DE X xi W (.Compare a [.IsNot] [.Constant .none j p] pos) (mNotN (ev a)) := by
  obtain ⟨t, p, s⟩ := h
  exact ⟨_, pe_cmp (pc_notN p) rfl, se_notN s⟩
theorem dt_isN {j : Nat} {p : Pos} (h : DE X xi W a (ev a)) : DT X xi W (.Compare a [.Is] [.Constant .none j p] pos) (mTest (mIsN (ev a))) := by
  obtain ⟨t, p, s⟩ := h
  exact ⟨_, pt_cmp (pc_isN p) rfl, st_B (se_isN s)⟩
theorem dt_notN {j : Nat} {p : Pos} (h : DE X xi W a (ev a)) : DT X xi W (.Compare a [.IsNot] [.Constant .none j p] pos) (mTest (mNotN (ev a))) := by
  obtain ⟨t, p, s⟩ := h
  exact ⟨_, pt_cmp (pc_notN p) rfl, st_B (se_notN s)⟩
theorem none_of (h : cmpM.isNone b = true) : ∃ j p, b = .Constant .none j p := by
  unfold cmpM.isNone at h
  split at h
  · exact ⟨_, _, rfl⟩
  · cases h
theorem dt_neverT : DT X xi W e (mTest mNever) := ⟨fun _ _ _ => False, ⟨fun _ _ _ _ _ _ h => h.elim⟩, fun _ _ _ _ _ _ _ _ h => h⟩
theorem de_cmpM (G : GoodE T c X xi W) (op : CmpOp) (ha : DE X xi W a (ev a)) (hb : DE X xi W b (ev b)) : DE X xi W (.Compare a [op] [b] pos) (cmpM c ev op a b) ∧ DT X xi W (.Compare a [op] [b] pos) (mTest (cmpM c ev op a b)) := by
  unfold cmpM
  split
  · rename_i h
    rw [Bool.and_eq_true, decide_eq_true_eq] at h
    obtain ⟨j, p, rfl⟩ := none_of h.2
    rw [h.1]
    exact ⟨de_isN ha, dt_isN ha⟩
  split
  · rename_i h
    rw [Bool.and_eq_true, decide_eq_true_eq] at h
    obtain ⟨j, p, rfl⟩ := none_of h.2
    rw [h.1]
    exact ⟨de_notN ha, dt_notN ha⟩
  split
  · rename_i h
    rw [Bool.and_eq_true, Bool.not_eq_true'] at h
    have hu := (G.xc h.1).un
    split
    · rename_i f ef
      obtain ⟨r, h1, h2⟩ := cmpF_ok (X := X) (W := W) (by omega) ef
      exact ⟨de_cmp h1 h2 ha hb (marks_plain h.2), dt_cmp h1 h2 ha hb (marks_plain h.2)⟩
    · exact ⟨de_never, dt_neverT⟩
  · exact ⟨de_never, dt_neverT⟩
theorem de_callM (G : GoodE T c X xi W) (h : ∀ e, DE X xi W e (ev e)) (fn : Expr) (args : List Expr) : DE X xi W (.Call fn args [] pos) (callM T c ev fn args pos) := by
  unfold callM
  split
  · rename_i hc
    rw [Bool.and_eq_true, Bool.not_eq_true'] at hc
    obtain ⟨k, TB, hk⟩ := G.tb
    obtain ⟨hx, hr, hp⟩ := hk hc.1
    have ha := da_args h args hc.2
    split
    · rename_i x p
      unfold callN
      split
      · exact de_never
      · rename_i hb
        have hb' : (badN x || !isGlC c x) = false := by simpa using hb
        rw [Bool.or_eq_false_iff, Bool.not_eq_false'] at hb'
        obtain ⟨b1, b2, b3⟩ := badN_of (x := x) (by rw [hb'.1]; decide)
        have hg := G.gl hb'.2
        split
        · rename_i n g eg
          obtain ⟨f, h1, h2⟩ := TB.fn x n g eg
          cases args with
          | nil =>
            by_cases hn : n = 0
            · subst hn
              exact de_call0 h2 hr hx.guards hp hg h1 b1
            · refine ⟨fun _ _ _ => False, ⟨fun _ _ _ _ _ _ h => h.elim⟩, fun ρ M H σ τ Q S R q => ?_⟩
              unfold mCall argsM mNil Res.bind at q
              dsimp only at q
              rw [if_neg (show ¬ ([] : List MV).length = n from fun e => hn e.symm)] at q
              exact q
          | cons e es =>
            have hs := hc.2
            rw [List.any_cons, Bool.or_eq_false_iff] at hs
            exact de_call h2 hr hx.guards hp hg h1 b1 ha (star_cons hs.1 es X.env) (star_any es X.env hs.2)
        · rename_i n g eg
          split
          · exact de_never
          · rename_i hne
            obtain ⟨f, k', e1, h1, h2, h3⟩ := TB.cls x n g eg
            subst e1
            cases args with
            | nil => exact absurd rfl hne
            | cons e es =>
              have hs := hc.2
              rw [List.any_cons, Bool.or_eq_false_iff] at hs
              exact de_make h2 h3 hr hx.guards hp hg h1 b1 ha (star_cons hs.1 es X.env) (star_any es X.env hs.2)
        · split
          · rename_i hb2
            rw [Bool.and_eq_true, Bool.not_eq_true'] at hb2
            split
            · rename_i f ef
              cases args with
              | nil => cases hb2.2
              | cons e es => exact de_bltF hx ef hg (TB.blt x hb2.1) hc.2 ha
            · exact de_never
          · exact de_never
        · exact de_never
    · rename_i o m apos
      unfold callA
      split
      · rename_i hq
        rw [Bool.and_eq_true, Bool.and_eq_true, Bool.not_eq_true', decide_eq_true_eq] at hq
        obtain ⟨q1, q2, q3⟩ := hq
        split
        · rename_i ty f eb
          exact de_bmF eb (h o) ha (fun e => by rw [e]; rfl) q1 hc.2 q2 q3
        · cases args with
          | nil => exact de_methG0 TB.met hr hx.guards hp (h o) (meth_form q1 rfl (by show 0 < 29; omega) q3)
          | cons e es =>
            have hs := hc.2
            rw [List.any_cons, Bool.or_eq_false_iff] at hs
            exact de_methG TB.met hr hx.guards hp (h o) ha (star_cons hs.1 es X.env) (star_any es X.env hs.2) (meth_form q1 hc.2 q2 q3)
      · exact de_never
    · exact de_never
  · exact de_never
theorem di_iterM {tg : Expr} (G : GoodE T c X xi W) (h : ∀ e, DE X xi W e (ev e)) (e : Expr) : DI X tg xi W e (iterM T c ev e) := by
  unfold iterM
  cases hr : isRng T c e with
  | none => exact di_any (h e)
  | some args =>
    unfold isRng at hr
    split at hr
    · rename_i x p args' pos'
      split at hr
      · rename_i hq
        cases hr
        rw [Bool.and_eq_true, Bool.and_eq_true, Bool.and_eq_true, Bool.not_eq_true', decide_eq_true_eq] at hq
        obtain ⟨q1, q2, q3, q4⟩ := hq
        subst q1
        obtain ⟨k, TB, hk⟩ := G.tb
        have hg := G.gl q3
        have hm := TB.blt _ q2
        match args, q4 with
        | [a], q4 =>
          rw [List.any_cons, Bool.or_eq_false_iff] at q4
          exact di_range1 hg hm (da_args h [a] (by rw [List.any_cons, q4.1]; rfl)) (star_cons q4.1 [] X.env)
        | [a, b], q4 =>
          have q4' := q4
          rw [List.any_cons, Bool.or_eq_false_iff, List.any_cons, Bool.or_eq_false_iff] at q4
          exact di_range2 hg hm (da_args h [a, b] q4') (by rw [star_cons q4.1, star_cons q4.2.1]; rfl) (by rw [star_cons q4.2.1]; rfl)
        | [], _ => exact di_never
        | _ :: _ :: _ :: _, _ => exact di_never
      · cases hr
    · cases hr
end
theorem de_lcM {T : Tb} {c : Cf} {X : Cx} {xi : Option XI} {W : WX} {ev : Cf → Expr → ME} {tv : Cf → Expr → MB} {elt tg iter : Expr} {ifs : List Expr} {scope : Scope} {pos : Pos} (G : GoodE T c X xi W) (hev : ∀ c X xi W e, GoodE T c X xi W → DE X xi W e (ev c e)) (htv : ∀ c X xi W e, GoodE T c X xi W → DT X xi W e (tv c e)) :
    DE X xi W (.ListComp elt [⟨tg, iter, ifs, 0⟩] scope pos) (lcM T c ev tv elt tg iter ifs scope) := by
  unfold lcM
  split
  · rename_i h
    rw [Bool.and_eq_true, Bool.and_eq_true, Bool.and_eq_true, Bool.not_eq_true'] at h
    obtain ⟨h1, h2, h3, h4⟩ := h
    obtain ⟨t1, t2, t3⟩ := G.top h1
    have bo := blkB_ok h3
    refine de_lc (own := ownOf c.N scope) t1 t2 (G.xc h2).calm G.nd t3 (di_iterM G (fun e => hev c X xi W e G) iter) (by rw [G.N_, G.sc]; exact bo) (folded_plain h4) fun Wb Xb hX hp => ?_
    have Gb := G.blk hX hp
    have ek : Xb.K = X.K := by
      obtain ⟨s, H, cl, C, fp, E', rfl⟩ := hX
      rfl
    refine ⟨?_, ?_, hev _ Xb xi Wb elt Gb⟩
    · obtain ⟨t, p, s, gm, gw⟩ := tg_ok (ok := fun i => (ownOf c.N scope).any fun p => p.2 == i) Gb 5 tg
      refine ⟨t, p, by rw [← ek]; exact s, gw _ fun i hi => ?_⟩
      rw [List.any_eq_true] at hi
      obtain ⟨q, hq, e⟩ := hi
      exact List.mem_map.mpr ⟨q, hq, by simpa using e⟩
    · unfold testsM
      split
      · exact dts_nil
      · exact dts_one (htv _ Xb xi Wb _ Gb)
      · exact ⟨fun _ _ _ => False, ⟨fun _ _ _ _ _ _ h => h.elim⟩, fun _ _ _ _ _ _ _ _ h => h⟩
  · exact de_never
theorem den_ok (T : Tb) : ∀ n : Nat, (∀ c X xi W e, GoodE T c X xi W → DE X xi W e ((den T n).1 c e)) ∧ (∀ c X xi W e, GoodE T c X xi W → DT X xi W e ((den T n).2 c e))
  | 0 => ⟨fun _ _ _ _ _ _ => de_never, fun _ _ _ _ _ _ => dt_never⟩
  | n + 1 => by
    obtain ⟨hev, htv⟩ := den_ok T n
    refine ⟨fun c X xi W e G => ?_, fun c X xi W e G => ?_⟩
    · show DE X xi W e (denStep T (den T n).1 (den T n).2 c e)
      have he := fun e => hev c X xi W e G
      unfold denStep
      split
      · exact de_name G
      · rename_i k j p
        cases k with
        | int i => exact ⟨_, pe_int, se_c fun ρ H => .int i⟩
        | str s => exact ⟨_, pe_str, se_c fun ρ H => by
            have z := VR.str (K := X.K) (ρ := ρ) (H := H) s.cps.toList
            rw [str_of] at z
            exact z⟩
        | bool b => exact ⟨_, pe_bl, se_c fun ρ H => .bl b⟩
        | none => exact ⟨_, pe_non, se_c fun ρ H => .non⟩
        | _ => exact de_never
      · split
        · rename_i f ef
          obtain ⟨r, h1, h2⟩ := binF_ok (X := X) (W := W) ef
          exact de_op h1 h2 (he _) (he _)
        · exact de_never
      · rename_i op a p
        cases op with
        | USub =>
          obtain ⟨t, p, s⟩ := he a
          exact ⟨_, pe_un un_neg p, se_1 s_neg s⟩
        | Not => exact de_not (he a)
        | _ => exact de_never
      · rename_i op vs p
        cases op with
        | Or => exact de_orV he vs
        | And => exact de_andV he vs
      · exact de_if (htv c X xi W _ G) (he _) (he _)
      · split
        · exact (de_cmpM G _ (he _) (he _)).1
        · exact de_never
      · rename_i es k p
        split
        · exact de_never
        · rename_i hs
          obtain ⟨t, p, s⟩ := da_args he es (by simpa using hs)
          exact ⟨_, pe_tup p, fun ρ M H σ τ Q S R h => s ρ M H σ τ _ S R (QR.bind h fun xs M1 ρ1 H1 us e1 S1 r1 h1 => mkTup_ok S1 r1 h1)⟩
      · rename_i es p
        split
        · exact de_never
        · rename_i hs
          obtain ⟨t, p, s⟩ := da_args he es (by simpa using hs)
          exact ⟨_, pe_lst p, fun ρ M H σ τ Q S R h => s ρ M H σ τ _ S R (QR.bind h fun xs M1 ρ1 H1 us e1 S1 r1 h1 => mkLst_ok S1 r1 h1)⟩
      · rename_i a b p
        unfold subM
        split
        · rename_i lo hi st p2
          cases st with
          | some _ => exact de_never
          | none =>
            obtain ⟨t, pa, sa⟩ := he a
            have part : ∀ o : Option Expr, ∃ t, PO X o t ∧ SO X.K xi W t (partM ((den T n).1 c) o) := fun o => by
              cases o with
              | none => exact ⟨_, po_none, so_no⟩
              | some e =>
                obtain ⟨t, p, s⟩ := he e
                exact ⟨_, po_some p, so_part s⟩
            obtain ⟨tl, pl, sl⟩ := part lo
            obtain ⟨th, ph, sh⟩ := part hi
            exact ⟨_, pe_slice sl_all pa pl ph, se_sl sa sl sh⟩
        · rename_i hne
          obtain ⟨t, pa, sa⟩ := he a
          obtain ⟨u, pb, sb⟩ := he b
          refine ⟨_, pe_ix ix_seq pa pb (plainIx ?_), se_2 s_ix sa sb⟩
          cases b <;> first | rfl | exact absurd rfl (hne _ _ _ _)
      · rename_i o f p
        unfold fldM
        split
        · rename_i hsu
          split
          · rename_i x p2
            split
            · exact de_never
            · rename_i hb
              have hb' : (badN x || !isVisC c x) = false := by simpa using hb
              rw [Bool.or_eq_false_iff, Bool.not_eq_false'] at hb'
              obtain ⟨b1, b2, b3⟩ := badN_of (x := x) (by rw [hb'.1]; decide)
              split
              · rename_i i ei
                obtain ⟨k, TB, _⟩ := G.tb
                have hv := G.vis hb'.2
                have hs := G.slot ei
                have hxf := TB.xf
                obtain ⟨a, oe, cls, d, pn, X0, rfl, rfl, hz, hd⟩ := G.sui hsu
                exact de_xf hxf hz hd hs hv b1 b2
              · exact de_never
          · exact de_never
        · split
          · exact de_never
          · rename_i hs
            obtain ⟨k, TB, _⟩ := G.tb
            exact de_fld TB.fld (he o) (base_plain (by simpa using hs))
      · split
        · exact de_callM G he _ _
        · exact de_never
      · split
        · split
          · rename_i ea
            subst ea
            exact de_lcM G hev htv
          · exact de_never
        · exact de_never
      · exact de_never
    · show DT X xi W e (testStep (den T n).1 (den T n).2 c e)
      have he := fun e => hev c X xi W e G
      have ht := fun e => htv c X xi W e G
      unfold testStep
      split
      · rename_i op a p
        cases op with
        | Not => exact dt_not (ht a)
        | _ => exact dt_never
      · rename_i op vs p
        cases op with
        | Or => exact (dw_orT ht vs).dt
        | And => exact (dw_andT ht vs).dt
      · split
        · exact (de_cmpM G _ (he _) (he _)).2
        · exact dt_never
      · exact dt_never
      · rename_i h1 h2 h3 h4
        refine dt_tru (he e) (truth_plain ?_)
        cases e with
        | UnaryOp op x p => exact absurd rfl (h1 _ _ _)
        | BoolOp op x p => exact absurd rfl (h2 _ _ _)
        | Compare a b d p => exact absurd rfl (h3 _ _ _ _)
        | IfExp a b d p => exact absurd rfl (h4 _ _ _ _)
        | _ => rfl
end MX
end
section
set_option Elab.async false
set_option linter.all false
set_option maxRecDepth 100000
set_option maxHeartbeats 4000000
/-! MX19: den of statements. -/
namespace MX
open PySem PySem.Spec L2
def fMulI : MV → MV → MH → Res MV
  | .int i, .int j, M => if mulOk i j = true then .ok (.int (i * j)) M else .stuck
  | _, _, _ => .stuck
def augF : Operator → Option (MV → MV → MH → Res MV)
  | .Add => some (fInt (fun _ _ => true) fun i j => .int (i + j))
  | .Sub => some (fInt (fun _ _ => true) fun i j => .int (i - j))
  | .Mult => some (fInt mulOk fun i j => .int (i * j))
  | _ => none
section
variable {X : Cx} {W : WX}
theorem in_mulI : InOp X .Mult (rI (fun i j => mulOk i j = true) fun i j => .int (i * j)) := by
  rintro pins s σ H x y u v Q I rx ry ⟨i, j, rfl, rfl, hc, q⟩
  obtain ⟨t, rfl⟩ := (show ∃ t, u = Value.int i t from rx)
  obtain ⟨t', rfl⟩ := (show ∃ t', v = Value.int j t' from ry)
  exact PyProof.Rows.imul_int ⟨.int (i * j), H, I.tok _, ⟨_, rfl⟩, q⟩ (mulOk_ok hc)
theorem augF_ok {op : Operator} {f : MV → MV → MH → Res MV} (h : augF op = some f) : IoR X W op f := by
  unfold augF at h
  split at h <;> cases h
  · exact ⟨_, in_add, s_int0 (g' := fun i j => .int (i + j)) fun _ _ _ _ => .int _⟩
  · exact ⟨_, in_sub, s_int0 (g' := fun i j => .int (i - j)) fun _ _ _ _ => .int _⟩
  · exact ⟨_, in_mulI, s_int (g' := fun i j => .int (i * j)) (fun _ _ h => h) fun _ _ _ _ => .int _⟩
theorem augF_ip {op : Operator} {f : MV → MV → MH → Res MV} (h : augF op = some f) : IpR X W op f := by
  obtain ⟨r, h1, h2⟩ := augF_ok (X := X) (W := W) h
  exact ⟨r, h1, h2⟩
end
def seqM (f : Stmt → MS) : List Stmt → MS
  | [] => mNext
  | st :: r => mSeq (f st) (seqM f r)
def asgM (T : Tb) (c : Cf) (ev : Expr → ME) (t e : Expr) : MS :=
  if isComp e = true then mNeverS else match t with
    | .Name x _ => (match slotN c.N x with
      | some i => if isLocC c x = true then mAsg (ev e) (gSet i) else mNeverS
      | none => mNeverS)
    | .Attribute o f _ => if isSuper o = true then mNeverS else mFldSet ⟨T.fld⟩ f (ev o) (ev e)
    | .Tuple _ _ _ => if isDisp e = true then mNeverS else mAsg (ev e) (tgM c (fun _ => true) 5 t)
    | _ => mNeverS
def augM (T : Tb) (c : Cf) (ev : Expr → ME) (t : Expr) (op : Operator) (e : Expr) : MS := match augF op with
  | none => mNeverS
  | some f => (match t with
    | .Name x _ => (match slotN c.N x with
      | some i => if isLocC c x = true then mAug i f (ev e) else mNeverS
      | none => mNeverS)
    | .Attribute o g _ => if isSuper o = true then mNeverS else mFldAug ⟨T.fld⟩ g f (ev o) (ev e)
    | _ => mNeverS)
def mkM (T : Tb) (c : Cf) (ev : Expr → ME) : Expr → MMk
  | .Call (.Name x _) args [] _ => if (badN x || (!isGlC c x || (args.any isSt || args.isEmpty))) = true then fun _ _ => .stuck else (match T.gk x with
    | .exT => (match args with
      | [.Constant (.str _) _ _] => mMkT x
      | _ => fun _ _ => .stuck)
    | .exI f => mMkI x f (argsM ev args)
    | _ => fun _ _ => .stuck)
  | _ => fun _ _ => .stuck
def isExC (T : Tb) (x : Str) : Bool := match T.gk x with
  | .exT => true
  | .exI _ => true
  | _ => false
def cSui (c : Cf) : Cf := { c with top := false, calm := false, sui := true }
def tryM (T : Tb) (c : Cf) (run : Cf → List Stmt → MS) (body : List Stmt) : List ExceptHandler → MS
  | [.ExceptHandler ty nm suite _] => (match ty with
    | some (.Name x _) => if (c.top && (c.calm && (!badN x && (isGlC c x && (isExC T x && !suite.isEmpty))))) = true then (match nm with
      | none => mTryOnly T.cat x (run c body) (run (cSui c) suite)
      | some n => (match slotN c.N n with
        | some i => if kindC c n = some .local then mTryAs T.cat x i (run c body) (run (cSui c) suite) else mNeverS
        | none => mNeverS)) else mNeverS
    | _ => mNeverS)
  | _ => mNeverS
def denS (T : Tb) (en : Nat) : Nat → Cf → Stmt → MS
  | 0, _, _ => mNeverS
  | n + 1, c, st => match st with
    | .Pass _ => mNext
    | .Break _ => mBreak
    | .Continue _ => mCont
    | .Expr e _ => (match e with
      | .Constant (.str _) _ _ => mNext
      | e => if isComp e = true then mNeverS else mDrop ((den T en).1 c e))
    | .Return v _ => (match v with
      | some e => mRet ((den T en).1 c e)
      | none => mRetN)
    | .If t a b _ => mIfS ((den T en).2 c t) (seqM (denS T en n c) a) (seqM (denS T en n c) b)
    | .Assign ts e _ => (match ts with
      | [t] => asgM T c ((den T en).1 c) t e
      | _ => mNeverS)
    | .AugAssign t op e _ => augM T c ((den T en).1 c) t op e
    | .For tg iter body orelse _ => if (c.calm && (orelse.isEmpty && !isSet iter)) = true then mFor c.fuel (iterM T c ((den T en).1 c) iter) (tgM c (fun _ => true) 5 tg) (seqM (denS T en n c) body) else mNeverS
    | .While t body orelse _ => if orelse.isEmpty = true then whileGo ((den T en).2 c t) (seqM (denS T en n c) body) c.fuel else mNeverS
    | .Raise exc cause _ => (match exc, cause with
      | some e, none => if (c.top && c.calm) = true then mRaise (mkM T c ((den T en).1 c) e) else mNeverS
      | _, _ => mNeverS)
    | .Try body hs orelse fin _ => if (orelse.isEmpty && fin.isEmpty) = true then tryM T c (fun c sts => seqM (denS T en n c) sts) body hs else mNeverS
    | _ => mNeverS
structure GoodS (T : Tb) (c : Cf) (X : Cx) (xi : Option XI) (W : WX) : Prop extends GoodE T c X xi W where
  pass : PassesOwn (model X.prog X.w) X.A X.env X.xe
  xn : c.top = true → xi = none
section
variable {T : Tb} {c : Cf} {X : Cx} {xi : Option XI} {W : WX} {ev : Expr → ME} {e t : Expr} {pos : Pos}
theorem DG.of {g : MG} {ok : Nat → Bool} (h : TgOk X xi W ok e g) : DG X xi W e g := by
  obtain ⟨t, p, s, _⟩ := h
  exact ⟨t, p, s⟩
theorem ds_asgM (G : GoodE T c X xi W) (h : ∀ e, DE X xi W e (ev e)) : DS X xi W (.Assign [t] e pos) (asgM T c ev t e) := by
  unfold asgM
  split
  · exact ds_never
  · rename_i hc
    have hc' : isComp e = false := by simpa using hc
    split
    · split
      · rename_i i ei
        split
        · rename_i hl
          obtain ⟨h1, h2⟩ := G.loc hl
          exact ds_set G.nd (G.slot ei) h1 (h e) (swaps_plain hc') h2
        · exact ds_never
      · exact ds_never
    · split
      · exact ds_never
      · obtain ⟨k, TB, _⟩ := G.tb
        exact ds_fld TB.fld (h _) (h e) (swaps_plain hc')
    · split
      · exact ds_never
      · rename_i hd
        exact ds_asg (h e) (DG.of (tg_ok G 5 _)) (swapsSole_plain hc') (swapped_plain (by simpa using hd)) (assign_cons rfl [] X.env)
    · exact ds_never
theorem ds_augM {op : Operator} (G : GoodE T c X xi W) (h : ∀ e, DE X xi W e (ev e)) : DS X xi W (.AugAssign t op e pos) (augM T c ev t op e) := by
  unfold augM
  split
  · exact ds_never
  · rename_i f ef
    split
    · split
      · rename_i i ei
        split
        · rename_i hl
          obtain ⟨h1, h2⟩ := G.loc hl
          exact ds_aug G.nd (G.slot ei) h1 (h e) (augF_ip ef) h2
        · exact ds_never
      · exact ds_never
    · split
      · exact ds_never
      · obtain ⟨k, TB, _⟩ := G.tb
        exact ds_fldaug TB.fld (h _) (h e) (augF_ok ef)
    · exact ds_never
theorem dmk_stuck : DMk X W e (fun _ _ => .stuck) := ⟨fun _ _ _ => False, fun _ _ _ _ _ _ h => h.elim, fun _ _ _ _ _ _ _ _ h => h⟩
theorem dmk_M (G : GoodE T c X none W) (hc : c.calm = true) (h : ∀ e, DE X none W e (ev e)) (e : Expr) : DMk X W e (mkM T c ev e) := by
  unfold mkM
  split
  · rename_i x p args p2
    split
    · exact dmk_stuck
    · rename_i hb
      have hb' : (badN x || (!isGlC c x || (args.any isSt || args.isEmpty))) = false := by simpa using hb
      rw [Bool.or_eq_false_iff, Bool.or_eq_false_iff, Bool.or_eq_false_iff, Bool.not_eq_false'] at hb'
      obtain ⟨c1, c2, c3, c4⟩ := hb'
      obtain ⟨b1, b2, b3⟩ := badN_of (x := x) (by rw [c1]; decide)
      have hg := G.gl c2
      obtain ⟨k, TB, hk⟩ := G.tb
      obtain ⟨hx, hr, hp⟩ := hk hc
      split
      · rename_i ek
        split
        · exact dmk_text (TB.exT x ek) hg b1
        · exact dmk_stuck
      · rename_i f ek
        obtain ⟨h1, h2⟩ := TB.exI x f ek
        cases args with
        | nil => cases c4
        | cons e es => exact dmk_init h1 (hr.mono h2) hg b1 hp (da_args h (e :: es) c3) c3
      · exact dmk_stuck
  · exact dmk_stuck
theorem dss_seq {f : Stmt → MS} (h : ∀ st, DS X xi W st (f st)) : ∀ sts : List Stmt, DSs X xi W sts (seqM f sts)
  | [] => dss_nil
  | st :: r => dss_cons (h st) (dss_seq h r)
theorem GoodS.tr (G : GoodS T c X xi W) {W' : WX} {pn : List (Addr × Obj)} {xe : Value → Shared → Prop} (ht : c.top = true) (tk : Takes (X.tr pn xe) W') (pass : PassesOwn (model X.prog X.w) X.A X.env xe) : GoodS T c (X.tr pn xe) none W' := by
  obtain ⟨k, TB, hk⟩ := G.tb
  obtain ⟨t1, t2, t3⟩ := G.top ht
  refine ⟨⟨G.nd, G.N_, G.sc, ⟨k, TB, fun h => ?_⟩, fun _ => ⟨t1, t2, tk⟩, fun h => ?_, G.cells⟩, pass, fun _ => rfl⟩
  · obtain ⟨x, r, p⟩ := hk h
    exact ⟨⟨x.calm, x.guards, x.nd, x.un⟩, r, psE_of tk⟩
  · obtain ⟨a, oe, cls, d, pn, X0, e, e2, _⟩ := G.sui h
    rw [G.xn ht] at e2
    cases e2
theorem GoodS.suite (G : GoodS T c X xi W) {a : Addr} {oe : Obj} {cls : Value} {d : Option Addr} {pn : List (Addr × Obj)} (hz : Zc cls d oe) (hd : ∃ vs, oe.data = .fields vs) : GoodS T (cSui c) (X.suite a ((a, oe) :: pn)) (some ⟨a, cls, d⟩) WF := by
  obtain ⟨k, TB, hk⟩ := G.tb
  exact ⟨⟨G.nd, G.N_, G.sc, ⟨k, TB, fun h => (nomatch (show false = true from h))⟩, fun h => (nomatch (show false = true from h)), fun _ => ⟨a, oe, cls, d, pn, X, rfl, rfl, hz, hd⟩, G.cells⟩, PassesOwn.never, fun h => (nomatch (show false = true from h))⟩
theorem denS_ok (T : Tb) (en : Nat) : ∀ (n : Nat) (c : Cf) (X : Cx) (xi : Option XI) (W : WX) (st : Stmt), GoodS T c X xi W → DS X xi W st (denS T en n c st)
  | 0, _, _, _, _, _, _ => ds_never
  | n + 1, c, X, xi, W, st, G => by
    have he := fun e => (den_ok T en).1 c X xi W e G.toGoodE
    have ht := fun e => (den_ok T en).2 c X xi W e G.toGoodE
    have ih := fun st => denS_ok T en n c X xi W st G
    unfold denS
    split
    · exact ds_pass
    · exact ds_break
    · exact ds_cont
    · split
      · exact ds_doc
      · split
        · exact ds_never
        · rename_i hc
          exact ds_expr (he _) (swaps_plain (by simpa using hc))
    · split
      · exact ds_ret (he _)
      · exact ds_retN
    · exact ds_if (ht _) (dss_seq ih _) (dss_seq ih _)
    · split
      · exact ds_asgM G.toGoodE he
      · exact ds_never
    · exact ds_augM G.toGoodE he
    · rename_i tg iter body orelse p
      split
      · rename_i h
        rw [Bool.and_eq_true, Bool.and_eq_true, Bool.not_eq_true'] at h
        obtain ⟨h1, h2, h3⟩ := h
        cases orelse with
        | cons a r => cases h2
        | nil => exact ds_for G.pass (G.xc h1).calm (di_iterM G.toGoodE he iter) (DG.of (tg_ok G.toGoodE 5 tg)) (dss_seq ih body) (folded_plain h3)
      · exact ds_never
    · rename_i t body orelse p
      split
      · rename_i h
        cases orelse with
        | cons a r => cases h
        | nil => exact ds_while G.pass (ht t) (dss_seq ih body)
      · exact ds_never
    · split
      · split
        · rename_i h
          rw [Bool.and_eq_true] at h
          have e := G.xn h.1
          subst e
          obtain ⟨t1, t2, t3⟩ := G.top h.1
          exact ds_raise (G.xc h.2).calm t3 (dmk_M G.toGoodE h.2 he _)
        · exact ds_never
      · exact ds_never
    · rename_i body hs orelse fin p
      split
      · rename_i h
        rw [Bool.and_eq_true] at h
        cases orelse with
        | cons a r => cases h.1
        | nil =>
          cases fin with
          | cons a r => cases h.2
          | nil =>
            unfold tryM
            split
            · rename_i ty nm suite pos'
              split
              · rename_i x np
                split
                · rename_i hq
                  rw [Bool.and_eq_true, Bool.and_eq_true, Bool.and_eq_true, Bool.and_eq_true, Bool.and_eq_true, Bool.not_eq_true', Bool.not_eq_true'] at hq
                  obtain ⟨q1, q2, q3, q4, q5, q6⟩ := hq
                  obtain ⟨t1, t2, t3⟩ := G.top q1
                  have e := G.xn q1
                  subst e
                  obtain ⟨k, TB, hk⟩ := G.tb
                  have hex : (T.gk x = .exT ∨ ∃ f, T.gk x = .exI f) := by
                    unfold isExC at q5
                    split at q5
                    · rename_i e; exact .inl e
                    · rename_i f e; exact .inr ⟨f, e⟩
                    · cases q5
                  have hm : X.mg x = some (.ref (He.ga X.K x)) := by
                    rcases hex with e | ⟨f, e⟩
                    · exact (TB.exT x e).g
                    · exact (TB.exI x f e).1.g
                  obtain ⟨b1, b2, b3⟩ := badN_of (x := x) (by rw [q3]; decide)
                  have nm' : Names X x (.ref (He.ga X.K x)) := ⟨G.gl q4, b1, .inl hm⟩
                  have body_ok : BodyOk X body (seqM (denS T en n c) body) := fun W' pn xe tk ps => dss_seq (fun st => denS_ok T en n c _ none W' st (G.tr q1 tk ps)) body
                  have suite_ok : SuiteOk X suite (seqM (denS T en n (cSui c)) suite) := fun a oe cls d pn hz hd => dss_seq (fun st => denS_ok T en n (cSui c) _ _ WF st (G.suite hz hd)) suite
                  cases suite with
                  | nil => cases q6
                  | cons b₀ suite =>
                    split
                    · exact ds_try_only t1 t2 nm' t3 (TB.exC x hex) body_ok suite_ok
                    · split
                      · rename_i i ei
                        split
                        · rename_i hk2
                          refine ds_try_as t1 t2 G.nd (G.slot ei) ?_ nm' t3 (TB.exC x hex) body_ok suite_ok
                          show X.env.scope.names.lookup _ = _
                          rw [G.sc]
                          exact hk2
                        · exact ds_never
                      · exact ds_never
                · exact ds_never
              · exact ds_never
            · exact ds_never
      · exact ds_never
    · exact ds_never
end
/-! ### a def by the tables -/
def cFn (N : List Str) (scope : Scope) (fuel : Nat) : Cf := ⟨N, scope, true, true, false, true, fuel⟩
def bodyM (T : Tb) (en sn : Nat) (c : Cf) (body : List Stmt) (xs : List MV) (M : MH) : Res MV := runBody c.N.length (seqM (denS T en sn c) body) xs M
theorem fnG_den {P : Program} {w : World} {K : PySem.W.Frag} {mg : Str → Option Value} {base : Heap} {k fuel en sn : Nat} {f : Addr} {fd : FuncData} {x qual : Str} {params : Arguments} {body : List Stmt} {scope : Scope} {N ps : List Str} {T : Tb} (TB : TbOk P w K mg base k T)
    (F : FunD K x qual params body scope [] [] f fd) (S : FnScope N ps scope) : FnG P w K mg base (k + 1) f fd ps (spM K ps.length (bodyM T en sn (cFn N scope fuel) body)) := by
  refine fnM_of F S fun X W B => dss_seq (fun st => denS_ok T en sn _ X none W st ?_) body
  obtain ⟨e1, e2, e3, e4, e5, e6, e7, t1, t2, cl, rm, gd, tk, ps', fn⟩ := B
  subst e1 e2 e3 e4 e5
  have nd := S.nd
  refine ⟨⟨by rw [e6]; exact nd, e6, e7, ⟨k, TB, fun _ => ⟨⟨cl, gd, TB.nd, ?_⟩, rm, psE_of tk⟩⟩, fun _ => ⟨t1, t2, tk⟩, fun h => (nomatch (show false = true from h)), fun _ => fn⟩, ps', fun _ => rfl⟩
  have := rm.un
  omega
theorem fnT_of {P : Program} {w : World} {K : PySem.W.Frag} {mg : Str → Option Value} {base : Heap} {k fuel en sn : Nat} {f : Addr} {fd : FuncData} {x qual : Str} {params : Arguments} {body : List Stmt} {scope : Scope} {N ps : List Str} {T : Tb} (TB : TbOk P w K mg base k T)
    (F : FunD K x qual params body scope [] [] f fd) (S : FnScope N ps scope) (hb : Binds K fd ps []) : FnT P w K mg base (k + 1) f ps.length (bodyM T en sn (cFn N scope fuel) body) := ⟨fd, ps, F.kp, hb, rfl, fnG_den TB F S⟩
end MX
end
section
set_option Elab.async false
set_option linter.all false
set_option maxRecDepth 100000
set_option maxHeartbeats 2000000
/-! MX20: from a law's call to its def's meaning. -/
namespace MX
open PySem PySem.Spec L2
def M0 : MH := ⟨.e, 0⟩
def noRho : Nat → Option Addr := fun _ => none
theorem sim0 {K : PySem.W.Frag} {H : Hp} : Sim K noRho M0 H :=
  ⟨fun i o h => absurd (MH.lt h) (Nat.not_lt_zero _), fun i a h => (nomatch (show (none : Option Addr) = some a from h)), fun i j a h _ => (nomatch (show (none : Option Addr) = some a from h))⟩
/-- the run says true -/
def Says (g : List MV → MH → Res MV) (ns : List Int) : Prop := ∃ M, g [.fro (ns.map .int)] M0 = .ok (.bl true) M
theorem says_sp {K : PySem.W.Frag} {g : List MV → MH → Res MV} {ns : List Int} {H : Hp} {a : Addr} {E : XK} (h : Says g ns) (hS : SqF K H a (ns.map V.int)) : spM K 1 g [.ref a] H (fun v _ => v = .bl true) E := by
  obtain ⟨M, h⟩ := h
  refine ⟨rfl, noRho, M0, [.fro (ns.map .int)], sim0, .cons (.fro hS (VRs.ints ns)) .nil, ?_⟩
  rw [h]
  intro ρ' H' u _ _ r
  cases r
  rfl
theorem law_callG {P : Program} {w : World} {K : PySem.W.Frag} {mg mb : Str → Option Value} {k : Nat} {fa a : Addr} {fd : FuncData} {x : Str} {g : List MV → MH → Res MV} {s1 : Shared} {vs : List Value} {ns : List Int}
    (KX : K.In s1.heap) (hns : s1.heap.Ns mainGlobals mg) (hb : s1.heap.Ns builtinsNs mb) (hbb : ∀ x : Str, x ≠ "__name__" → mb x = bootBuiltins x) (hlim : s1.heap.NoLimit) (hdig : s1.heap.NoDigits) (hg : s1.gens = #[])
    (ha : s1.heap.get? a = some { cls := .type "list", data := .seq vs.toArray }) (hi : PyProof.Rows.IntsAre vs ns) (hl : ns.length ≤ sizeLine) (hr : Room k callerA)
    (F : ∀ base : Heap, K.In base → base.Ns mainGlobals mg → base.NoDigits → FnG P w K mg base k fa fd [x] (spM K 1 g)) (hbind : ∀ (s : Shared) (u : Value), BindsTo s fd ⟨[u], []⟩ [(x, u)]) (says : Says g ns) :
    codeAny (model P w) callerA (.call (.ref fa) ⟨[.ref a], []⟩) (fun r s' => r = .ok (.ret (.bool true)) ∧ OldK s1.heap s'.heap ∧ s'.os = s1.os ∧ PyProof.Rows.AllBare s'.gens) s1 := by
  have rv := vals_ints hi
  have lenV := hi.length
  -- H tracks nothing, or the script alone
  have core : ∀ H : Hp, (∀ b, H b = none ∨ (b = a ∧ H b = some (.frz { cls := .type "list", data := .seq vs.toArray } (.lst (ns.map V.int))))) → SqF K H a (ns.map V.int) → HOk P w H s1.heap → (H a ≠ none → K.lookup a = none) →
      codeAny (model P w) callerA (.call (.ref fa) ⟨[.ref a], []⟩) (fun r s' => r = .ok (.ret (.bool true)) ∧ OldK s1.heap s'.heap ∧ s'.os = s1.os ∧ PyProof.Rows.AllBare s'.gens) s1 := by
    intro H hO hS hok hK
    have free : ∀ {b : Addr} {m : Str → Option Value}, s1.heap.Ns b m → H b = none := fun {b m} ⟨o, es, ep, e, d, _⟩ => by
      rcases hO b with z | ⟨z, _⟩
      · exact z
      · rw [z, ha] at e
        cases e
        exact absurd (show Data.seq vs.toArray _ = Data.dict es ep from d) (fun q => nomatch q)
    have nsB : ∀ {b : Addr} {m : Str → Option Value}, s1.heap.Ns b m → (hidT s1.heap H).Ns b m := fun {b m} hm => by
      have n := free hm
      obtain ⟨o, es, ep, e, d, r⟩ := hm
      exact ⟨o, es, ep, hidT_get e n, d, r⟩
    have kB : K.In (hidT s1.heap H) := fun b o e => hidT_get (KX b o e) (by
      rcases hO b with z | ⟨z, z2⟩
      · exact z
      · subst z
        rw [hK (by rw [z2]; exact fun q => nomatch q)] at e
        cases e)
    have mB : Mod K mg (hidT s1.heap H) := ⟨kB, nsB hns, ⟨mb, nsB hb, hbb⟩, by
      obtain ⟨mc, h1, h2⟩ := hlim
      exact ⟨mc, nsB h1, h2⟩⟩
    have dB : (hidT s1.heap H).NoDigits := by
      obtain ⟨mc, h1, h2⟩ := hdig
      exact ⟨mc, nsB h1, h2⟩
    have e0 : Env0 P w K mg (hidT s1.heap H) callerA [] s1 H := ⟨rfl, mB, fun b o e => of_hidT e, Nat.le_of_eq (hidT_size _ _), trivial, fun b hb => absurd (show b ∈ ([] : List Addr) from hb) (fun q => nomatch q), hok, .of_eq hg⟩
    refine codeAny_mono ((F _ kB (nsB hns) dB).run callerA [] s1 H ⟨[.ref a], []⟩ [.ref a] [.ref a] _ (fun _ _ _ => False) hr rfl e0 (hbind s1 (.ref a)) (.cons rfl .nil) (says_sp says hS)) ?_
    intro r s' h
    match r, h with
    | .error e, h =>
      obtain ⟨_, _, _, _, _, _, _, _, _, _, _, _, z⟩ := h
      exact z.elim
    | .ok .next, h => exact False.elim h
    | .ok .brk, h => exact False.elim h
    | .ok .cont, h => exact False.elim h
    | .ok (.ret u), h =>
      obtain ⟨v, H', os, bare, un, hok', r', q⟩ := h
      obtain rfl : v = .bl true := q
      obtain rfl : u = Value.bool true := r'
      refine ⟨rfl, OldK.of_keep fun b o e => ?_, os, bare⟩
      rcases hO b with z | ⟨_, z⟩
      · exact un.keep b o e z (fun q => nomatch (show b ∈ ([] : List Addr) from q)) (fun q => nomatch q)
      · obtain ⟨e1, _⟩ := hok b _ z
        obtain ⟨e2, _⟩ := hok' b _ (un.frzs b _ _ z)
        rw [e] at e1
        cases e1
        exact e2
  cases hk : K.lookup a with
  | some o =>
    have e := KX a o hk
    rw [ha] at e
    cases e
    exact core (fun _ => none) (fun _ => .inl rfl) (.inr ⟨_, vs.toArray, _, hk, rfl, rfl, rfl, by rw [List.size_toArray, lenV]; exact hl, by simpa using rv⟩) (fun b u z => (nomatch (show (none : Option HO) = some u from z))) fun z => absurd rfl z
  | none =>
    refine core (fun b => if b = a then some (.frz { cls := .type "list", data := .seq vs.toArray } (.lst (ns.map V.int))) else none) (fun b => ?_) (.inl ⟨{ cls := .type "list", data := .seq vs.toArray }, if_pos rfl⟩) (fun b u z => ?_) fun _ => hk
    · by_cases q : b = a
      · exact .inr ⟨q, if_pos q⟩
      · exact .inl (if_neg q)
    · by_cases q : b = a
      · have z' := (if_pos q).symm.trans z
        cases z'
        subst q
        exact ⟨ha, by rw [List.length_map]; exact hl, vs, _, rv, ha⟩
      · have z' := (if_neg q).symm.trans z
        cases z'
theorem walk_mx {l : PySem.W.OpenLaw} {n k : Nat} {q : Program} {loose : List Str} {XP : (Str → Option Value) → Heap → Prop} {YP : World → Heap → Prop} {d : DefRec} {x : Str} (hn : l.most = some n) (hn2 : n ≤ sizeLine) (hdf : d.params.defaults = []) (hr : Room k callerA)
    (F : ∀ (w : World) (mg : Str → Option Value) (fa : Addr) (h : Heap), YP w h → h.Ns mainGlobals mg → mg d.name = some (.ref fa) → ∃ (K : PySem.W.Frag) (fd : FuncData) (g : List MV → MH → Res MV), K.In h ∧ (∀ (s : Shared) (u : Value), BindsTo s fd ⟨[u], []⟩ [(x, u)]) ∧
      (∀ ns : List Int, ns.length ≤ n → Says g ns) ∧ ∀ base : Heap, K.In base → base.Ns mainGlobals mg → base.NoDigits → FnG l.prog w K mg base k fa fd [x] (spM K 1 g)) :
    PySem.W.WalkO q loose XP YP l.row.toRowW d [] (fun f vs => PySem.call f vs) := by
  refine Att.attach_call hn hdf ?_
  intro w s₀ s₁ mg mb fa o pm cd doc a vs ns G Y ho hd hcd hmg hobj hints hlen hg
  obtain ⟨K, fd, g, KX, hb, hsay, hF⟩ := F w mg fa _ Y G.T.g hmg
  exact law_callG KX G.T.g G.T.b G.T.builtins G.T.nolimit G.T.nodigits hg hobj hints (Nat.le_trans hlen hn2) hr hF hb (hsay ns hlen)
end MX
end
section
set_option Elab.async false
set_option linter.all false
set_option maxRecDepth 100000
set_option maxHeartbeats 2000000
/-! MX21: a program's tables, level by level. -/
namespace MX
open PySem PySem.Spec L2
structure FnE where
  d : He.DefD
  N : List Str
  ps : List Str
structure PrgD where
  cs : List (Str × MV)
  fns : List (Str × FnE)
  mets : List ((Str × Str) × FnE)
  cls : List (Str × FnE)
  exTs : List Str
  exIs : List (Str × Str)
  blts : List Str
  flds : List (Str × Str)
  xfs : List (Str × Str)
  cats : List ((Str × Str) × Bool)
  fuel : Nat
  en : Nat
  sn : Nat
abbrev FSem := FnE → List MV → MH → Res MV
def gkOf (D : PrgD) (k : Nat) (f f' : FSem) (x : Str) : GV := match D.cs.lookup x with
  | some v => .const v
  | none => (match D.fns.lookup x with
    | some e => .fn e.ps.length (f e)
    | none => (match D.cls.lookup x with
      | some e => if k = 0 then .none else .cls e.ps.length (f' e)
      | none => if D.exTs.contains x = true then .exT else (match D.exIs.lookup x with
        | some g => if k < 2 then .none else .exI g
        | none => .none)))
def tbOf (D : PrgD) (k : Nat) (f f' : FSem) : Tb where
  gk := gkOf D k f f'
  blt := fun x => D.blts.contains x
  fld := fun C g => D.flds.contains (C, g)
  xf := fun C g => D.xfs.contains (C, g)
  cat := fun x y => D.cats.lookup (x, y)
  met := fun C m => (D.mets.lookup (C, m)).map fun e => (e.ps.length, f e)
def stuckF : FSem := fun _ _ _ => .stuck
def lev (D : PrgD) : Nat → FSem × FSem
  | 0 => (stuckF, stuckF)
  | k + 1 => (fun e => bodyM (tbOf D k (lev D k).1 (lev D k).2) D.en D.sn (cFn e.N e.d.scope D.fuel) e.d.body, (lev D k).1)
def tb (D : PrgD) (k : Nat) : Tb := tbOf D k (lev D k).1 (lev D k).2
/-- what a function of the program does, k calls deep -/
def fnK (D : PrgD) (k : Nat) (e : FnE) : List MV → MH → Res MV := (lev D k).1 e
abbrev fA (K : PySem.W.Frag) (e : FnE) : Addr := He.fAd K e.d.at_
def Def (K : PySem.W.Frag) (e : FnE) : Prop := ∃ fd, FunD K e.d.name e.d.qual e.d.params e.d.body e.d.scope [] [] (fA K e) fd ∧ FnScope e.N e.ps e.d.scope ∧ Binds K fd e.ps []
structure Sta (D : PrgD) (P : Program) (w : World) (K : PySem.W.Frag) (mg : Str → Option Value) (base : Heap) : Prop where
  cs : ∀ x v, D.cs.lookup x = some v → ∃ u vv, mg x = some u ∧ RelV vv u ∧ ∀ ρ H, VR K ρ H v vv
  fn : ∀ x e, D.fns.lookup x = some e → mg x = some (.ref (fA K e)) ∧ Def K e
  met : ∀ C m e, D.mets.lookup (C, m) = some e → Cls K (He.ga K C) ∧ Meth K (He.ga K C) m (fA K e) ∧ Def K e
  cls : ∀ x e, D.cls.lookup x = some e → mg x = some (.ref (He.ga K x)) ∧ Mk K (He.ga K x) (fA K e) ∧ Def K e
  exT : ∀ x, x ∈ D.exTs → ExT K mg x
  exI : ∀ x f, D.exIs.lookup x = some f → ExI P w K mg base x f
  blt : ∀ x, x ∈ D.blts → mg x = none
  fld : ∀ C f, (C, f) ∈ D.flds → Cls K (He.ga K C) ∧ NoAttr K (He.ga K C) f
  xf : ∀ C f, (C, f) ∈ D.xfs → XfC K (He.ga K C) ∧ PySem.W.findIn K (.ref (He.ga K C)) f = some none
  cat : ∀ x y b, D.cats.lookup (x, y) = some b → PySem.W.exmOne K (.ref (He.ga K x)) (.ref (He.ga K y)) = some b
  nd : base.NoDigits
section
variable {D : PrgD} {P : Program} {w : World} {K : PySem.W.Frag} {mg : Str → Option Value} {base : Heap}
def AllT (P : Program) (w : World) (K : PySem.W.Frag) (mg : Str → Option Value) (base : Heap) (k : Nat) (f : FSem) : Prop := ∀ e, Def K e → FnT P w K mg base k (fA K e) e.ps.length (f e)
theorem stuck_all (k : Nat) : AllT P w K mg base k stuckF := fun e he => by
  obtain ⟨fd, F, S, B⟩ := he
  refine ⟨fd, e.ps, F.kp, B, rfl, fun vs H Q E h => h.1, fun A outer s H args us vs Q E _ _ _ _ _ h => ?_⟩
  obtain ⟨_, ρ, M, xs, _, _, q⟩ := h
  exact q.elim
theorem tbOf_ok (S : Sta D P w K mg base) {k : Nat} {f f' : FSem} (hf : AllT P w K mg base k f) (hf' : ∀ j, k = j + 1 → AllT P w K mg base j f') : TbOk P w K mg base k (tbOf D k f f') where
  const := fun x v h => by
    have h : gkOf D k f f' x = .const v := h
    unfold gkOf at h
    split at h
    · rename_i v' e
      cases h
      exact S.cs x v e
    · split at h
      · cases h
      · split at h
        · split at h <;> cases h
        · split at h
          · cases h
          · split at h
            · split at h <;> cases h
            · cases h
  fn := fun x n g h => by
    have h : gkOf D k f f' x = .fn n g := h
    unfold gkOf at h
    split at h
    · cases h
    · split at h
      · rename_i e he
        cases h
        obtain ⟨h1, h2⟩ := S.fn x e he
        exact ⟨_, h1, hf e h2⟩
      · split at h
        · split at h <;> cases h
        · split at h
          · cases h
          · split at h
            · split at h <;> cases h
            · cases h
  cls := fun x n g h => by
    have h : gkOf D k f f' x = .cls n g := h
    unfold gkOf at h
    split at h
    · cases h
    · split at h
      · cases h
      · split at h
        · rename_i e he
          split at h
          · cases h
          · rename_i hk
            cases h
            obtain ⟨h1, h2, h3⟩ := S.cls x e he
            obtain ⟨j, rfl⟩ : ∃ j, k = j + 1 := ⟨k - 1, by omega⟩
            exact ⟨_, j, rfl, h1, h2, hf' j rfl e h3⟩
        · split at h
          · cases h
          · split at h
            · split at h <;> cases h
            · cases h
  exT := fun x h => by
    have h : gkOf D k f f' x = .exT := h
    unfold gkOf at h
    split at h
    · cases h
    · split at h
      · cases h
      · split at h
        · split at h <;> cases h
        · split at h
          · rename_i hc
            exact S.exT x (by simpa using hc)
          · split at h
            · split at h <;> cases h
            · cases h
  exI := fun x g h => by
    have h : gkOf D k f f' x = .exI g := h
    unfold gkOf at h
    split at h
    · cases h
    · split at h
      · cases h
      · split at h
        · split at h <;> cases h
        · split at h
          · cases h
          · split at h
            · rename_i g' e
              split at h
              · cases h
              · rename_i hk
                cases h
                exact ⟨S.exI x g e, Nat.le_of_not_lt hk⟩
            · cases h
  exC := fun x _ => ⟨fun c' b h => S.cat c' x b h⟩
  blt := fun x h => S.blt x (by
    have h : D.blts.contains x = true := h
    simpa using h)
  fld := ⟨fun C g h => S.fld C g (by
    have h : D.flds.contains (C, g) = true := h
    simpa using h)⟩
  xf := ⟨fun C g h => S.xf C g (by
    have h : D.xfs.contains (C, g) = true := h
    simpa using h)⟩
  met := ⟨fun C m n g h => by
    have h : (D.mets.lookup (C, m)).map (fun e => (e.ps.length, f e)) = some (n, g) := h
    obtain ⟨e, h1, h2⟩ := Option.map_eq_some_iff.mp h
    cases h2
    obtain ⟨k1, k2, k3⟩ := S.met C m e h1
    exact ⟨k1, _, k2, hf e k3⟩⟩
  nd := S.nd
theorem lev_ok (S : Sta D P w K mg base) : ∀ k : Nat, AllT P w K mg base k (lev D k).1 ∧ ∀ j, k = j + 1 → AllT P w K mg base j (lev D k).2
  | 0 => ⟨stuck_all 0, fun j h => absurd h (by omega)⟩
  | k + 1 => by
    obtain ⟨h1, h2⟩ := lev_ok S k
    refine ⟨fun e he => ?_, fun j hj => ?_⟩
    · obtain ⟨fd, F, Sc, B⟩ := he
      exact fnT_of (tbOf_ok S h1 h2) F Sc B
    · have : j = k := by omega
      subst this
      exact h1
theorem fnK_den (S : Sta D P w K mg base) (k : Nat) {e : FnE} {fd : FuncData} (F : FunD K e.d.name e.d.qual e.d.params e.d.body e.d.scope [] [] (fA K e) fd) (Sc : FnScope e.N e.ps e.d.scope) : FnG P w K mg base (k + 1) (fA K e) fd e.ps (spM K e.ps.length (fnK D (k + 1) e)) := by
  obtain ⟨h1, h2⟩ := lev_ok S k
  exact fnG_den (tbOf_ok S h1 h2) F Sc
theorem fnK_ok (S : Sta D P w K mg base) (k : Nat) {e : FnE} (he : Def K e) : FnT P w K mg base k (fA K e) e.ps.length (fnK D k e) := (lev_ok S k).1 e he
end
end MX
end
section
set_option Elab.async false
set_option linter.all false
set_option maxRecDepth 100000
set_option maxHeartbeats 2000000
/-! MX22: what is looked at behind the top. -/
namespace MX
open PySem PySem.Spec L2
open He (Fa ga ma ba eqO eqO_ok)
def cvB (K : PySem.W.Frag) (x : Str) (v : MV) : Bool := match PySem.W.nsIn K mainGlobals x, v with
  | some (some (.int j _)), .int i => decide (j = i)
  | some (some (.str y _)), .str z => decide (y.cps.toList = z)
  | some (some (.bool b)), .bl c => b == c
  | some (some .none), .non => true
  | _, _ => false
theorem cvB_ok {K : PySem.W.Frag} {h : Heap} {mg : Str → Option Value} (X : K.In h) (G : h.Ns mainGlobals mg) {x : Str} {v : MV} (c : cvB K x v = true) : ∃ u vv, mg x = some u ∧ RelV vv u ∧ ∀ ρ H, VR K ρ H v vv := by
  unfold cvB at c
  split at c
  · rename_i j t i e
    obtain rfl := of_decide_eq_true c
    exact ⟨_, .int j, PySem.W.mg_of X G e, ⟨t, rfl⟩, fun ρ H => .int j⟩
  · rename_i y t z e
    obtain rfl := of_decide_eq_true c
    refine ⟨_, .str y, PySem.W.mg_of X G e, ⟨t, rfl⟩, fun ρ H => ?_⟩
    have r := VR.str (K := K) (ρ := ρ) (H := H) y.cps.toList
    rw [str_of] at r
    exact r
  · rename_i b d e
    obtain rfl := eq_of_beq c
    exact ⟨_, .bl b, PySem.W.mg_of X G e, rfl, fun ρ H => .bl b⟩
  · rename_i e
    exact ⟨_, .non, PySem.W.mg_of X G e, rfl, fun ρ H => .non⟩
  · cases c
def oexB (K : PySem.W.Frag) (C : Addr) : Bool := (match K.lookup C with
  | some ⟨.type t, _, .cls cd, sl⟩ => decide (t = "type") && (match cd.mro, sl.toList with
    | .ref C' :: bm, [_, _, _, _, some (.builtin n), _] => decide (C' = C) && (decide (n = "ValueError.__new__") && (!cd.hasDel && (cd.hasDict && PySem.HandSPX.refsVE bm)))
    | _, _ => false)
  | _ => false) && (eqO (PySem.W.findIn K (.ref C) "__setattr__") (some (some (.builtin "object.__setattr__"))) && (decide (PySem.W.subIn K (.ref C) (.type "BaseException") = some true) && (decide (PySem.W.typeIn K (.ref C) = some (.type "type")) && PySem.W.keepIn K (.ref C))))
theorem oexB_ok {K : PySem.W.Frag} {C : Addr} (h : oexB K C = true) : OexC K C := by
  unfold oexB at h
  obtain ⟨h0, h⟩ := ba h
  obtain ⟨h1, h⟩ := ba h
  obtain ⟨h2, h⟩ := ba h
  obtain ⟨h3, h4⟩ := ba h
  refine ⟨?_, eqO_ok h1, of_decide_eq_true h2, of_decide_eq_true h3, h4⟩
  split at h0
  · rename_i t dd cd sl e
    obtain ⟨q0, r0⟩ := ba h0
    clear h0
    obtain rfl : t = "type" := of_decide_eq_true q0
    obtain ⟨nm, bs, mro, ns, qn, hd, sn, sub, ab, col, del⟩ := cd
    dsimp only at r0
    split at r0
    · rename_i C' bm k0 k1 k2 k3 n k5 es
      obtain ⟨q1, r1⟩ := ba r0
      obtain ⟨q2, r2⟩ := ba r1
      obtain ⟨q3, r3⟩ := ba r2
      obtain ⟨q4, q5⟩ := ba r3
      obtain rfl : C' = C := of_decide_eq_true q1
      obtain rfl : n = "ValueError.__new__" := of_decide_eq_true q2
      obtain rfl : del = false := by simpa using q3
      obtain rfl : hd = true := q4
      have es' : sl = #[k0, k1, k2, k3, some (.builtin "ValueError.__new__"), k5] := by
        obtain ⟨l⟩ := sl
        simp only at es
        rw [es]
      subst es'
      exact ⟨nm, qn, ns, bs, bm, sn, sub, ab, col, dd, k0, k1, k2, k3, k5, e, q5⟩
    · cases r0
  · cases h0
def binB (K : PySem.W.Frag) (B : Addr) : Bool := PySem.W.readsIn K B (.type "type") && (eqO (PySem.W.specialIn K (.ref B) "__getattribute__") (some (some (.builtin "type.__getattribute__"))) &&
  (match PySem.W.findCls K (.ref B) (.type "type") "__init__" with
  | some (.val (.builtin n)) => decide (n = "ValueError.__init__")
  | _ => false))
theorem binB_ok {K : PySem.W.Frag} {B : Addr} (h : binB K B = true) : BInit K B := by
  unfold binB at h
  obtain ⟨h1, h⟩ := ba h
  obtain ⟨h2, h3⟩ := ba h
  refine ⟨h1, eqO_ok h2, ?_⟩
  split at h3
  · rename_i n e
    rw [e, of_decide_eq_true h3]
  · cases h3
/-- C's __init__ and what is about it: base b, field f -/
def exiB (K : PySem.W.Frag) (c b f : Str) : Bool := (Fa.glo c).ok K && ((Fa.glo b).ok K && (oexB K (ga K c) && (binB K (ga K b) && (eqO (PySem.W.findIn K (.ref (ga K c)) "__init__") (some (some (.ref (ma K (ga K c) "__init__")))) &&
  (decide (PySem.W.typeIn K (.ref (ma K (ga K c) "__init__")) = some (.type "function")) && eqO (PySem.W.findIn K (.ref (ga K c)) f) (some none))))))
def staB (D : PrgD) (K : PySem.W.Frag) : Bool := D.cs.all (fun p => cvB K p.1 p.2) && (D.fns.all (fun p => (Fa.glo p.1).ok K && decide (p.2.d.at_ = (p.1, none))) &&
  (D.mets.all (fun p => (Fa.cls p.1.1).ok K && ((Fa.meth p.1.1 p.1.2).ok K && decide (p.2.d.at_ = (p.1.1, some p.1.2)))) && (D.cls.all (fun p => (Fa.glo p.1).ok K && ((Fa.mkr p.1).ok K && decide (p.2.d.at_ = (p.1, some ("__init__" : Str))))) &&
  (D.exTs.all (fun x => (Fa.exc x).ok K && (Fa.glo x).ok K) && (D.blts.all (fun x => (Fa.free x).ok K) && (D.flds.all (fun p => (Fa.cls p.1).ok K && (Fa.noat p.1 p.2).ok K) &&
  (D.xfs.all (fun p => xfB K (ga K p.1) && (Fa.noat p.1 p.2).ok K) && D.cats.all (fun p => (Fa.exm p.1.1 p.1.2 p.2).ok K))))))))
theorem mem_of_lookup {α β : Type} [BEq α] [LawfulBEq α] {a : α} {b : β} : ∀ {l : List (α × β)}, l.lookup a = some b → (a, b) ∈ l
  | [], h => by cases h
  | (x, y) :: r, h => by
    rw [List.lookup_cons] at h
    cases e : a == x with
    | true =>
      rw [e] at h
      cases h
      rw [eq_of_beq e]
      exact List.mem_cons_self ..
    | false =>
      rw [e] at h
      exact List.mem_cons_of_mem _ (mem_of_lookup h)
def PrgD.ents (D : PrgD) : List FnE := D.fns.map (·.2) ++ (D.mets.map (·.2) ++ D.cls.map (·.2))
theorem sta_of {D : PrgD} {P : Program} {w : World} {K : PySem.W.Frag} {mg : Str → Option Value} {base h : Heap} (X : K.In h) (G : h.Ns mainGlobals mg) (hb : staB D K = true) (hd : ∀ e ∈ D.ents, Def K e) (hI : ∀ x f, D.exIs.lookup x = some f → ExI P w K mg base x f) (nd : base.NoDigits) : Sta D P w K mg base := by
  unfold staB at hb
  obtain ⟨a1, hb⟩ := ba hb
  obtain ⟨a2, hb⟩ := ba hb
  obtain ⟨a3, hb⟩ := ba hb
  obtain ⟨a4, hb⟩ := ba hb
  obtain ⟨a5, hb⟩ := ba hb
  obtain ⟨a6, hb⟩ := ba hb
  obtain ⟨a7, hb⟩ := ba hb
  obtain ⟨a8, a9⟩ := ba hb
  rw [List.all_eq_true] at a1 a2 a3 a4 a5 a6 a7 a8 a9
  refine ⟨fun x v e => cvB_ok X G (a1 _ (mem_of_lookup e)), fun x e he => ?_, fun C m e he => ?_, fun x e he => ?_, fun x hx => ?_, hI, fun x hx => He.free_ok X G (a6 x hx), fun C f hf => ?_, fun C f hf => ?_, fun x y b he => He.exm_ok (a9 _ (mem_of_lookup he)), nd⟩
  · obtain ⟨k1, k2⟩ := ba (a2 _ (mem_of_lookup he))
    refine ⟨?_, hd e (List.mem_append_left _ (List.mem_map.mpr ⟨_, mem_of_lookup he, rfl⟩))⟩
    have k2 := of_decide_eq_true k2
    rw [He.glo_ok X G k1]
    unfold fA He.fAd
    dsimp only at k2
    rw [k2]
  · obtain ⟨k1, k2⟩ := ba (a3 _ (mem_of_lookup he))
    obtain ⟨k2, k3⟩ := ba k2
    have k3 := of_decide_eq_true k3
    refine ⟨He.cls_ok k1, ?_, hd e (List.mem_append_right _ (List.mem_append_left _ (List.mem_map.mpr ⟨_, mem_of_lookup he, rfl⟩)))⟩
    have z := He.meth_ok k2
    unfold fA He.fAd
    dsimp only at k3
    rw [k3]
    exact z
  · obtain ⟨k1, k2⟩ := ba (a4 _ (mem_of_lookup he))
    obtain ⟨k2, k3⟩ := ba k2
    have k3 := of_decide_eq_true k3
    refine ⟨He.glo_ok X G k1, ?_, hd e (List.mem_append_right _ (List.mem_append_right _ (List.mem_map.mpr ⟨_, mem_of_lookup he, rfl⟩)))⟩
    have z := He.mkr_ok k2
    unfold fA He.fAd
    dsimp only at k3
    rw [k3]
    exact z
  · obtain ⟨k1, k2⟩ := ba (a5 x hx)
    obtain ⟨j1, j2, j3, j4⟩ := He.exc_ok k1
    exact ⟨j1, He.glo_ok X G k2, j2, j3, j4⟩
  · obtain ⟨k1, k2⟩ := ba (a7 _ hf)
    exact ⟨He.cls_ok k1, He.noat_ok k2⟩
  · obtain ⟨k1, k2⟩ := ba (a8 _ hf)
    exact ⟨xfB_ok k1, He.noat_ok k2⟩
/-- an exception class with an own __init__ -/
theorem exI_of {P : Program} {w : World} {K : PySem.W.Frag} {mg : Str → Option Value} {base h : Heap} {c b s a f msg : Str} {d : He.DefD} {j : Nat} {p1 p2 p3 p4 p5 p6 p7 p8 p9 p10 : Pos} (X : K.In h) (G : h.Ns mainGlobals mg) (hb : exiB K c b f = true)
    (hd : ∃ fd, FunD K d.name d.qual d.params d.body d.scope [] [] (He.fAd K d.at_) fd ∧ Binds K fd [s, a] []) (hat : d.at_ = (c, some ("__init__" : Str))) (hbody : d.body = initBody b s a f msg j p1 p2 p3 p4 p5 p6 p7 p8 p9 p10) (S : FnScope [s, a] [s, a] d.scope)
    (hbs : d.scope.names.lookup b = some .globalImplicit) (hq : (badN b || (badN s || badN a)) = false) (hline : (p2.endLine == p5.line) = true) : ExI P w K mg base c f := by
  unfold exiB at hb
  obtain ⟨a1, hb⟩ := ba hb
  obtain ⟨a2, hb⟩ := ba hb
  obtain ⟨a3, hb⟩ := ba hb
  obtain ⟨a4, hb⟩ := ba hb
  obtain ⟨a5, hb⟩ := ba hb
  obtain ⟨a6, a7⟩ := ba hb
  rw [Bool.or_eq_false_iff, Bool.or_eq_false_iff] at hq
  obtain ⟨b1, _, _⟩ := badN_of (x := b) (by rw [hq.1]; decide)
  obtain ⟨s1, s2, _⟩ := badN_of (x := s) (by rw [hq.2.1]; decide)
  obtain ⟨t1, t2, _⟩ := badN_of (x := a) (by rw [hq.2.2]; decide)
  obtain ⟨fd, F, B⟩ := hd
  have ef : He.fAd K d.at_ = ma K (ga K c) "__init__" := by
    unfold He.fAd
    rw [hat]
  rw [ef, hbody] at F
  exact ⟨He.glo_ok X G a1, oexB_ok a3, _, fd, s, a, eqO_ok a5, of_decide_eq_true a6, B, init_ok F S hbs (He.glo_ok X G a2) b1 s1 s2 t1 t2 hline (binB_ok a4) (oexB_ok a3) (eqO_ok a7)⟩
/-! ### the Hook -/
abbrev AlM : Type := He.AlD × Bool
def obsM (n : Nat) (fn : List He.DefD) (ex : PySem.W.Frag → Bool) (g : Addr → Option Obj) : AlM := (He.obsD [] fn (He.frG g (He.asD g n ++ [cStatics])), ex (He.frG g (He.asD g n ++ [cStatics])))
structure SaysM (fn : List He.DefD) (ex : PySem.W.Frag → Bool) (K : PySem.W.Frag) : Prop where
  d : He.SaysD [] fn K
  more : ex K = true
def hookM (n : Nat) (fn : List He.DefD) (ex : PySem.W.Frag → Bool) : PySem.W.Hook where
  α := AlM
  obs := fun s => obsM n fn ex s.heap.get?
  val := fun _ => (He.valD fn, true)
  says := fun _ h => ∃ K : PySem.W.Frag, K.In h ∧ SaysM fn ex K
  of := fun _ _ e => ⟨_, He.frG_in, ⟨congrArg (fun z : AlM => z.1) e, congrArg (fun z : AlM => z.2) e⟩⟩
  keeps := fun _ _ _ ⟨K, hK, c⟩ k => ⟨K, PySem.W.Frag.In.keeps hK k, c⟩
theorem obsM_eq {n : Nat} {fn : List He.DefD} {ex : PySem.W.Frag → Bool} {g : Addr → Option Obj} {s : Shared} (h : ∀ a, g a = s.heap.get? a) : obsM n fn ex g = (hookM n fn ex).obs s := by
  have e : g = s.heap.get? := funext h
  rw [e] <;> rfl
end MX
end
section
set_option Elab.async false
set_option linter.all false
set_option maxRecDepth 100000
set_option maxHeartbeats 1000000
/-! MX23: single steps of runs. -/
namespace MX
open PySem
section
variable {τ τ' : MX.Loc} {M M' M2 : MH} {a b m1' m2' : MS} {e f : ME} {A : MA} {v u w : MV} {i : Nat} {c d : MB} {k l : Bool} {xs : List MV} {cx : Str} {fs : List (Str × MV)}
theorem seq_nx (h : a τ M = .nx τ' M') : mSeq a b τ M = b τ' M' := by unfold mSeq; rw [h]
theorem seq_rt (h : a τ M = .rt v M') : mSeq a b τ M = .rt v M' := by unfold mSeq; rw [h]
theorem seq_ex (h : a τ M = .ex cx fs τ' M') : mSeq a b τ M = .ex cx fs τ' M' := by unfold mSeq; rw [h]
theorem seq_bk (h : a τ M = .bk τ' M') : mSeq a b τ M = .bk τ' M' := by unfold mSeq; rw [h]
theorem next_nx : mNext τ M = .nx τ M := rfl
theorem asg_ok2 (h : e τ M = .ok v M') : mAsg e (gSet i) τ M = .nx (τ.set i (.va v)) M' := by unfold mAsg; rw [h]; rfl
theorem asg_ex (h : e τ M = .ex cx fs M') {g : MG} : mAsg e g τ M = .ex cx fs τ M' := by unfold mAsg; rw [h]; rfl
theorem if_t (h : c τ M = .ok true M') : mIfS c a b τ M = a τ M' := by unfold mIfS; rw [h]; rfl
theorem if_f (h : c τ M = .ok false M') : mIfS c a b τ M = b τ M' := by unfold mIfS; rw [h]; rfl
theorem if_b (h : c τ M = .ok k M') : mIfS c a b τ M = if k = true then a τ M' else b τ M' := by unfold mIfS; rw [h]; rfl
theorem ret_ok (h : e τ M = .ok v M') : mRet e τ M = .rt v M' := by unfold mRet; rw [h]; rfl
theorem ret_ex (h : e τ M = .ex cx fs M') : mRet e τ M = .ex cx fs τ M' := by unfold mRet; rw [h]; rfl
theorem drop_ok (h : e τ M = .ok v M') : mDrop e τ M = .nx τ M' := by unfold mDrop; rw [h]; rfl
theorem drop_ex (h : e τ M = .ex cx fs M') : mDrop e τ M = .ex cx fs τ M' := by unfold mDrop; rw [h]; rfl
theorem raise_ok {m : MMk} (h : m τ M = .ok (cx, fs) M') : mRaise m τ M = .ex cx fs τ M' := by unfold mRaise; rw [h]
theorem run_rt {n : Nat} (h : a (startM n xs) M = .rt v M') : runBody n a xs M = .ok v M' := by unfold runBody; rw [h]
theorem run_nx {n : Nat} (h : a (startM n xs) M = .nx τ' M') : runBody n a xs M = .ok .non M' := by unfold runBody; rw [h]
theorem run_ex {n : Nat} (h : a (startM n xs) M = .ex cx fs τ' M') : runBody n a xs M = .ex cx fs M' := by unfold runBody; rw [h]
theorem var_ok (h : τ[i]? = some (.va v)) : mVar i τ M = .ok v M := by unfold mVar; rw [h]
theorem args1 (h : e τ M = .ok v M') : mCons e mNil τ M = .ok [v] M' := by unfold mCons; rw [h]; rfl
theorem args1_ex (h : e τ M = .ex cx fs M') : mCons e A τ M = .ex cx fs M' := by unfold mCons; rw [h]; rfl
theorem argsC (h : e τ M = .ok v M') (h2 : A τ M' = .ok xs M2) : mCons e A τ M = .ok (v :: xs) M2 := by
  unfold mCons
  rw [h]
  show (A τ M').bind _ = _
  rw [h2]
  rfl
theorem app_ok {g : List MV → MH → Res MV} (h : A τ M = .ok xs M') : mApp g A τ M = g xs M' := by unfold mApp; rw [h]; rfl
theorem app_ex {g : List MV → MH → Res MV} (h : A τ M = .ex cx fs M') : mApp g A τ M = .ex cx fs M' := by unfold mApp; rw [h]; rfl
theorem call_ok {g : List MV → MH → Res MV} {n : Nat} (h : A τ M = .ok xs M') (hn : xs.length = n) : mCall n g A τ M = g xs M' := by
  unfold mCall
  rw [h]
  exact if_pos hn
theorem op_ok {g : MV → MV → MH → Res MV} (h : e τ M = .ok v M') (h2 : f τ M' = .ok w M2) : m2 g e f τ M = g v w M2 := by
  unfold m2
  rw [h]
  show (f τ M').bind _ = _
  rw [h2]
  rfl
theorem tru_b (h : e τ M = .ok (.bl k) M') : mTru e τ M = .ok k M' := by unfold mTru; rw [h]; rfl
theorem tru_ok2 (h : e τ M = .ok v M') (ht : truM M' v = some k) : mTru e τ M = .ok k M' := by
  unfold mTru
  rw [h]
  show (match truM M' v with
    | some b => Res.ok b M'
    | none => .stuck) = _
  rw [ht]
theorem test_ok (h : e τ M = .ok (.bl k) M') : mTest e τ M = .ok k M' := by unfold mTest; rw [h]; rfl
theorem not_ok (h : c τ M = .ok k M') : mNot c τ M = .ok (!k) M' := by unfold mNot; rw [h]; rfl
theorem and_f (h : c τ M = .ok false M') : mAnd c d τ M = .ok false M' := by unfold mAnd; rw [h]; rfl
theorem and_t (h : c τ M = .ok true M') : mAnd c d τ M = d τ M' := by unfold mAnd; rw [h]; rfl
theorem or_t (h : c τ M = .ok true M') : mOr c d τ M = .ok true M' := by unfold mOr; rw [h]; rfl
theorem or_f (h : c τ M = .ok false M') : mOr c d τ M = d τ M' := by unfold mOr; rw [h]; rfl
theorem and_ok (h : c τ M = .ok k M') (h2 : d τ M' = .ok l M') : mAnd c d τ M = .ok (k && l) M' := by
  cases k with
  | true => rw [and_t h, h2]; rfl
  | false => rw [and_f h]; rfl
theorem or_ok (h : c τ M = .ok k M') (h2 : d τ M' = .ok l M') : mOr c d τ M = .ok (k || l) M' := by
  cases k with
  | true => rw [or_t h]; rfl
  | false => rw [or_f h, h2]; rfl
theorem ife_b (h : c τ M = .ok k M') : mIf c e f τ M = if k = true then e τ M' else f τ M' := by unfold mIf; rw [h]; rfl
theorem part_ok {j : Int} (h : e τ M = .ok (.int j) M') : mPart e τ M = .ok (some j) M' := by unfold mPart; rw [h]; rfl
theorem sl_ok {x : MV} {p q : Option Int} {pm qm : MO'} {M3 : MH} (h : e τ M = .ok x M') (hp : pm τ M' = .ok p M2) (hq : qm τ M2 = .ok q M3) : mSl e pm qm τ M = fSl x p q M3 := by
  unfold mSl
  rw [h]
  show (pm τ M').bind _ = _
  rw [hp]
  show (qm τ M2).bind _ = _
  rw [hq]
  rfl
theorem while_f {n : Nat} (hn : 0 < n) (h : c τ M = .ok false M') : whileGo c a n τ M = .nx τ M' := by
  cases n with
  | zero => exact absurd hn (Nat.lt_irrefl _)
  | succ n => unfold whileGo; rw [h]; rfl
theorem while_t {n : Nat} (h : c τ M = .ok true M') (hb : a τ M' = .nx τ' M2) : whileGo c a (n + 1) τ M = whileGo c a n τ' M2 := by
  show ((c τ M).out τ fun k M => if k = true then (a τ M).again (whileGo c a n) else .nx τ M) = _
  rw [h]
  show (a τ M').again _ = _
  rw [hb]
  rfl
theorem while_ex {n : Nat} (h : c τ M = .ok true M') (hb : a τ M' = .ex cx fs τ' M2) : whileGo c a (n + 1) τ M = .ex cx fs τ' M2 := by
  show ((c τ M).out τ fun k M => if k = true then (a τ M).again (whileGo c a n) else .nx τ M) = _
  rw [h]
  show (a τ M').again _ = _
  rw [hb]
  rfl
theorem for_stop {w : Wk} {g : MG} {n j : Nat} (hn : 0 < n) (h : nextM w j M = some none) : forGo w g a n j τ M = .nx τ M := by
  cases n with
  | zero => exact absurd hn (Nat.lt_irrefl _)
  | succ n =>
    show (match nextM w j M with
      | none => Out.stuck
      | some none => .nx τ M
      | some (some v) => match g v τ M with
        | .ok τ M => (a τ M).again (forGo w g a n (j + 1))
        | _ => .stuck) = _
    rw [h]
theorem for_step {w : Wk} {g : MG} {n j : Nat} {τ1 : MX.Loc} {M1 : MH} (h : nextM w j M = some (some v)) (hg : g v τ M = .ok τ1 M1) : forGo w g a (n + 1) j τ M = (a τ1 M1).again (forGo w g a n (j + 1)) := by
  show (match nextM w j M with
    | none => Out.stuck
    | some none => .nx τ M
    | some (some v) => match g v τ M with
      | .ok τ M => (a τ M).again (forGo w g a n (j + 1))
      | _ => .stuck) = _
  rw [h]
  dsimp only
  rw [hg]
theorem for_nx {w : Wk} {g : MG} {n j : Nat} {τ1 τ2 : MX.Loc} {M1 : MH} (h : nextM w j M = some (some v)) (hg : g v τ M = .ok τ1 M1) (hb : a τ1 M1 = .nx τ2 M2) : forGo w g a (n + 1) j τ M = forGo w g a n (j + 1) τ2 M2 := by
  rw [for_step h hg, hb]
  rfl
theorem for_rt {w : Wk} {g : MG} {n j : Nat} {τ1 : MX.Loc} {M1 : MH} (h : nextM w j M = some (some v)) (hg : g v τ M = .ok τ1 M1) (hb : a τ1 M1 = .rt u M2) : forGo w g a (n + 1) j τ M = .rt u M2 := by
  rw [for_step h hg, hb]
  rfl
theorem for_bk {w : Wk} {g : MG} {n j : Nat} {τ1 τ2 : MX.Loc} {M1 : MH} (h : nextM w j M = some (some v)) (hg : g v τ M = .ok τ1 M1) (hb : a τ1 M1 = .bk τ2 M2) : forGo w g a (n + 1) j τ M = .nx τ2 M2 := by
  rw [for_step h hg, hb]
  rfl
theorem for_ok {w : Wk} {g : MG} {n : Nat} {it : MI} (h : it τ M = .ok w M') : mFor n it g a τ M = forGo w g a n 0 τ M' := by unfold mFor; rw [h]; rfl
theorem rng1_ok {j : Int} (h : A τ M = .ok [.int j] M') (hj : i62 j = true) : rng1 A τ M = .ok (.rng 0 j.toNat) M' := by
  unfold rng1
  rw [h]
  exact if_pos hj
theorem next_rng {N j : Nat} (h : j < N) : nextM (.rng 0 N) j M = some (some (.int j)) := by
  show (if j < N then some (some (MV.int (0 + (j : Int)))) else some none) = _
  rw [if_pos h, Int.zero_add]
theorem end_rng {N j : Nat} (h : N ≤ j) : nextM (.rng 0 N) j M = some none := if_neg (Nat.not_lt.mpr h)
end
end MX
end
section
set_option Elab.async false
set_option linter.all false
set_option maxRecDepth 100000
set_option maxHeartbeats 0
namespace Mine
open PySem PySem.Spec L2 MX
abbrev RL : PySem.W.OpenLaw := PySem.Challenge.rw_onejudge_k13_texts_of_tuples
abbrev R : PySem.W.OpenRow := PySem.W.OpenLaw.row RL
def top (i : Nat) : Stmt := PySem.Challenge.pw_onejudge_k13_texts_of_tuples.main.body.getD i (.Pass ⟨0, 0, 0, 0⟩)
def sub (s : Stmt) (j : Nat) : Stmt := match s with
  | .ClassDef _ _ _ b _ _ _ _ _ _ _ => b.getD j (.Pass ⟨0, 0, 0, 0⟩)
  | _ => .Pass ⟨0, 0, 0, 0⟩
def mkE (at_ : Str × Option Str) (name qual : Str) (st : Stmt) (N ps : List Str) : FnE := ⟨⟨at_, name, qual, defArgs st, defBody st, defScope st, [], []⟩, N, ps⟩
def e_has_text : FnE := mkE ("has_text", none) "has_text" "has_text" (top 13) ["number", "bound", "_"] ["number"]
def e_term_text : FnE := mkE ("term_text", none) "term_text" "term_text" (top 14) ["term", "sign", "entry"] ["term"]
def e_Reading_init : FnE := mkE ("Reading", some "__init__") "__init__" "Reading.__init__" (sub (top 15) 0) ["self", "text"] ["self", "text"]
def e_Reading_next_sign : FnE := mkE ("Reading", some "next_sign") "next_sign" "Reading.next_sign" (sub (top 15) 1) ["self"] ["self"]
def e_Reading_is_at : FnE := mkE ("Reading", some "is_at") "is_at" "Reading.is_at" (sub (top 15) 2) ["self", "signs"] ["self", "signs"]
def e_Reading_take : FnE := mkE ("Reading", some "take") "take" "Reading.take" (sub (top 15) 3) ["self", "signs", "start"] ["self", "signs"]
def e_Reading_integer : FnE := mkE ("Reading", some "integer") "integer" "Reading.integer" (sub (top 15) 4) ["self", "minus", "start", "zero", "figures"] ["self"]
def e_Reading_term : FnE := mkE ("Reading", some "term") "term" "Reading.term" (sub (top 15) 5) ["self", "depth", "word"] ["self", "depth"]
def e_Reading_entries : FnE := mkE ("Reading", some "entries") "entries" "Reading.entries" (sub (top 15) 6) ["self", "depth", "found"] ["self", "depth"]
def e_read_term : FnE := mkE ("read_term", none) "read_term" "read_term" (top 16) ["text", "reading", "term"] ["text"]
def e__law_number : FnE := mkE ("_law_number", none) "_law_number" "_law_number" (top 18) ["cell"] ["cell"]
def e__law_draws : FnE := mkE ("_law_draws", none) "_law_draws" "_law_draws" (top 19) ["script", "draws", "cell", "rest", "k", "once", "twice"] ["script"]
def e__law_next : FnE := mkE ("_law_next", none) "_law_next" "_law_next" (top 20) ["draws"] ["draws"]
def e__law_more : FnE := mkE ("_law_more", none) "_law_more" "_law_more" (top 21) ["draws", "many", "seed", "more", "k"] ["draws", "many"]
def e__law_pick : FnE := mkE ("_law_pick", none) "_law_pick" "_law_pick" (top 22) ["draws", "some"] ["draws", "some"]
def e__law_term : FnE := mkE ("_law_term", none) "_law_term" "_law_term" (top 23) ["draws", "depth", "kind", "word", "k"] ["draws", "depth"]
def e__law_text : FnE := mkE ("_law_text", none) "_law_text" "_law_text" (top 24) ["term", "entry"] ["term"]
def e__law_integer : FnE := mkE ("_law_integer", none) "_law_integer" "_law_integer" (top 25) ["text", "at", "start", "first", "k"] ["text", "at"]
def e__law_read : FnE := mkE ("_law_read", none) "_law_read" "_law_read" (top 26) ["text", "at", "depth", "sign", "end", "k"] ["text", "at", "depth"]
def e__law_entries : FnE := mkE ("_law_entries", none) "_law_entries" "_law_entries" (top 27) ["text", "at", "depth", "found", "turn", "term", "end"] ["text", "at", "depth"]
def e__law_due : FnE := mkE ("_law_due", none) "_law_due" "_law_due" (top 28) ["text", "term", "at"] ["text"]
def e__law_told : FnE := mkE ("_law_told", none) "_law_told" "_law_told" (top 29) ["text", "error"] ["text"]
def e__law_refused : FnE := mkE ("_law_refused", none) "_law_refused" "_law_refused" (top 30) ["term"] ["term"]
def e_law : FnE := mkE ("law", none) "law" "law" (top 31) ["script", "draws", "some", "turn", "term", "text", "k", "at", "cut", "sign", "spoilt", "deep", "texts", "great"] ["script"]
def i_Malformed : He.DefD := ⟨("Malformed", some "__init__"), "__init__", "Malformed.__init__", defArgs (sub (top 3) 0), defBody (sub (top 3) 0), defScope (sub (top 3) 0), [], []⟩
def datF (n : Nat) : PrgD where
  cs := [("SMALL", .str [97, 98, 99, 100, 101, 102, 103, 104, 105, 106, 107, 108, 109, 110, 111, 112, 113, 114, 115, 116, 117, 118, 119, 120, 121, 122]), ("FIGURES", .str [48, 49, 50, 51, 52, 53, 54, 55, 56, 57]), ("MOST_FIGURES", .int (20)), ("MOST_TEXT", .int (4000)), ("MOST_BITS", .int (13287)), ("MOST_OPEN", .int (60)), ("NOBODY", .str [46]), ("NOTHING", .str [110, 111, 110, 101])]
  fns := [("has_text", e_has_text), ("term_text", e_term_text), ("read_term", e_read_term), ("_law_number", e__law_number), ("_law_draws", e__law_draws), ("_law_next", e__law_next), ("_law_more", e__law_more), ("_law_pick", e__law_pick), ("_law_term", e__law_term), ("_law_text", e__law_text), ("_law_integer", e__law_integer), ("_law_read", e__law_read), ("_law_entries", e__law_entries), ("_law_due", e__law_due), ("_law_told", e__law_told), ("_law_refused", e__law_refused)]
  mets := [(("Reading", "next_sign"), e_Reading_next_sign), (("Reading", "is_at"), e_Reading_is_at), (("Reading", "take"), e_Reading_take), (("Reading", "integer"), e_Reading_integer), (("Reading", "term"), e_Reading_term), (("Reading", "entries"), e_Reading_entries)]
  cls := [("Reading", e_Reading_init)]
  exTs := ["BadNumber"]
  exIs := [("Malformed", "at")]
  blts := ["abs", "range", "isinstance", "int", "str", "all", "tuple", "list", "len", "repr"]
  flds := [("Reading", "text"), ("Reading", "at")]
  xfs := [("Malformed", "at")]
  cats := [(("BadNumber", "BadNumber"), true), (("BadNumber", "Malformed"), false), (("Malformed", "BadNumber"), false), (("Malformed", "Malformed"), true)]
  fuel := n
  en := 40
  sn := 40
abbrev dat : PrgD := datF 1000000
def exs (K : PySem.W.Frag) : Bool := staB dat K && ((He.Fa.glo "law").ok K && (exiB K "Malformed" "JudgeError" "at" && true))
def defs : List He.DefD := [e_has_text.d, e_term_text.d, e_Reading_init.d, e_Reading_next_sign.d, e_Reading_is_at.d, e_Reading_take.d, e_Reading_integer.d, e_Reading_term.d, e_Reading_entries.d, e_read_term.d, e__law_number.d, e__law_draws.d, e__law_next.d, e__law_more.d, e__law_pick.d, e__law_term.d, e__law_text.d, e__law_integer.d, e__law_read.d, e__law_entries.d, e__law_due.d, e__law_told.d, e__law_refused.d, e_law.d, i_Malformed]
theorem s_e_has_text : FnScope e_has_text.N e_has_text.ps e_has_text.d.scope := ⟨rfl, rfl, rfl, by decide +kernel, rfl, by decide +kernel, by decide +kernel⟩
theorem s_e_term_text : FnScope e_term_text.N e_term_text.ps e_term_text.d.scope := ⟨rfl, rfl, rfl, by decide +kernel, rfl, by decide +kernel, by decide +kernel⟩
theorem s_e_Reading_init : FnScope e_Reading_init.N e_Reading_init.ps e_Reading_init.d.scope := ⟨rfl, rfl, rfl, by decide +kernel, rfl, by decide +kernel, by decide +kernel⟩
theorem s_e_Reading_next_sign : FnScope e_Reading_next_sign.N e_Reading_next_sign.ps e_Reading_next_sign.d.scope := ⟨rfl, rfl, rfl, by decide +kernel, rfl, by decide +kernel, by decide +kernel⟩
theorem s_e_Reading_is_at : FnScope e_Reading_is_at.N e_Reading_is_at.ps e_Reading_is_at.d.scope := ⟨rfl, rfl, rfl, by decide +kernel, rfl, by decide +kernel, by decide +kernel⟩
theorem s_e_Reading_take : FnScope e_Reading_take.N e_Reading_take.ps e_Reading_take.d.scope := ⟨rfl, rfl, rfl, by decide +kernel, rfl, by decide +kernel, by decide +kernel⟩
theorem s_e_Reading_integer : FnScope e_Reading_integer.N e_Reading_integer.ps e_Reading_integer.d.scope := ⟨rfl, rfl, rfl, by decide +kernel, rfl, by decide +kernel, by decide +kernel⟩
theorem s_e_Reading_term : FnScope e_Reading_term.N e_Reading_term.ps e_Reading_term.d.scope := ⟨rfl, rfl, rfl, by decide +kernel, rfl, by decide +kernel, by decide +kernel⟩
theorem s_e_Reading_entries : FnScope e_Reading_entries.N e_Reading_entries.ps e_Reading_entries.d.scope := ⟨rfl, rfl, rfl, by decide +kernel, rfl, by decide +kernel, by decide +kernel⟩
theorem s_e_read_term : FnScope e_read_term.N e_read_term.ps e_read_term.d.scope := ⟨rfl, rfl, rfl, by decide +kernel, rfl, by decide +kernel, by decide +kernel⟩
theorem s_e__law_number : FnScope e__law_number.N e__law_number.ps e__law_number.d.scope := ⟨rfl, rfl, rfl, by decide +kernel, rfl, by decide +kernel, by decide +kernel⟩
theorem s_e__law_draws : FnScope e__law_draws.N e__law_draws.ps e__law_draws.d.scope := ⟨rfl, rfl, rfl, by decide +kernel, rfl, by decide +kernel, by decide +kernel⟩
theorem s_e__law_next : FnScope e__law_next.N e__law_next.ps e__law_next.d.scope := ⟨rfl, rfl, rfl, by decide +kernel, rfl, by decide +kernel, by decide +kernel⟩
theorem s_e__law_more : FnScope e__law_more.N e__law_more.ps e__law_more.d.scope := ⟨rfl, rfl, rfl, by decide +kernel, rfl, by decide +kernel, by decide +kernel⟩
theorem s_e__law_pick : FnScope e__law_pick.N e__law_pick.ps e__law_pick.d.scope := ⟨rfl, rfl, rfl, by decide +kernel, rfl, by decide +kernel, by decide +kernel⟩
theorem s_e__law_term : FnScope e__law_term.N e__law_term.ps e__law_term.d.scope := ⟨rfl, rfl, rfl, by decide +kernel, rfl, by decide +kernel, by decide +kernel⟩
theorem s_e__law_text : FnScope e__law_text.N e__law_text.ps e__law_text.d.scope := ⟨rfl, rfl, rfl, by decide +kernel, rfl, by decide +kernel, by decide +kernel⟩
theorem s_e__law_integer : FnScope e__law_integer.N e__law_integer.ps e__law_integer.d.scope := ⟨rfl, rfl, rfl, by decide +kernel, rfl, by decide +kernel, by decide +kernel⟩
theorem s_e__law_read : FnScope e__law_read.N e__law_read.ps e__law_read.d.scope := ⟨rfl, rfl, rfl, by decide +kernel, rfl, by decide +kernel, by decide +kernel⟩
theorem s_e__law_entries : FnScope e__law_entries.N e__law_entries.ps e__law_entries.d.scope := ⟨rfl, rfl, rfl, by decide +kernel, rfl, by decide +kernel, by decide +kernel⟩
theorem s_e__law_due : FnScope e__law_due.N e__law_due.ps e__law_due.d.scope := ⟨rfl, rfl, rfl, by decide +kernel, rfl, by decide +kernel, by decide +kernel⟩
theorem s_e__law_told : FnScope e__law_told.N e__law_told.ps e__law_told.d.scope := ⟨rfl, rfl, rfl, by decide +kernel, rfl, by decide +kernel, by decide +kernel⟩
theorem s_e__law_refused : FnScope e__law_refused.N e__law_refused.ps e__law_refused.d.scope := ⟨rfl, rfl, rfl, by decide +kernel, rfl, by decide +kernel, by decide +kernel⟩
theorem s_e_law : FnScope e_law.N e_law.ps e_law.d.scope := ⟨rfl, rfl, rfl, by decide +kernel, rfl, by decide +kernel, by decide +kernel⟩
theorem d_e_has_text {K : PySem.W.Frag} (h : ∃ fd, FunD K e_has_text.d.name e_has_text.d.qual e_has_text.d.params e_has_text.d.body e_has_text.d.scope (e_has_text.d.dvs K) (e_has_text.d.kws K) (He.fAd K e_has_text.d.at_) fd) : Def K e_has_text := by
  obtain ⟨fd, F⟩ := h
  exact ⟨fd, F, s_e_has_text, FunD.bindsN F fun _ _ _ _ _ _ us hl => match us, hl with | [_], _ => rfl⟩
theorem d_e_term_text {K : PySem.W.Frag} (h : ∃ fd, FunD K e_term_text.d.name e_term_text.d.qual e_term_text.d.params e_term_text.d.body e_term_text.d.scope (e_term_text.d.dvs K) (e_term_text.d.kws K) (He.fAd K e_term_text.d.at_) fd) : Def K e_term_text := by
  obtain ⟨fd, F⟩ := h
  exact ⟨fd, F, s_e_term_text, FunD.bindsN F fun _ _ _ _ _ _ us hl => match us, hl with | [_], _ => rfl⟩
theorem d_e_Reading_init {K : PySem.W.Frag} (h : ∃ fd, FunD K e_Reading_init.d.name e_Reading_init.d.qual e_Reading_init.d.params e_Reading_init.d.body e_Reading_init.d.scope (e_Reading_init.d.dvs K) (e_Reading_init.d.kws K) (He.fAd K e_Reading_init.d.at_) fd) : Def K e_Reading_init := by
  obtain ⟨fd, F⟩ := h
  exact ⟨fd, F, s_e_Reading_init, FunD.bindsN F fun _ _ _ _ _ _ us hl => match us, hl with | [_, _], _ => rfl⟩
theorem d_e_Reading_next_sign {K : PySem.W.Frag} (h : ∃ fd, FunD K e_Reading_next_sign.d.name e_Reading_next_sign.d.qual e_Reading_next_sign.d.params e_Reading_next_sign.d.body e_Reading_next_sign.d.scope (e_Reading_next_sign.d.dvs K) (e_Reading_next_sign.d.kws K) (He.fAd K e_Reading_next_sign.d.at_) fd) : Def K e_Reading_next_sign := by
  obtain ⟨fd, F⟩ := h
  exact ⟨fd, F, s_e_Reading_next_sign, FunD.bindsN F fun _ _ _ _ _ _ us hl => match us, hl with | [_], _ => rfl⟩
theorem d_e_Reading_is_at {K : PySem.W.Frag} (h : ∃ fd, FunD K e_Reading_is_at.d.name e_Reading_is_at.d.qual e_Reading_is_at.d.params e_Reading_is_at.d.body e_Reading_is_at.d.scope (e_Reading_is_at.d.dvs K) (e_Reading_is_at.d.kws K) (He.fAd K e_Reading_is_at.d.at_) fd) : Def K e_Reading_is_at := by
  obtain ⟨fd, F⟩ := h
  exact ⟨fd, F, s_e_Reading_is_at, FunD.bindsN F fun _ _ _ _ _ _ us hl => match us, hl with | [_, _], _ => rfl⟩
theorem d_e_Reading_take {K : PySem.W.Frag} (h : ∃ fd, FunD K e_Reading_take.d.name e_Reading_take.d.qual e_Reading_take.d.params e_Reading_take.d.body e_Reading_take.d.scope (e_Reading_take.d.dvs K) (e_Reading_take.d.kws K) (He.fAd K e_Reading_take.d.at_) fd) : Def K e_Reading_take := by
  obtain ⟨fd, F⟩ := h
  exact ⟨fd, F, s_e_Reading_take, FunD.bindsN F fun _ _ _ _ _ _ us hl => match us, hl with | [_, _], _ => rfl⟩
theorem d_e_Reading_integer {K : PySem.W.Frag} (h : ∃ fd, FunD K e_Reading_integer.d.name e_Reading_integer.d.qual e_Reading_integer.d.params e_Reading_integer.d.body e_Reading_integer.d.scope (e_Reading_integer.d.dvs K) (e_Reading_integer.d.kws K) (He.fAd K e_Reading_integer.d.at_) fd) : Def K e_Reading_integer := by
  obtain ⟨fd, F⟩ := h
  exact ⟨fd, F, s_e_Reading_integer, FunD.bindsN F fun _ _ _ _ _ _ us hl => match us, hl with | [_], _ => rfl⟩
theorem d_e_Reading_term {K : PySem.W.Frag} (h : ∃ fd, FunD K e_Reading_term.d.name e_Reading_term.d.qual e_Reading_term.d.params e_Reading_term.d.body e_Reading_term.d.scope (e_Reading_term.d.dvs K) (e_Reading_term.d.kws K) (He.fAd K e_Reading_term.d.at_) fd) : Def K e_Reading_term := by
  obtain ⟨fd, F⟩ := h
  exact ⟨fd, F, s_e_Reading_term, FunD.bindsN F fun _ _ _ _ _ _ us hl => match us, hl with | [_, _], _ => rfl⟩
theorem d_e_Reading_entries {K : PySem.W.Frag} (h : ∃ fd, FunD K e_Reading_entries.d.name e_Reading_entries.d.qual e_Reading_entries.d.params e_Reading_entries.d.body e_Reading_entries.d.scope (e_Reading_entries.d.dvs K) (e_Reading_entries.d.kws K) (He.fAd K e_Reading_entries.d.at_) fd) : Def K e_Reading_entries := by
  obtain ⟨fd, F⟩ := h
  exact ⟨fd, F, s_e_Reading_entries, FunD.bindsN F fun _ _ _ _ _ _ us hl => match us, hl with | [_, _], _ => rfl⟩
theorem d_e_read_term {K : PySem.W.Frag} (h : ∃ fd, FunD K e_read_term.d.name e_read_term.d.qual e_read_term.d.params e_read_term.d.body e_read_term.d.scope (e_read_term.d.dvs K) (e_read_term.d.kws K) (He.fAd K e_read_term.d.at_) fd) : Def K e_read_term := by
  obtain ⟨fd, F⟩ := h
  exact ⟨fd, F, s_e_read_term, FunD.bindsN F fun _ _ _ _ _ _ us hl => match us, hl with | [_], _ => rfl⟩
theorem d_e__law_number {K : PySem.W.Frag} (h : ∃ fd, FunD K e__law_number.d.name e__law_number.d.qual e__law_number.d.params e__law_number.d.body e__law_number.d.scope (e__law_number.d.dvs K) (e__law_number.d.kws K) (He.fAd K e__law_number.d.at_) fd) : Def K e__law_number := by
  obtain ⟨fd, F⟩ := h
  exact ⟨fd, F, s_e__law_number, FunD.bindsN F fun _ _ _ _ _ _ us hl => match us, hl with | [_], _ => rfl⟩
theorem d_e__law_draws {K : PySem.W.Frag} (h : ∃ fd, FunD K e__law_draws.d.name e__law_draws.d.qual e__law_draws.d.params e__law_draws.d.body e__law_draws.d.scope (e__law_draws.d.dvs K) (e__law_draws.d.kws K) (He.fAd K e__law_draws.d.at_) fd) : Def K e__law_draws := by
  obtain ⟨fd, F⟩ := h
  exact ⟨fd, F, s_e__law_draws, FunD.bindsN F fun _ _ _ _ _ _ us hl => match us, hl with | [_], _ => rfl⟩
theorem d_e__law_next {K : PySem.W.Frag} (h : ∃ fd, FunD K e__law_next.d.name e__law_next.d.qual e__law_next.d.params e__law_next.d.body e__law_next.d.scope (e__law_next.d.dvs K) (e__law_next.d.kws K) (He.fAd K e__law_next.d.at_) fd) : Def K e__law_next := by
  obtain ⟨fd, F⟩ := h
  exact ⟨fd, F, s_e__law_next, FunD.bindsN F fun _ _ _ _ _ _ us hl => match us, hl with | [_], _ => rfl⟩
theorem d_e__law_more {K : PySem.W.Frag} (h : ∃ fd, FunD K e__law_more.d.name e__law_more.d.qual e__law_more.d.params e__law_more.d.body e__law_more.d.scope (e__law_more.d.dvs K) (e__law_more.d.kws K) (He.fAd K e__law_more.d.at_) fd) : Def K e__law_more := by
  obtain ⟨fd, F⟩ := h
  exact ⟨fd, F, s_e__law_more, FunD.bindsN F fun _ _ _ _ _ _ us hl => match us, hl with | [_, _], _ => rfl⟩
theorem d_e__law_pick {K : PySem.W.Frag} (h : ∃ fd, FunD K e__law_pick.d.name e__law_pick.d.qual e__law_pick.d.params e__law_pick.d.body e__law_pick.d.scope (e__law_pick.d.dvs K) (e__law_pick.d.kws K) (He.fAd K e__law_pick.d.at_) fd) : Def K e__law_pick := by
  obtain ⟨fd, F⟩ := h
  exact ⟨fd, F, s_e__law_pick, FunD.bindsN F fun _ _ _ _ _ _ us hl => match us, hl with | [_, _], _ => rfl⟩
theorem d_e__law_term {K : PySem.W.Frag} (h : ∃ fd, FunD K e__law_term.d.name e__law_term.d.qual e__law_term.d.params e__law_term.d.body e__law_term.d.scope (e__law_term.d.dvs K) (e__law_term.d.kws K) (He.fAd K e__law_term.d.at_) fd) : Def K e__law_term := by
  obtain ⟨fd, F⟩ := h
  exact ⟨fd, F, s_e__law_term, FunD.bindsN F fun _ _ _ _ _ _ us hl => match us, hl with | [_, _], _ => rfl⟩
theorem d_e__law_text {K : PySem.W.Frag} (h : ∃ fd, FunD K e__law_text.d.name e__law_text.d.qual e__law_text.d.params e__law_text.d.body e__law_text.d.scope (e__law_text.d.dvs K) (e__law_text.d.kws K) (He.fAd K e__law_text.d.at_) fd) : Def K e__law_text := by
  obtain ⟨fd, F⟩ := h
  exact ⟨fd, F, s_e__law_text, FunD.bindsN F fun _ _ _ _ _ _ us hl => match us, hl with | [_], _ => rfl⟩
theorem d_e__law_integer {K : PySem.W.Frag} (h : ∃ fd, FunD K e__law_integer.d.name e__law_integer.d.qual e__law_integer.d.params e__law_integer.d.body e__law_integer.d.scope (e__law_integer.d.dvs K) (e__law_integer.d.kws K) (He.fAd K e__law_integer.d.at_) fd) : Def K e__law_integer := by
  obtain ⟨fd, F⟩ := h
  exact ⟨fd, F, s_e__law_integer, FunD.bindsN F fun _ _ _ _ _ _ us hl => match us, hl with | [_, _], _ => rfl⟩
theorem d_e__law_read {K : PySem.W.Frag} (h : ∃ fd, FunD K e__law_read.d.name e__law_read.d.qual e__law_read.d.params e__law_read.d.body e__law_read.d.scope (e__law_read.d.dvs K) (e__law_read.d.kws K) (He.fAd K e__law_read.d.at_) fd) : Def K e__law_read := by
  obtain ⟨fd, F⟩ := h
  exact ⟨fd, F, s_e__law_read, FunD.bindsN F fun _ _ _ _ _ _ us hl => match us, hl with | [_, _, _], _ => rfl⟩
theorem d_e__law_entries {K : PySem.W.Frag} (h : ∃ fd, FunD K e__law_entries.d.name e__law_entries.d.qual e__law_entries.d.params e__law_entries.d.body e__law_entries.d.scope (e__law_entries.d.dvs K) (e__law_entries.d.kws K) (He.fAd K e__law_entries.d.at_) fd) : Def K e__law_entries := by
  obtain ⟨fd, F⟩ := h
  exact ⟨fd, F, s_e__law_entries, FunD.bindsN F fun _ _ _ _ _ _ us hl => match us, hl with | [_, _, _], _ => rfl⟩
theorem d_e__law_due {K : PySem.W.Frag} (h : ∃ fd, FunD K e__law_due.d.name e__law_due.d.qual e__law_due.d.params e__law_due.d.body e__law_due.d.scope (e__law_due.d.dvs K) (e__law_due.d.kws K) (He.fAd K e__law_due.d.at_) fd) : Def K e__law_due := by
  obtain ⟨fd, F⟩ := h
  exact ⟨fd, F, s_e__law_due, FunD.bindsN F fun _ _ _ _ _ _ us hl => match us, hl with | [_], _ => rfl⟩
theorem d_e__law_told {K : PySem.W.Frag} (h : ∃ fd, FunD K e__law_told.d.name e__law_told.d.qual e__law_told.d.params e__law_told.d.body e__law_told.d.scope (e__law_told.d.dvs K) (e__law_told.d.kws K) (He.fAd K e__law_told.d.at_) fd) : Def K e__law_told := by
  obtain ⟨fd, F⟩ := h
  exact ⟨fd, F, s_e__law_told, FunD.bindsN F fun _ _ _ _ _ _ us hl => match us, hl with | [_], _ => rfl⟩
theorem d_e__law_refused {K : PySem.W.Frag} (h : ∃ fd, FunD K e__law_refused.d.name e__law_refused.d.qual e__law_refused.d.params e__law_refused.d.body e__law_refused.d.scope (e__law_refused.d.dvs K) (e__law_refused.d.kws K) (He.fAd K e__law_refused.d.at_) fd) : Def K e__law_refused := by
  obtain ⟨fd, F⟩ := h
  exact ⟨fd, F, s_e__law_refused, FunD.bindsN F fun _ _ _ _ _ _ us hl => match us, hl with | [_], _ => rfl⟩
theorem d_e_law {K : PySem.W.Frag} (h : ∃ fd, FunD K e_law.d.name e_law.d.qual e_law.d.params e_law.d.body e_law.d.scope (e_law.d.dvs K) (e_law.d.kws K) (He.fAd K e_law.d.at_) fd) : Def K e_law := by
  obtain ⟨fd, F⟩ := h
  exact ⟨fd, F, s_e_law, FunD.bindsN F fun _ _ _ _ _ _ us hl => match us, hl with | [_], _ => rfl⟩
theorem si_Malformed : FnScope ["self", "at"] ["self", "at"] i_Malformed.scope := ⟨rfl, rfl, rfl, by decide +kernel, rfl, by decide +kernel, by decide +kernel⟩
theorem di_Malformed {K : PySem.W.Frag} (h : ∃ fd, FunD K i_Malformed.name i_Malformed.qual i_Malformed.params i_Malformed.body i_Malformed.scope (i_Malformed.dvs K) (i_Malformed.kws K) (He.fAd K i_Malformed.at_) fd) : ∃ fd, FunD K i_Malformed.name i_Malformed.qual i_Malformed.params i_Malformed.body i_Malformed.scope [] [] (He.fAd K i_Malformed.at_) fd ∧ Binds K fd ["self", "at"] [] := by
  obtain ⟨fd, F⟩ := h
  exact ⟨fd, F, FunD.bindsN F fun _ _ _ _ _ _ us hl => match us, hl with | [_, _], _ => rfl⟩
theorem glo_law {K : PySem.W.Frag} (c : SaysM defs exs K) : (He.Fa.glo "law").ok K = true := by
  obtain ⟨_, m3⟩ := He.ba c.more
  exact (He.ba m3).1
abbrev hk : PySem.W.Hook := hookM 5 defs exs
def ob (s : PySem.W.SharedT) : AlM := obsM 5 defs exs (HandSHeadRun.getT s)
theorem ob_eq (s : PySem.W.SharedT) : ob s = hk.obs s.abs := obsM_eq (HandSHeadRun.getT_eq s)
theorem sta {P : Program} {w : World} {K : PySem.W.Frag} {mg : Str → Option Value} {h base : Heap} (X : K.In h) (G : h.Ns mainGlobals mg) (c : SaysM defs exs K) (nd : base.NoDigits) : Sta dat P w K mg base ∧ Def K e_law := by
  have cd := c.d
  obtain ⟨m1, m3⟩ := He.ba c.more
  obtain ⟨_, m2⟩ := He.ba m3
  have df : ∀ {d : He.DefD}, d ∈ defs → ∃ fd, FunD K d.name d.qual d.params d.body d.scope (d.dvs K) (d.kws K) (He.fAd K d.at_) fd := fun h => cd.defs h
  have h_e_has_text : Def K e_has_text := d_e_has_text (df (by unfold defs; simp only [List.mem_cons, true_or, or_true]))
  have h_e_term_text : Def K e_term_text := d_e_term_text (df (by unfold defs; simp only [List.mem_cons, true_or, or_true]))
  have h_e_Reading_init : Def K e_Reading_init := d_e_Reading_init (df (by unfold defs; simp only [List.mem_cons, true_or, or_true]))
  have h_e_Reading_next_sign : Def K e_Reading_next_sign := d_e_Reading_next_sign (df (by unfold defs; simp only [List.mem_cons, true_or, or_true]))
  have h_e_Reading_is_at : Def K e_Reading_is_at := d_e_Reading_is_at (df (by unfold defs; simp only [List.mem_cons, true_or, or_true]))
  have h_e_Reading_take : Def K e_Reading_take := d_e_Reading_take (df (by unfold defs; simp only [List.mem_cons, true_or, or_true]))
  have h_e_Reading_integer : Def K e_Reading_integer := d_e_Reading_integer (df (by unfold defs; simp only [List.mem_cons, true_or, or_true]))
  have h_e_Reading_term : Def K e_Reading_term := d_e_Reading_term (df (by unfold defs; simp only [List.mem_cons, true_or, or_true]))
  have h_e_Reading_entries : Def K e_Reading_entries := d_e_Reading_entries (df (by unfold defs; simp only [List.mem_cons, true_or, or_true]))
  have h_e_read_term : Def K e_read_term := d_e_read_term (df (by unfold defs; simp only [List.mem_cons, true_or, or_true]))
  have h_e__law_number : Def K e__law_number := d_e__law_number (df (by unfold defs; simp only [List.mem_cons, true_or, or_true]))
  have h_e__law_draws : Def K e__law_draws := d_e__law_draws (df (by unfold defs; simp only [List.mem_cons, true_or, or_true]))
  have h_e__law_next : Def K e__law_next := d_e__law_next (df (by unfold defs; simp only [List.mem_cons, true_or, or_true]))
  have h_e__law_more : Def K e__law_more := d_e__law_more (df (by unfold defs; simp only [List.mem_cons, true_or, or_true]))
  have h_e__law_pick : Def K e__law_pick := d_e__law_pick (df (by unfold defs; simp only [List.mem_cons, true_or, or_true]))
  have h_e__law_term : Def K e__law_term := d_e__law_term (df (by unfold defs; simp only [List.mem_cons, true_or, or_true]))
  have h_e__law_text : Def K e__law_text := d_e__law_text (df (by unfold defs; simp only [List.mem_cons, true_or, or_true]))
  have h_e__law_integer : Def K e__law_integer := d_e__law_integer (df (by unfold defs; simp only [List.mem_cons, true_or, or_true]))
  have h_e__law_read : Def K e__law_read := d_e__law_read (df (by unfold defs; simp only [List.mem_cons, true_or, or_true]))
  have h_e__law_entries : Def K e__law_entries := d_e__law_entries (df (by unfold defs; simp only [List.mem_cons, true_or, or_true]))
  have h_e__law_due : Def K e__law_due := d_e__law_due (df (by unfold defs; simp only [List.mem_cons, true_or, or_true]))
  have h_e__law_told : Def K e__law_told := d_e__law_told (df (by unfold defs; simp only [List.mem_cons, true_or, or_true]))
  have h_e__law_refused : Def K e__law_refused := d_e__law_refused (df (by unfold defs; simp only [List.mem_cons, true_or, or_true]))
  have h_e_law : Def K e_law := d_e_law (df (by unfold defs; simp only [List.mem_cons, true_or, or_true]))
  have hi_Malformed : exiB K "Malformed" "JudgeError" "at" = true := by
    have z := m2
    simp only [Bool.and_eq_true, Bool.and_true] at z
    first | exact z | exact z.1 | exact z.2 | exact z.1.1 | exact z.1.2
  refine ⟨sta_of X G m1 (fun e he => ?_) (fun x f hx => ?_) nd, h_e_law⟩
  · simp only [PrgD.ents, dat, datF, List.map_cons, List.map_nil, List.cons_append, List.nil_append, List.mem_cons, List.mem_nil_iff, or_false] at he
    rcases he with rfl | rfl | rfl | rfl | rfl | rfl | rfl | rfl | rfl | rfl | rfl | rfl | rfl | rfl | rfl | rfl | rfl | rfl | rfl | rfl | rfl | rfl | rfl
    · exact h_e_has_text
    · exact h_e_term_text
    · exact h_e_read_term
    · exact h_e__law_number
    · exact h_e__law_draws
    · exact h_e__law_next
    · exact h_e__law_more
    · exact h_e__law_pick
    · exact h_e__law_term
    · exact h_e__law_text
    · exact h_e__law_integer
    · exact h_e__law_read
    · exact h_e__law_entries
    · exact h_e__law_due
    · exact h_e__law_told
    · exact h_e__law_refused
    · exact h_e_Reading_next_sign
    · exact h_e_Reading_is_at
    · exact h_e_Reading_take
    · exact h_e_Reading_integer
    · exact h_e_Reading_term
    · exact h_e_Reading_entries
    · exact h_e_Reading_init
  · have hx2 := MX.mem_of_lookup hx
    simp only [dat, datF, List.mem_cons, List.mem_nil_iff, or_false, Prod.mk.injEq] at hx2
    obtain ⟨rfl, rfl⟩ := hx2
    · exact exI_of (msg := "the text cannot be read") X G hi_Malformed (di_Malformed (df (by unfold defs; simp only [List.mem_cons, true_or, or_true]))) rfl rfl si_Malformed (by decide +kernel) (by decide +kernel) (by decide +kernel)
end Mine
end
section
set_option Elab.async false
set_option linter.all false
set_option maxRecDepth 100000
set_option maxHeartbeats 0
namespace Mine
open PySem PySem.Spec L2 MX
def names : List PySem.Str := ["JudgeError", "BadNumber", "Malformed", "SMALL", "FIGURES", "MOST_FIGURES", "MOST_TEXT", "MOST_BITS", "MOST_OPEN", "NOBODY", "NOTHING", "has_text", "term_text", "Reading", "read_term", "_law_number", "_law_draws", "_law_next", "_law_more", "_law_pick", "_law_term", "_law_text", "_law_integer", "_law_read", "_law_entries", "_law_due", "_law_told", "_law_refused"]
theorem run (w : World) : HandSHeadRun.RunEq R (PySem.W.view R.prog [31]) hk ob 2000 names w := by
  intro os
  kernel_rfl
end Mine
end
section
set_option Elab.async false
set_option linter.all false
set_option maxRecDepth 100000
set_option maxHeartbeats 0
namespace Mine
open PySem PySem.Spec PyProof.Rows L2 MX
def FD : Fd := ⟨fun C g => (datF 0).flds.contains (C, g)⟩
def XFD : Str → Str → Bool := fun C g => (datF 0).xfs.contains (C, g)
def CTD : Cat := fun x y => (datF 0).cats.lookup (x, y)
def MTD (n k : Nat) : MT := fun C m => ((datF 0).mets.lookup (C, m)).map fun e => (e.ps.length, fnK (datF n) k e)
def c_has_text (n k : Nat) : MS :=
  (mSeq (mIfS (mNot (mTru (m2 fShr (mApp fAbs (mCons (mVar 0) mNil)) (mK (.int (13287)))))) (mSeq (mRet (mK (.bl true))) mNext) mNext) (mSeq (mAsg (mK (.int (1))) (gSet 1)) (mSeq (mFor n (rng1 (mCons (mK (.int (4000))) mNil)) (gSet 2) (mSeq (mAug 1 (fInt mulOk fun i j => .int (i * j)) (mK (.int (10)))) mNext)) (mSeq (mRet (m2 fLt (mApp fAbs (mCons (mVar 0) mNil)) (mVar 1))) mNext))))
theorem b_has_text (n k : Nat) : fnK (datF n) (k + 3) e_has_text = runBody 3 (c_has_text n k) := by kernel_rfl
def c_term_text (n k : Nat) : MS :=
  (mSeq (mIfS (mTest (mIsN (mVar 0))) (mSeq (mRet (mK (.str [110, 111, 110, 101]))) mNext) mNext) (mSeq (mIfS (mTru (mApp fIsi (mCons (mVar 0) (mCons (mK (.ty "int")) mNil)))) (mSeq (mIfS (mNot (mTru (mCall 1 (fnK (datF n) (k + 2) e_has_text) (mCons (mVar 0) mNil)))) (mSeq (mRaise (mMkT "BadNumber")) mNext) mNext) (mSeq (mRet (mApp fStrC (mCons (mVar 0) mNil))) mNext)) mNext) (mSeq (mIfS (mTru (mApp fIsi (mCons (mVar 0) (mCons (mK (.ty "str")) mNil)))) (mSeq (mIfS (mOr (mTest (m2 fEq (mVar 0) (mK (.str [110, 111, 110, 101])))) (mNot (mTru (mApp fAll (mCons (mLc n (mWalk (mVar 0)) (gSet 1) mYes (m2 fIn (mVar 1) (mK (.str [97, 98, 99, 100, 101, 102, 103, 104, 105, 106, 107, 108, 109, 110, 111, 112, 113, 114, 115, 116, 117, 118, 119, 120, 121, 122]))) [1]) mNil))))) (mSeq (mRaise (mMkT "BadNumber")) mNext) mNext) (mSeq (mRet (mOrV (mVar 0) (mK (.str [46])))) mNext)) mNext) (mSeq (mRet (m2 fPlus (m2 fPlus (mK (.str [40])) (mBM isStrM fJoin (mK (.str [32])) (mCons (mLc n (mWalk (mVar 0)) (gSet 2) mYes (mCall 1 (fnK (datF n) (k + 2) e_term_text) (mCons (mVar 2) mNil)) [2]) mNil))) (mK (.str [41])))) mNext))))
theorem b_term_text (n k : Nat) : fnK (datF n) (k + 3) e_term_text = runBody 3 (c_term_text n k) := by kernel_rfl
def c_Reading_init (n k : Nat) : MS :=
  (mSeq (mFldSet FD "text" (mVar 0) (mVar 1)) (mSeq (mFldSet FD "at" (mVar 0) (mK (.int (0)))) mNext))
theorem b_Reading_init (n k : Nat) : fnK (datF n) (k + 3) e_Reading_init = runBody 2 (c_Reading_init n k) := by kernel_rfl
def c_Reading_next_sign (n k : Nat) : MS :=
  (mSeq (mRet (mSl (mFld FD "text" (mVar 0)) (mPart (mFld FD "at" (mVar 0))) (mPart (m2 fPlus (mFld FD "at" (mVar 0)) (mK (.int (1))))))) mNext)
theorem b_Reading_next_sign (n k : Nat) : fnK (datF n) (k + 3) e_Reading_next_sign = runBody 1 (c_Reading_next_sign n k) := by kernel_rfl
def c_Reading_is_at (n k : Nat) : MS :=
  (mSeq (mRet (mAndV (m2 fNe (mMethI (MTD n (k + 2)) "next_sign" (mVar 0) mNil) (mK (.str []))) (m2 fIn (mMethI (MTD n (k + 2)) "next_sign" (mVar 0) mNil) (mVar 1)))) mNext)
theorem b_Reading_is_at (n k : Nat) : fnK (datF n) (k + 3) e_Reading_is_at = runBody 2 (c_Reading_is_at n k) := by kernel_rfl
def c_Reading_take (n k : Nat) : MS :=
  (mSeq (mAsg (mFld FD "at" (mVar 0)) (gSet 2)) (mSeq (whileGo (mTru (mMethI (MTD n (k + 2)) "is_at" (mVar 0) (mCons (mVar 1) mNil))) (mSeq (mFldAug FD "at" (fInt (fun _ _ => true) fun i j => .int (i + j)) (mVar 0) (mK (.int (1)))) mNext) n) (mSeq (mRet (mSl (mFld FD "text" (mVar 0)) (mPart (mVar 2)) (mPart (mFld FD "at" (mVar 0))))) mNext)))
theorem b_Reading_take (n k : Nat) : fnK (datF n) (k + 3) e_Reading_take = runBody 3 (c_Reading_take n k) := by kernel_rfl
def c_Reading_integer (n k : Nat) : MS :=
  (mSeq (mAsg (mMethI (MTD n (k + 2)) "is_at" (mVar 0) (mCons (mK (.str [45])) mNil)) (gSet 1)) (mSeq (mIfS (mTru (mVar 1)) (mSeq (mFldAug FD "at" (fInt (fun _ _ => true) fun i j => .int (i + j)) (mVar 0) (mK (.int (1)))) mNext) mNext) (mSeq (mAsg (mFld FD "at" (mVar 0)) (gSet 2)) (mSeq (mIfS (mOr (mNot (mTru (mMethI (MTD n (k + 2)) "is_at" (mVar 0) (mCons (mK (.str [48, 49, 50, 51, 52, 53, 54, 55, 56, 57])) mNil)))) (mAnd (mTru (mVar 1)) (mTru (mMethI (MTD n (k + 2)) "is_at" (mVar 0) (mCons (mK (.str [48])) mNil))))) (mSeq (mRaise (mMkI "Malformed" "at" (mCons (mFld FD "at" (mVar 0)) mNil))) mNext) mNext) (mSeq (mAsg (mMethI (MTD n (k + 2)) "is_at" (mVar 0) (mCons (mK (.str [48])) mNil)) (gSet 3)) (mSeq (mAsg (mMethI (MTD n (k + 2)) "take" (mVar 0) (mCons (mK (.str [48, 49, 50, 51, 52, 53, 54, 55, 56, 57])) mNil)) (gSet 4)) (mSeq (mIfS (mAnd (mTru (mVar 3)) (mTest (m2 fGt (mApp fLen (mCons (mVar 4) mNil)) (mK (.int (1)))))) (mSeq (mRaise (mMkI "Malformed" "at" (mCons (m2 fPlus (mVar 2) (mK (.int (1)))) mNil))) mNext) mNext) (mSeq (mIfS (mTest (m2 fGt (mApp fLen (mCons (mVar 4) mNil)) (mK (.int (20))))) (mSeq (mRaise (mMkI "Malformed" "at" (mCons (m2 fPlus (mVar 2) (mK (.int (20)))) mNil))) mNext) mNext) (mSeq (mRet (mIf (mTru (mVar 1)) (m1 fNeg (mApp fIntC (mCons (mVar 4) mNil))) (mApp fIntC (mCons (mVar 4) mNil)))) mNext)))))))))
theorem b_Reading_integer (n k : Nat) : fnK (datF n) (k + 3) e_Reading_integer = runBody 5 (c_Reading_integer n k) := by kernel_rfl
def c_Reading_term (n k : Nat) : MS :=
  (mSeq (mIfS (mTru (mMethI (MTD n (k + 2)) "is_at" (mVar 0) (mCons (mK (.str [40])) mNil))) (mSeq (mIfS (mTest (m2 fEq (mVar 1) (mK (.int (60))))) (mSeq (mRaise (mMkI "Malformed" "at" (mCons (mFld FD "at" (mVar 0)) mNil))) mNext) mNext) (mSeq (mRet (mMethI (MTD n (k + 2)) "entries" (mVar 0) (mCons (m2 fPlus (mVar 1) (mK (.int (1)))) mNil))) mNext)) mNext) (mSeq (mIfS (mTru (mMethI (MTD n (k + 2)) "is_at" (mVar 0) (mCons (mK (.str [46])) mNil))) (mSeq (mFldAug FD "at" (fInt (fun _ _ => true) fun i j => .int (i + j)) (mVar 0) (mK (.int (1)))) (mSeq (mRet (mK (.str []))) mNext)) mNext) (mSeq (mIfS (mTru (mMethI (MTD n (k + 2)) "is_at" (mVar 0) (mCons (mK (.str [97, 98, 99, 100, 101, 102, 103, 104, 105, 106, 107, 108, 109, 110, 111, 112, 113, 114, 115, 116, 117, 118, 119, 120, 121, 122])) mNil))) (mSeq (mAsg (mMethI (MTD n (k + 2)) "take" (mVar 0) (mCons (mK (.str [97, 98, 99, 100, 101, 102, 103, 104, 105, 106, 107, 108, 109, 110, 111, 112, 113, 114, 115, 116, 117, 118, 119, 120, 121, 122])) mNil)) (gSet 2)) (mSeq (mRet (mIf (mTest (m2 fEq (mVar 2) (mK (.str [110, 111, 110, 101])))) (mK .non) (mVar 2))) mNext)) mNext) (mSeq (mRet (mMethI (MTD n (k + 2)) "integer" (mVar 0) mNil)) mNext))))
theorem b_Reading_term (n k : Nat) : fnK (datF n) (k + 3) e_Reading_term = runBody 3 (c_Reading_term n k) := by kernel_rfl
def c_Reading_entries (n k : Nat) : MS :=
  (mSeq (mFldAug FD "at" (fInt (fun _ _ => true) fun i j => .int (i + j)) (mVar 0) (mK (.int (1)))) (mSeq (mAsg (mApp mkLst mNil) (gSet 2)) (mSeq (whileGo (mNot (mTru (mMethI (MTD n (k + 2)) "is_at" (mVar 0) (mCons (mK (.str [41])) mNil)))) (mSeq (mIfS (mTru (mVar 2)) (mSeq (mIfS (mNot (mTru (mMethI (MTD n (k + 2)) "is_at" (mVar 0) (mCons (mK (.str [32])) mNil)))) (mSeq (mRaise (mMkI "Malformed" "at" (mCons (mFld FD "at" (mVar 0)) mNil))) mNext) mNext) (mSeq (mFldAug FD "at" (fInt (fun _ _ => true) fun i j => .int (i + j)) (mVar 0) (mK (.int (1)))) mNext)) mNext) (mSeq (mDrop (mBM isLstM fApp (mVar 2) (mCons (mMethI (MTD n (k + 2)) "term" (mVar 0) (mCons (mVar 1) mNil)) mNil))) mNext)) n) (mSeq (mFldAug FD "at" (fInt (fun _ _ => true) fun i j => .int (i + j)) (mVar 0) (mK (.int (1)))) (mSeq (mRet (mApp fTupC (mCons (mVar 2) mNil))) mNext)))))
theorem b_Reading_entries (n k : Nat) : fnK (datF n) (k + 3) e_Reading_entries = runBody 3 (c_Reading_entries n k) := by kernel_rfl
def c_read_term (n k : Nat) : MS :=
  (mSeq (mAsg (mMake "Reading" 2 (fnK (datF n) (k + 1) e_Reading_init) (mCons (mVar 0) mNil)) (gSet 1)) (mSeq (mAsg (mMethI (MTD n (k + 2)) "term" (mVar 1) (mCons (mK (.int (0))) mNil)) (gSet 2)) (mSeq (mIfS (mTest (m2 fLt (mFld FD "at" (mVar 1)) (mApp fLen (mCons (mVar 0) mNil)))) (mSeq (mRaise (mMkI "Malformed" "at" (mCons (mFld FD "at" (mVar 1)) mNil))) mNext) mNext) (mSeq (mRet (mVar 2)) mNext))))
theorem b_read_term (n k : Nat) : fnK (datF n) (k + 3) e_read_term = runBody 3 (c_read_term n k) := by kernel_rfl
def c__law_number (n k : Nat) : MS :=
  (mSeq (mIfS (mTest (m2 fLt (mVar 0) (mK (.int (0))))) (mSeq (mRet (m2 fMinus (mK (.int (0))) (mVar 0))) mNext) mNext) (mSeq (mRet (mVar 0)) mNext))
theorem b__law_number (n k : Nat) : fnK (datF n) (k + 3) e__law_number = runBody 1 (c__law_number n k) := by kernel_rfl
def c__law_draws (n k : Nat) : MS :=
  (mSeq (mAsg (mApp mkLst mNil) (gSet 1)) (mSeq (mFor n (mWalk (mVar 0)) (gSet 2) (mSeq (mAsg (mCall 1 (fnK (datF n) (k + 2) e__law_number) (mCons (mVar 2) mNil)) (gSet 3)) (mSeq (mIfS (mTest (m2 fGe (mVar 3) (mK (.int (1000000000000000000))))) (mSeq (mFor n (rng1 (mCons (mK (.int (60))) mNil)) (gSet 4) (mSeq (mIfS (mTest (m2 fEq (mVar 3) (mK (.int (0))))) (mSeq mBreak mNext) mNext) (mSeq (mDrop (mBM isLstM fApp (mVar 1) (mCons (m2 fMod (mApp fIntC (mCons (mVar 3) mNil)) (mK (.int (1000)))) mNil))) (mSeq (mAsg (m2 fFdiv (mVar 3) (mK (.int (1000)))) (gSet 3)) mNext)))) mNext) (mSeq (mAsg (m2 fMod (mApp fIntC (mCons (m2 fPlus (m2 fTimes (mVar 3) (mK (.int (48271)))) (mK (.int (11)))) mNil)) (mK (.int (2147483647)))) (gSet 5)) (mSeq (mAsg (m2 fMod (mApp fIntC (mCons (m2 fPlus (m2 fTimes (mVar 5) (mK (.int (69621)))) (mVar 3)) mNil)) (mK (.int (2147483629)))) (gSet 6)) (mSeq (mDrop (mBM isLstM fExt (mVar 1) (mCons (mApp mkLst (mCons (m2 fMod (mApp fIntC (mCons (mVar 3) mNil)) (mK (.int (1000)))) (mCons (m2 fMod (mApp fIntC (mCons (mVar 5) mNil)) (mK (.int (1000)))) (mCons (m2 fMod (mApp fIntC (mCons (mVar 6) mNil)) (mK (.int (1000)))) mNil)))) mNil))) mNext)))) mNext))) (mSeq (mDrop (mBM isLstM fRev (mVar 1) mNil)) (mSeq (mRet (mVar 1)) mNext))))
theorem b__law_draws (n k : Nat) : fnK (datF n) (k + 3) e__law_draws = runBody 7 (c__law_draws n k) := by kernel_rfl
def c__law_next (n k : Nat) : MS :=
  (mSeq (mIfS (mTru (mVar 0)) (mSeq (mRet (mBM isLstM fPop (mVar 0) mNil)) mNext) mNext) (mSeq (mRet (mK (.int (0)))) mNext))
theorem b__law_next (n k : Nat) : fnK (datF n) (k + 3) e__law_next = runBody 1 (c__law_next n k) := by kernel_rfl
def c__law_more (n k : Nat) : MS :=
  (mSeq (mAsg (m2 fPlus (m2 fPlus (m2 fTimes (mK (.int (1000))) (mCall 1 (fnK (datF n) (k + 2) e__law_next) (mCons (mVar 0) mNil))) (mCall 1 (fnK (datF n) (k + 2) e__law_next) (mCons (mVar 0) mNil))) (mK (.int (1)))) (gSet 2)) (mSeq (mAsg (mApp mkLst mNil) (gSet 3)) (mSeq (mFor n (rng1 (mCons (mVar 1) mNil)) (gSet 4) (mSeq (mAsg (m2 fMod (mApp fIntC (mCons (m2 fPlus (m2 fTimes (mVar 2) (mK (.int (48271)))) (mK (.int (12345)))) mNil)) (mK (.int (2147483647)))) (gSet 2)) (mSeq (mDrop (mBM isLstM fApp (mVar 3) (mCons (m2 fMod (mApp fIntC (mCons (m2 fFdiv (mVar 2) (mK (.int (7)))) mNil)) (mK (.int (1000)))) mNil))) mNext))) (mSeq (mRet (m2 fPlus (mVar 3) (mVar 0))) mNext))))
theorem b__law_more (n k : Nat) : fnK (datF n) (k + 3) e__law_more = runBody 5 (c__law_more n k) := by kernel_rfl
def c__law_pick (n k : Nat) : MS :=
  (mSeq (mRet (m2 fIx (mVar 1) (m2 fMod (mApp fIntC (mCons (mCall 1 (fnK (datF n) (k + 2) e__law_next) (mCons (mVar 0) mNil)) mNil)) (mApp fLen (mCons (mVar 1) mNil))))) mNext)
theorem b__law_pick (n k : Nat) : fnK (datF n) (k + 3) e__law_pick = runBody 2 (c__law_pick n k) := by kernel_rfl
def c__law_term (n k : Nat) : MS :=
  (mSeq (mAsg (m2 fMod (mApp fIntC (mCons (mCall 1 (fnK (datF n) (k + 2) e__law_next) (mCons (mVar 0) mNil)) mNil)) (mIf (mTest (m2 fLt (mVar 1) (mK (.int (4))))) (mK (.int (8))) (mK (.int (5))))) (gSet 2)) (mSeq (mIfS (mTest (m2 fEq (mVar 2) (mK (.int (0))))) (mSeq (mAsg (mBM isStrM fJoin (mK (.str [])) (mCons (mLc n (rng1 (mCons (m2 fMod (mApp fIntC (mCons (mCall 1 (fnK (datF n) (k + 2) e__law_next) (mCons (mVar 0) mNil)) mNil)) (mK (.int (6)))) mNil)) (gSet 4) mYes (m2 fIx (mK (.str [97, 98, 99, 110, 111, 122, 101])) (m2 fMod (mApp fIntC (mCons (mCall 1 (fnK (datF n) (k + 2) e__law_next) (mCons (mVar 0) mNil)) mNil)) (mK (.int (7))))) [4]) mNil)) (gSet 3)) (mSeq (mRet (mIf (mTest (m2 fEq (mVar 3) (mK (.str [110, 111, 110, 101])))) (mK (.str [122, 111, 110, 101])) (mVar 3))) mNext)) mNext) (mSeq (mIfS (mTest (m2 fEq (mVar 2) (mK (.int (1))))) (mSeq (mRet (mCall 2 (fnK (datF n) (k + 2) e__law_pick) (mCons (mVar 0) (mCons (mApp mkLst (mCons (mK .non) (mCons (mK (.int (0))) (mCons (m1 fNeg (mK (.int (1)))) (mCons (m2 fPow (mK (.int (10))) (mK (.int (19)))) (mCons (m2 fPlus (m2 fMinus (mK (.int (0))) (m2 fPow (mK (.int (10))) (mK (.int (20))))) (mK (.int (1)))) mNil)))))) mNil)))) mNext) mNext) (mSeq (mIfS (mTest (m2 fLt (mVar 2) (mK (.int (5))))) (mSeq (mRet (m2 fMinus (mApp fIntC (mCons (mCall 1 (fnK (datF n) (k + 2) e__law_next) (mCons (mVar 0) mNil)) mNil)) (m2 fTimes (mK (.int (100))) (m2 fMod (mApp fIntC (mCons (mCall 1 (fnK (datF n) (k + 2) e__law_next) (mCons (mVar 0) mNil)) mNil)) (mK (.int (7))))))) mNext) mNext) (mSeq (mRet (mApp fTupC (mCons (mLc n (rng1 (mCons (m2 fMod (mApp fIntC (mCons (mCall 1 (fnK (datF n) (k + 2) e__law_next) (mCons (mVar 0) mNil)) mNil)) (mK (.int (4)))) mNil)) (gSet 4) mYes (mCall 2 (fnK (datF n) (k + 2) e__law_term) (mCons (mVar 0) (mCons (m2 fPlus (mVar 1) (mK (.int (1)))) mNil))) [4]) mNil))) mNext)))))
theorem b__law_term (n k : Nat) : fnK (datF n) (k + 3) e__law_term = runBody 5 (c__law_term n k) := by kernel_rfl
def c__law_text (n k : Nat) : MS :=
  (mSeq (mIfS (mTest (mIsN (mVar 0))) (mSeq (mRet (mK (.str [110, 111, 110, 101]))) mNext) mNext) (mSeq (mIfS (mTru (mApp fIsi (mCons (mVar 0) (mCons (mK (.ty "int")) mNil)))) (mSeq (mRet (mApp fStrC (mCons (mVar 0) mNil))) mNext) mNext) (mSeq (mIfS (mTru (mApp fIsi (mCons (mVar 0) (mCons (mK (.ty "str")) mNil)))) (mSeq (mRet (mIf (mTest (m2 fNe (mVar 0) (mK (.str [])))) (mVar 0) (mK (.str [46])))) mNext) mNext) (mSeq (mRet (m2 fPlus (m2 fPlus (mK (.str [40])) (mBM isStrM fJoin (mK (.str [32])) (mCons (mLc n (mWalk (mVar 0)) (gSet 1) mYes (mCall 1 (fnK (datF n) (k + 2) e__law_text) (mCons (mVar 1) mNil)) [1]) mNil))) (mK (.str [41])))) mNext))))
theorem b__law_text (n k : Nat) : fnK (datF n) (k + 3) e__law_text = runBody 2 (c__law_text n k) := by kernel_rfl
def c__law_integer (n k : Nat) : MS :=
  (mSeq (mAsg (mVar 1) (gSet 2)) (mSeq (mIfS (mTest (m2 fEq (mSl (mVar 0) (mPart (mVar 1)) (mPart (m2 fPlus (mVar 1) (mK (.int (1)))))) (mK (.str [45])))) (mSeq (mAsg (m2 fPlus (mVar 1) (mK (.int (1)))) (gSet 1)) (mSeq (mIfS (mTest (m2 fEq (mSl (mVar 0) (mPart (mVar 1)) (mPart (m2 fPlus (mVar 1) (mK (.int (1)))))) (mK (.str [48])))) (mSeq (mRet (mApp mkLst (mCons (mK (.str [98, 97, 100])) (mCons (mVar 1) mNil)))) mNext) mNext) mNext)) mNext) (mSeq (mAsg (mVar 1) (gSet 3)) (mSeq (mFor n (rng1 (mCons (mApp fLen (mCons (mVar 0) mNil)) mNil)) (gSet 4) (mSeq (mIfS (mAnd (mTest (m2 fLt (mVar 1) (mApp fLen (mCons (mVar 0) mNil)))) (mTest (m2 fIn (m2 fIx (mVar 0) (mVar 1)) (mK (.str [48, 49, 50, 51, 52, 53, 54, 55, 56, 57]))))) (mSeq (mAsg (m2 fPlus (mVar 1) (mK (.int (1)))) (gSet 1)) mNext) mNext) mNext)) (mSeq (mIfS (mTest (m2 fEq (mVar 1) (mVar 3))) (mSeq (mRet (mApp mkLst (mCons (mK (.str [98, 97, 100])) (mCons (mVar 1) mNil)))) mNext) mNext) (mSeq (mIfS (mAnd (mTest (m2 fEq (m2 fIx (mVar 0) (mVar 3)) (mK (.str [48])))) (mTest (m2 fGt (mVar 1) (m2 fPlus (mVar 3) (mK (.int (1))))))) (mSeq (mRet (mApp mkLst (mCons (mK (.str [98, 97, 100])) (mCons (m2 fPlus (mVar 3) (mK (.int (1)))) mNil)))) mNext) mNext) (mSeq (mIfS (mTest (m2 fGt (m2 fMinus (mVar 1) (mVar 3)) (mK (.int (20))))) (mSeq (mRet (mApp mkLst (mCons (mK (.str [98, 97, 100])) (mCons (m2 fPlus (mVar 3) (mK (.int (20)))) mNil)))) mNext) mNext) (mSeq (mRet (mApp mkLst (mCons (mApp fIntC (mCons (mSl (mVar 0) (mPart (mVar 2)) (mPart (mVar 1))) mNil)) (mCons (mVar 1) mNil)))) mNext))))))))
theorem b__law_integer (n k : Nat) : fnK (datF n) (k + 3) e__law_integer = runBody 5 (c__law_integer n k) := by kernel_rfl
def c__law_read (n k : Nat) : MS :=
  (mSeq (mAsg (mSl (mVar 0) (mPart (mVar 1)) (mPart (m2 fPlus (mVar 1) (mK (.int (1)))))) (gSet 3)) (mSeq (mIfS (mTest (m2 fEq (mVar 3) (mK (.str [40])))) (mSeq (mIfS (mTest (m2 fEq (mVar 2) (mK (.int (60))))) (mSeq (mRet (mApp mkLst (mCons (mK (.str [98, 97, 100])) (mCons (mVar 1) mNil)))) mNext) mNext) (mSeq (mRet (mCall 3 (fnK (datF n) (k + 2) e__law_entries) (mCons (mVar 0) (mCons (m2 fPlus (mVar 1) (mK (.int (1)))) (mCons (m2 fPlus (mVar 2) (mK (.int (1)))) mNil))))) mNext)) mNext) (mSeq (mIfS (mTest (m2 fEq (mVar 3) (mK (.str [46])))) (mSeq (mRet (mApp mkLst (mCons (mK (.str [])) (mCons (m2 fPlus (mVar 1) (mK (.int (1)))) mNil)))) mNext) mNext) (mSeq (mIfS (mAnd (mTest (m2 fNe (mVar 3) (mK (.str [])))) (mTest (m2 fIn (mVar 3) (mK (.str [97, 98, 99, 100, 101, 102, 103, 104, 105, 106, 107, 108, 109, 110, 111, 112, 113, 114, 115, 116, 117, 118, 119, 120, 121, 122]))))) (mSeq (mAsg (mVar 1) (gSet 4)) (mSeq (mFor n (rng1 (mCons (mApp fLen (mCons (mVar 0) mNil)) mNil)) (gSet 5) (mSeq (mIfS (mAnd (mTest (m2 fLt (mVar 4) (mApp fLen (mCons (mVar 0) mNil)))) (mTest (m2 fIn (m2 fIx (mVar 0) (mVar 4)) (mK (.str [97, 98, 99, 100, 101, 102, 103, 104, 105, 106, 107, 108, 109, 110, 111, 112, 113, 114, 115, 116, 117, 118, 119, 120, 121, 122]))))) (mSeq (mAsg (m2 fPlus (mVar 4) (mK (.int (1)))) (gSet 4)) mNext) mNext) mNext)) (mSeq (mRet (mApp mkLst (mCons (mIf (mTest (m2 fEq (mSl (mVar 0) (mPart (mVar 1)) (mPart (mVar 4))) (mK (.str [110, 111, 110, 101])))) (mK .non) (mSl (mVar 0) (mPart (mVar 1)) (mPart (mVar 4)))) (mCons (mVar 4) mNil)))) mNext))) mNext) (mSeq (mRet (mCall 2 (fnK (datF n) (k + 2) e__law_integer) (mCons (mVar 0) (mCons (mVar 1) mNil)))) mNext)))))
theorem b__law_read (n k : Nat) : fnK (datF n) (k + 3) e__law_read = runBody 6 (c__law_read n k) := by kernel_rfl
def c__law_entries (n k : Nat) : MS :=
  (mSeq (mAsg (mApp mkLst mNil) (gSet 3)) (mSeq (mFor n (rng1 (mCons (m2 fPlus (mApp fLen (mCons (mVar 0) mNil)) (mK (.int (1)))) mNil)) (gSet 4) (mSeq (mIfS (mTest (m2 fEq (mSl (mVar 0) (mPart (mVar 1)) (mPart (m2 fPlus (mVar 1) (mK (.int (1)))))) (mK (.str [41])))) (mSeq (mRet (mApp mkLst (mCons (mApp fTupC (mCons (mVar 3) mNil)) (mCons (m2 fPlus (mVar 1) (mK (.int (1)))) mNil)))) mNext) mNext) (mSeq (mIfS (mTru (mVar 3)) (mSeq (mIfS (mTest (m2 fNe (mSl (mVar 0) (mPart (mVar 1)) (mPart (m2 fPlus (mVar 1) (mK (.int (1)))))) (mK (.str [32])))) (mSeq (mRet (mApp mkLst (mCons (mK (.str [98, 97, 100])) (mCons (mVar 1) mNil)))) mNext) mNext) (mSeq (mAsg (m2 fPlus (mVar 1) (mK (.int (1)))) (gSet 1)) mNext)) mNext) (mSeq (mAsg (mCall 3 (fnK (datF n) (k + 2) e__law_read) (mCons (mVar 0) (mCons (mVar 1) (mCons (mVar 2) mNil)))) (gUnp [(gSet 5), (gSet 6)])) (mSeq (mIfS (mAnd (mTest (m2 fEq (mVar 5) (mK (.str [98, 97, 100])))) (mTru (mApp fIsi (mCons (mVar 5) (mCons (mK (.ty "str")) mNil))))) (mSeq (mRet (mApp mkLst (mCons (mVar 5) (mCons (mVar 6) mNil)))) mNext) mNext) (mSeq (mDrop (mBM isLstM fApp (mVar 3) (mCons (mVar 5) mNil))) (mSeq (mAsg (mVar 6) (gSet 1)) mNext))))))) (mSeq (mRet (mApp mkLst (mCons (mK (.str [98, 97, 100])) (mCons (mVar 1) mNil)))) mNext)))
theorem b__law_entries (n k : Nat) : fnK (datF n) (k + 3) e__law_entries = runBody 7 (c__law_entries n k) := by kernel_rfl
def c__law_due (n k : Nat) : MS :=
  (mSeq (mAsg (mCall 3 (fnK (datF n) (k + 2) e__law_read) (mCons (mVar 0) (mCons (mK (.int (0))) (mCons (mK (.int (0))) mNil)))) (gUnp [(gSet 1), (gSet 2)])) (mSeq (mIfS (mAnd (mTru (mApp fIsi (mCons (mVar 1) (mCons (mK (.ty "str")) mNil)))) (mTest (m2 fEq (mVar 1) (mK (.str [98, 97, 100]))))) (mSeq (mRet (mApp mkLst (mCons (mK (.str [98, 97, 100])) (mCons (mVar 2) mNil)))) mNext) mNext) (mSeq (mRet (mIf (mTest (m2 fLt (mVar 2) (mApp fLen (mCons (mVar 0) mNil)))) (mApp mkLst (mCons (mK (.str [98, 97, 100])) (mCons (mVar 2) mNil))) (mApp mkLst (mCons (mK (.str [116, 101, 114, 109])) (mCons (mVar 1) mNil))))) mNext)))
theorem b__law_due (n k : Nat) : fnK (datF n) (k + 3) e__law_due = runBody 3 (c__law_due n k) := by kernel_rfl
def c__law_told (n k : Nat) : MS :=
  (mSeq (mTryAs CTD "Malformed" 1 (mSeq (mRet (mApp mkLst (mCons (mK (.str [116, 101, 114, 109])) (mCons (mCall 1 (fnK (datF n) (k + 2) e_read_term) (mCons (mVar 0) mNil)) mNil)))) mNext) (mSeq (mRet (mApp mkLst (mCons (mK (.str [98, 97, 100])) (mCons (mXf XFD 1 "at") mNil)))) mNext)) mNext)
theorem b__law_told (n k : Nat) : fnK (datF n) (k + 3) e__law_told = runBody 2 (c__law_told n k) := by kernel_rfl
def c__law_refused (n k : Nat) : MS :=
  (mSeq (mTryOnly CTD "BadNumber" (mSeq (mDrop (mCall 1 (fnK (datF n) (k + 2) e_term_text) (mCons (mVar 0) mNil))) (mSeq (mRet (mK (.bl false))) mNext)) (mSeq (mRet (mK (.bl true))) mNext)) mNext)
theorem b__law_refused (n k : Nat) : fnK (datF n) (k + 3) e__law_refused = runBody 1 (c__law_refused n k) := by kernel_rfl
def c_law (n k : Nat) : MS :=
  (mSeq (mAsg (mCall 1 (fnK (datF n) (k + 2) e__law_draws) (mCons (mVar 0) mNil)) (gSet 1)) (mSeq (mAsg (mCall 2 (fnK (datF n) (k + 2) e__law_more) (mCons (mVar 1) (mCons (mK (.int (120))) mNil))) (gSet 1)) (mSeq (mAsg (mApp mkTup (mCons (mApp mkTup (mCons (mK (.int (1))) (mCons (mK (.int (2))) mNil))) (mCons (mApp mkTup (mCons (mK (.int (1))) (mCons (mK (.int (1))) mNil))) mNil))) (gSet 2)) (mSeq (mIfS (mOr (mTest (m2 fNe (mCall 1 (fnK (datF n) (k + 2) e_term_text) (mCons (mVar 2) mNil)) (mK (.str [40, 40, 49, 32, 50, 41, 32, 40, 49, 32, 49, 41, 41])))) (mTest (m2 fNe (mApp fRepr (mCons (mCall 1 (fnK (datF n) (k + 2) e_read_term) (mCons (mK (.str [40, 46, 32, 110, 111, 110, 101, 32, 40, 45, 53, 41, 41])) mNil)) mNil)) (mApp fRepr (mCons (mApp mkTup (mCons (mK (.str [])) (mCons (mK .non) (mCons (mApp mkTup (mCons (m1 fNeg (mK (.int (5)))) mNil)) mNil)))) mNil))))) (mSeq (mRet (mK (.bl false))) mNext) mNext) (mSeq (mFor n (rng1 (mCons (mK (.int (4))) mNil)) (gSet 3) (mSeq (mAsg (mCall 2 (fnK (datF n) (k + 2) e__law_term) (mCons (mVar 1) (mCons (mK (.int (0))) mNil))) (gSet 4)) (mSeq (mAsg (mCall 1 (fnK (datF n) (k + 2) e__law_text) (mCons (mVar 4) mNil)) (gSet 5)) (mSeq (mIfS (mOr (mTest (m2 fNe (mCall 1 (fnK (datF n) (k + 2) e_term_text) (mCons (mVar 4) mNil)) (mVar 5))) (mTest (m2 fNe (mApp fRepr (mCons (mCall 1 (fnK (datF n) (k + 2) e__law_told) (mCons (mVar 5) mNil)) mNil)) (mApp fRepr (mCons (mApp mkLst (mCons (mK (.str [116, 101, 114, 109])) (mCons (mVar 4) mNil))) mNil))))) (mSeq (mRet (mK (.bl false))) mNext) mNext) (mSeq (mIfS (mAnd (mTru (mApp fIsi (mCons (mVar 4) (mCons (mK (.ty "tuple")) mNil)))) (mTest (m2 fNe (mCall 1 (fnK (datF n) (k + 2) e_term_text) (mCons (mApp fLstC (mCons (mVar 4) mNil)) mNil)) (mVar 5)))) (mSeq (mRet (mK (.bl false))) mNext) mNext) (mSeq (mFor n (rng1 (mCons (mK (.int (5))) mNil)) (gSet 6) (mSeq (mAsg (m2 fMod (mApp fIntC (mCons (mCall 1 (fnK (datF n) (k + 2) e__law_next) (mCons (mVar 1) mNil)) mNil)) (m2 fPlus (mApp fLen (mCons (mVar 5) mNil)) (mK (.int (1))))) (gSet 7)) (mSeq (mAsg (m2 fMod (mApp fIntC (mCons (mCall 1 (fnK (datF n) (k + 2) e__law_next) (mCons (mVar 1) mNil)) mNil)) (mK (.int (2)))) (gSet 8)) (mSeq (mAsg (mCall 2 (fnK (datF n) (k + 2) e__law_pick) (mCons (mVar 1) (mCons (mApp mkLst (mCons (mK (.str [])) (mCons (mK (.str [32])) (mCons (mK (.str [40])) (mCons (mK (.str [41])) (mCons (mK (.str [45])) (mCons (mK (.str [48])) (mCons (mK (.str [55])) (mCons (mK (.str [97])) (mCons (mK (.str [46])) (mCons (mK (.str [65])) (mCons (mK (.str [95])) (mCons (mK (.str [9])) mNil))))))))))))) mNil))) (gSet 9)) (mSeq (mAsg (m2 fPlus (m2 fPlus (mSl (mVar 5) mNoPart (mPart (mVar 7))) (mVar 9)) (mSl (mVar 5) (mPart (m2 fPlus (mVar 7) (mVar 8))) mNoPart)) (gSet 10)) (mSeq (mIfS (mAnd (mTest (m2 fNotIn (mK (.str [98, 97, 100])) (mVar 10))) (mTest (m2 fNe (mApp fRepr (mCons (mCall 1 (fnK (datF n) (k + 2) e__law_told) (mCons (mVar 10) mNil)) mNil)) (mApp fRepr (mCons (mCall 1 (fnK (datF n) (k + 2) e__law_due) (mCons (mVar 10) mNil)) mNil))))) (mSeq (mRet (mK (.bl false))) mNext) mNext) mNext)))))) mNext)))))) (mSeq (mAsg (m2 fPlus (m2 fPlus (m2 fTimes (mK (.str [40])) (mK (.int (60)))) (mK (.str [53]))) (m2 fTimes (mK (.str [41])) (mK (.int (60))))) (gSet 11)) (mSeq (mAsg (mApp mkLst (mCons (mK (.str [])) (mCons (mK (.str [40])) (mCons (mK (.str [40, 41])) (mCons (mK (.str [40, 32, 41])) (mCons (mK (.str [40, 49, 32, 41])) (mCons (mK (.str [40, 49, 32, 32, 50, 41])) (mCons (mK (.str [40, 49, 32, 50])) (mCons (mK (.str [49, 32, 50])) (mCons (mK (.str [45, 48])) (mCons (mK (.str [48, 48])) (mCons (mK (.str [48, 49])) (mCons (mK (.str [45])) (mCons (m2 fTimes (mK (.str [49])) (mK (.int (20)))) (mCons (m2 fTimes (mK (.str [49])) (mK (.int (21)))) (mCons (m2 fPlus (mK (.str [45])) (m2 fTimes (mK (.str [57])) (mK (.int (21))))) (mCons (mVar 11) (mCons (m2 fPlus (m2 fPlus (mK (.str [40])) (mVar 11)) (mK (.str [41]))) (mCons (mK (.str [40, 41, 40, 41])) (mCons (mK (.str [40, 97, 46, 41])) (mCons (mK (.str [53, 97])) (mCons (mK (.str [97, 53])) mNil)))))))))))))))))))))) (gSet 12)) (mSeq (mAsg (m2 fPlus (mVar 12) (mApp mkLst (mCons (mK (.str [110, 111, 110, 101])) (mCons (mK (.str [46, 46])) (mCons (mK (.str [41])) mNil))))) (gSet 12)) (mSeq (mIfS (mTest (m2 fNe (mLc n (mWalk (mVar 12)) (gSet 5) mYes (mApp fRepr (mCons (mCall 1 (fnK (datF n) (k + 2) e__law_told) (mCons (mVar 5) mNil)) mNil)) [5]) (mLc n (mWalk (mVar 12)) (gSet 5) mYes (mApp fRepr (mCons (mCall 1 (fnK (datF n) (k + 2) e__law_due) (mCons (mVar 5) mNil)) mNil)) [5]))) (mSeq (mRet (mK (.bl false))) mNext) mNext) (mSeq (mAsg (mK (.int (1))) (gSet 13)) (mSeq (mFor n (rng1 (mCons (mK (.int (4000))) mNil)) (gSet 3) (mSeq (mAsg (m2 fTimes (mK (.int (10))) (mVar 13)) (gSet 13)) mNext)) (mSeq (mIfS (mOr (mTest (m2 fNe (mCall 1 (fnK (datF n) (k + 2) e_term_text) (mCons (m2 fMinus (mVar 13) (mK (.int (1)))) mNil)) (m2 fTimes (mK (.str [57])) (mK (.int (4000)))))) (mOr (mTest (m2 fNe (mCall 1 (fnK (datF n) (k + 2) e_term_text) (mCons (m2 fMinus (mK (.int (1))) (mVar 13)) mNil)) (m2 fPlus (mK (.str [45])) (m2 fTimes (mK (.str [57])) (mK (.int (4000))))))) (mNot (mTru (mCall 1 (fnK (datF n) (k + 2) e__law_refused) (mCons (mVar 13) mNil)))))) (mSeq (mRet (mK (.bl false))) mNext) mNext) (mSeq (mRet (m2 fEq (mLc n (mWalk (mApp mkLst (mCons (mK (.str [110, 111, 110, 101])) (mCons (mK (.str [65])) (mCons (mK (.str [97, 32, 98])) (mCons (mApp mkTup (mCons (mK (.str [111, 107])) (mCons (mK (.str [120, 49])) mNil))) (mCons (mApp mkTup (mCons (mApp mkTup (mCons (mK (.str [110, 111, 110, 101])) mNil)) mNil)) mNil))))))) (gSet 4) mYes (mCall 1 (fnK (datF n) (k + 2) e__law_refused) (mCons (mVar 4) mNil)) [4]) (m2 fTimes (mApp mkLst (mCons (mK (.bl true)) mNil)) (mK (.int (5)))))) mNext)))))))))))))
theorem b_law (n k : Nat) : fnK (datF n) (k + 3) e_law = runBody 14 (c_law n k) := by kernel_rfl
end Mine
end
section
set_option Elab.async false
set_option linter.all false
set_option maxRecDepth 100000
set_option maxHeartbeats 1000000
/-! KF1: the reading's single steps. -/
namespace Mine
open PySem PySem.Spec MX
/-! ### heaps -/
structure Le (M M' : MH) : Prop where
  n : M.n ≤ M'.n
  g : ∀ i, i < M.n → M'.get i = M.get i
structure LeX (p : Nat) (M M' : MH) : Prop where
  n : M.n ≤ M'.n
  g : ∀ i, i < M.n → i ≠ p → M'.get i = M.get i
theorem Le.refl (M : MH) : Le M M := ⟨Nat.le_refl _, fun _ _ => rfl⟩
theorem Le.trans {A B C : MH} (x : Le A B) (y : Le B C) : Le A C := ⟨Nat.le_trans x.n y.n, fun i h => (y.g i (Nat.lt_of_lt_of_le h x.n)).trans (x.g i h)⟩
theorem Le.get {A B : MH} (x : Le A B) {i : Nat} {o : MO} (h : A.get i = some o) : B.get i = some o := (x.g i (MH.lt h)).trans h
theorem Le.push (M : MH) (o : MO) : Le M (M.push o) := ⟨Nat.le_succ _, fun i h => MH.get_push_other (Nat.ne_of_lt h)⟩
theorem LeX.refl (p : Nat) (M : MH) : LeX p M M := ⟨Nat.le_refl _, fun _ _ _ => rfl⟩
theorem LeX.trans {p : Nat} {A B C : MH} (x : LeX p A B) (y : LeX p B C) : LeX p A C := ⟨Nat.le_trans x.n y.n, fun i h e => (y.g i (Nat.lt_of_lt_of_le h x.n) e).trans (x.g i h e)⟩
theorem LeX.of {p : Nat} {A B : MH} (x : Le A B) : LeX p A B := ⟨x.n, fun i h _ => x.g i h⟩
theorem LeX.set (p : Nat) (M : MH) (o : MO) : LeX p M (M.set p o) := ⟨Nat.le_of_eq (MH.set_n ..).symm, fun i _ e => MH.get_set_other e⟩
theorem LeX.get {p : Nat} {A B : MH} (x : LeX p A B) {i : Nat} {o : MO} (h : A.get i = some o) (e : i ≠ p) : B.get i = some o := (x.g i (MH.lt h) e).trans h
/-- a thing that was not there before may change -/
theorem LeX.le {p : Nat} {A B C : MH} (x : Le A B) (y : LeX p B C) (hp : A.n ≤ p) : Le A C := ⟨Nat.le_trans x.n y.n, fun i h => (y.g i (Nat.lt_of_lt_of_le h x.n) (by omega)).trans (x.g i h)⟩
/-! ### cuts of texts -/
theorem cut_nn {α : Type} (T : List α) (a b : Nat) : cutL T (some (a : Int)) (some (b : Int)) = (T.drop a).take (b - a) := by
  unfold cutL
  rw [HT.sIx_nat, HT.sIx_nat]
  by_cases h : a ≤ T.length
  · rw [Nat.min_eq_left h]
    by_cases h2 : b ≤ T.length
    · rw [Nat.min_eq_left h2]
    · rw [show min b T.length = T.length by omega]
      rw [List.take_of_length_le (by rw [List.length_drop]; omega), List.take_of_length_le (by rw [List.length_drop]; omega)]
  · rw [show min a T.length = T.length by omega, List.drop_of_length_le (Nat.le_refl _), List.drop_of_length_le (by omega)]
    simp
theorem cut_n {α : Type} (T : List α) (a : Nat) : cutL T (some (a : Int)) none = T.drop a := by
  unfold cutL
  rw [HT.sIx_nat, HT.sIx_none]
  by_cases h : a ≤ T.length
  · rw [Nat.min_eq_left h, List.take_of_length_le (by rw [List.length_drop]; omega)]
  · rw [show min a T.length = T.length by omega, List.drop_of_length_le (Nat.le_refl _), List.drop_of_length_le (by omega)]
    simp
theorem cut_to {α : Type} (T : List α) (b : Nat) : cutL T none (some (b : Int)) = T.take b := by
  unfold cutL
  rw [HT.sIx_nat, HT.sIx_none]
  rw [List.drop_zero]
  by_cases h : b ≤ T.length
  · rw [Nat.min_eq_left h, Nat.sub_zero]
  · rw [show min b T.length = T.length by omega, Nat.sub_zero, List.take_of_length_le (Nat.le_refl _), List.take_of_length_le (by omega)]
/-- the sign at a, if any -/
def sgn (T : List Nat) (a : Nat) : List Nat := (T.drop a).take 1
theorem cut_sgn (T : List Nat) (a : Nat) : cutL T (some (a : Int)) (some ((a : Int) + 1)) = sgn T a := by
  have e : ((a : Int) + 1) = ((a + 1 : Nat) : Int) := by omega
  rw [e, cut_nn]
  unfold sgn
  rw [show a + 1 - a = 1 by omega]
def isAt (T : List Nat) (a : Nat) (S : List Nat) : Bool := match T[a]? with
  | some c => decide (c ∈ S)
  | none => false
theorem sgn_none {T : List Nat} {a : Nat} (h : T[a]? = none) : sgn T a = [] := by
  unfold sgn
  rw [List.drop_of_length_le (List.getElem?_eq_none_iff.mp h)]
  rfl
theorem sgn_some {T : List Nat} {a c : Nat} (h : T[a]? = some c) : sgn T a = [c] := by
  obtain ⟨hl, e⟩ := List.getElem?_eq_some_iff.mp h
  unfold sgn
  rw [List.drop_eq_getElem_cons hl, e]
  rfl
/-! ### == and != of texts, of numbers -/
theorem fNe_str (M : MH) (x y : List Nat) : fNe (.str x) (.str y) M = .ok (.bl (!decide (x = y))) M := rfl
theorem fEq_str (M : MH) (x y : List Nat) : fEq (.str x) (.str y) M = .ok (.bl (decide (x = y))) M := rfl
theorem fEq_int (M : MH) (i j : Int) : fEq (.int i) (.int j) M = .ok (.bl (decide (i = j))) M := rfl
/-! ### the reading -/
def RS (M : MH) (p : Nat) (T : List Nat) (a : Nat) : Prop := M.get p = some (.ins "Reading" [("text", .str T), ("at", .int a)])
theorem fd_text : FD.fld "Reading" "text" = true := by decide +kernel
theorem fd_at : FD.fld "Reading" "at" = true := by decide +kernel
theorem RS.le {M M' : MH} {p a : Nat} {T : List Nat} (h : RS M p T a) (l : Le M M') : RS M' p T a := l.get h
section
variable {M : MH} {p a n k : Nat} {T : List Nat} {τ : MX.Loc} {i : Nat}
theorem RS.text (h : RS M p T a) (e : τ[i]? = some (.va (.ref p))) : mFld FD "text" (mVar i) τ M = .ok (.str T) M := by
  unfold mFld mVar Res.bind
  rw [e]
  dsimp only
  rw [show M.get p = _ from h]
  dsimp only
  rw [if_pos fd_text]
  rfl
theorem RS.at_ (h : RS M p T a) (e : τ[i]? = some (.va (.ref p))) : mFld FD "at" (mVar i) τ M = .ok (.int a) M := by
  unfold mFld mVar Res.bind
  rw [e]
  dsimp only
  rw [show M.get p = _ from h]
  dsimp only
  rw [if_pos fd_at]
  rfl
/-- the reading moved to b -/
def stp (M : MH) (p : Nat) (T : List Nat) (b : Nat) : MH := M.set p (.ins "Reading" [("text", .str T), ("at", .int b)])
theorem RS.stp (h : RS M p T a) (b : Nat) : RS (stp M p T b) p T b := MH.get_set_same (MH.lt h)
theorem RS.stpX (h : RS M p T a) (b : Nat) : LeX p M (Mine.stp M p T b) := LeX.set p M _
theorem RS.inc (h : RS M p T a) (e : τ[i]? = some (.va (.ref p))) : mFldAug FD "at" (fInt (fun _ _ => true) fun i j => .int (i + j)) (mVar i) (mK (.int 1)) τ M = .nx τ (Mine.stp M p T (a + 1)) := by
  unfold mFldAug mVar Res.out
  rw [e]
  dsimp only
  have h' : M.get p = _ := h
  rw [h']
  dsimp only
  rw [if_pos fd_at]
  show (if clsAt M p "Reading" = true then (match putO FD "at" (.ref p) (.int ((a : Int) + 1)) M with
    | some M => Out.nx τ M
    | none => .stuck) else .stuck) = _
  have e1 : clsAt M p "Reading" = true := by
    unfold clsAt
    rw [h']
    exact decide_eq_true rfl
  rw [if_pos e1]
  have e2 : putO FD "at" (.ref p) (.int ((a : Int) + 1)) M = some (Mine.stp M p T (a + 1)) := by
    unfold putO
    dsimp only
    rw [h']
    dsimp only
    rw [fd_at]
    rfl
  rw [e2]
/-- a method of the reading -/
theorem RS.meth {N : Nat} {g : List MV → MH → Res MV} {m : Str} {A : MA} (h : RS M p T a) (e : τ[i]? = some (.va (.ref p))) (hm : MTD n k "Reading" m = some (N, g)) (hl : ([("text", .str T), ("at", .int a)] : List (Str × MV)).lookup m = none) :
    mMethI (MTD n k) m (mVar i) A τ M = (A τ M).bind fun xs M => if xs.length + 1 = N then g (.ref p :: xs) M else .stuck := by
  unfold mMethI mVar Res.bind
  rw [e]
  dsimp only
  rw [show M.get p = _ from h]
  dsimp only
  rw [hm, hl]
theorem no_m {x y : MV} {m : Str} (h1 : (m == ("text" : Str)) = false) (h2 : (m == ("at" : Str)) = false) : ([("text", x), ("at", y)] : List (Str × MV)).lookup m = none := by
  rw [List.lookup_cons, h1]
  dsimp only
  rw [List.lookup_cons, h2]
  rfl
theorem next_sign (h : RS M p T a) (hl : T.length ≤ 16777216) : fnK (datF n) (k + 3) e_Reading_next_sign [.ref p] M = .ok (.str (sgn T a)) M := by
  rw [b_Reading_next_sign]
  unfold runBody c_Reading_next_sign mSeq mRet mSl mPart m2
  rw [h.text rfl]
  simp only [Res.bind, h.at_ (τ := startM 1 [.ref p]) (i := 0) rfl, mK, fPlus, fSl, Res.out]
  rw [if_pos hl, cut_sgn]
theorem mt_next : MTD n k "Reading" "next_sign" = some (1, fnK (datF n) k e_Reading_next_sign) := rfl
theorem mt_isat : MTD n k "Reading" "is_at" = some (2, fnK (datF n) k e_Reading_is_at) := rfl
theorem mt_take : MTD n k "Reading" "take" = some (2, fnK (datF n) k e_Reading_take) := rfl
theorem mt_integer : MTD n k "Reading" "integer" = some (1, fnK (datF n) k e_Reading_integer) := rfl
theorem mt_term : MTD n k "Reading" "term" = some (2, fnK (datF n) k e_Reading_term) := rfl
theorem mt_entries : MTD n k "Reading" "entries" = some (2, fnK (datF n) k e_Reading_entries) := rfl
theorem one_arg {N : Nat} {g : List MV → MH → Res MV} {x v : MV} {M : MH} (h : N = 2) : (if ([v] : List MV).length + 1 = N then g [x, v] M else .stuck) = g [x, v] M := if_pos h.symm
theorem is_at {S : List Nat} (h : RS M p T a) (hl : T.length ≤ 16777216) : fnK (datF n) (k + 4) e_Reading_is_at [.ref p, .str S] M = .ok (.bl (isAt T a S)) M := by
  rw [show k + 4 = (k + 1) + 3 from rfl, b_Reading_is_at]
  have nx : mMethI (MTD n (k + 1 + 2)) "next_sign" (mVar 0) mNil (startM 2 [.ref p, .str S]) M = .ok (.str (sgn T a)) M := by
    rw [h.meth rfl mt_next (no_m (by decide) (by decide))]
    exact next_sign (k := k) h hl
  unfold runBody c_Reading_is_at mSeq mRet mAndV m2
  cases e : T[a]? with
  | none =>
    rw [sgn_none e] at nx
    simp only [nx, Res.bind, mK, fNe_str, truM, isAt, e]
    rfl
  | some c =>
    rw [sgn_some e] at nx
    simp only [nx, Res.bind, mK, fNe_str, truM, isAt, e]
    rfl
end
end Mine
end
section
set_option Elab.async false
set_option linter.all false
set_option maxRecDepth 100000
set_option maxHeartbeats 2000000
/-! KF2: taking signs, an integer. -/
namespace Mine
open PySem PySem.Spec MX
abbrev FIG : List Nat := [48, 49, 50, 51, 52, 53, 54, 55, 56, 57]
abbrev SML : List Nat := [97, 98, 99, 100, 101, 102, 103, 104, 105, 106, 107, 108, 109, 110, 111, 112, 113, 114, 115, 116, 117, 118, 119, 120, 121, 122]
def runL (T : List Nat) (a : Nat) (S : List Nat) : Nat := ((T.drop a).takeWhile fun c => decide (c ∈ S)).length
theorem isAt_lt {T : List Nat} {a : Nat} {S : List Nat} (h : isAt T a S = true) : a < T.length := by
  unfold isAt at h
  split at h
  · rename_i c e
    exact (List.getElem?_eq_some_iff.mp e).1
  · cases h
theorem run_t {T : List Nat} {a : Nat} {S : List Nat} (h : isAt T a S = true) : runL T a S = runL T (a + 1) S + 1 := by
  unfold isAt at h
  split at h
  · rename_i c e
    obtain ⟨hl, e⟩ := List.getElem?_eq_some_iff.mp e
    unfold runL
    rw [List.drop_eq_getElem_cons hl, e, List.takeWhile_cons, if_pos h, List.length_cons]
  · cases h
theorem run_f {T : List Nat} {a : Nat} {S : List Nat} (h : isAt T a S = false) : runL T a S = 0 := by
  unfold isAt at h
  unfold runL
  split at h
  · rename_i c e
    obtain ⟨hl, e⟩ := List.getElem?_eq_some_iff.mp e
    rw [List.drop_eq_getElem_cons hl, e, List.takeWhile_cons, if_neg (by rw [h]; decide)]
    rfl
  · rename_i e
    rw [List.drop_of_length_le (List.getElem?_eq_none_iff.mp e)]
    rfl
theorem run_le (T : List Nat) (a : Nat) (S : List Nat) : runL T a S ≤ T.length - a := by
  unfold runL
  refine Nat.le_trans (List.Sublist.length_le (List.takeWhile_sublist _)) ?_
  rw [List.length_drop]
  exact Nat.le_refl _
section
variable {M : MH} {p a n k : Nat} {T S : List Nat} {τ : MX.Loc} {i : Nat} {A : MA}
theorem isat_call (h : RS M p T a) (hl : T.length ≤ 16777216) (e : τ[i]? = some (.va (.ref p))) (hA : A τ M = .ok [.str S] M) : mMethI (MTD n (k + 4)) "is_at" (mVar i) A τ M = .ok (.bl (isAt T a S)) M := by
  rw [h.meth e mt_isat (no_m (by decide) (by decide)), hA]
  exact is_at h hl
abbrev TST (n k : Nat) : MB := mTru (mMethI (MTD n k) "is_at" (mVar 0) (mCons (mVar 1) mNil))
abbrev INC : MS := mFldAug FD "at" (fInt (fun _ _ => true) fun i j => .int (i + j)) (mVar 0) (mK (.int 1))
theorem take_loop (hl : T.length ≤ 16777216) (e0 : τ[0]? = some (.va (.ref p))) (e1 : τ[1]? = some (.va (.str S))) : ∀ (r fuel : Nat) (M : MH) (a : Nat), runL T a S = r → r < fuel → RS M p T a →
    ∃ M', whileGo (TST n (k + 4)) (mSeq INC mNext) fuel τ M = .nx τ M' ∧ RS M' p T (a + r) ∧ LeX p M M' := by
  intro r
  induction r with
  | zero =>
    intro fuel M a hr hf h
    cases q : isAt T a S with
    | true => rw [run_t q] at hr; exact absurd hr (by omega)
    | false =>
      refine ⟨M, while_f hf (tru_b ?_), h, LeX.refl p M⟩
      rw [isat_call h hl e0 (args1 (var_ok e1)), q]
  | succ r ih =>
    intro fuel M a hr hf h
    cases q : isAt T a S with
    | false => rw [run_f q] at hr; exact absurd hr (by omega)
    | true =>
      obtain ⟨fuel, rfl⟩ : ∃ f, fuel = f + 1 := ⟨fuel - 1, by omega⟩
      rw [run_t q] at hr
      obtain ⟨M', h1, h2, h3⟩ := ih fuel (stp M p T (a + 1)) (a + 1) (by omega) (by omega) (h.stp (a + 1))
      refine ⟨M', (while_t (tru_b ?_) ((seq_nx (h.inc e0)).trans next_nx)).trans h1, by rw [show a + (r + 1) = a + 1 + r by omega]; exact h2, (h.stpX (a + 1)).trans h3⟩
      rw [isat_call h hl e0 (args1 (var_ok e1)), q]
theorem take_ok (h : RS M p T a) (hl : T.length ≤ 16777216) (hn : T.length < n) : ∃ M', fnK (datF n) (k + 5) e_Reading_take [.ref p, .str S] M = .ok (.str ((T.drop a).take (runL T a S))) M' ∧ RS M' p T (a + runL T a S) ∧ LeX p M M' := by
  have hr := run_le T a S
  rw [show k + 5 = (k + 2) + 3 from rfl, b_Reading_take]
  unfold c_Reading_take
  obtain ⟨M', h1, h2, h3⟩ := take_loop (n := n) (k := k) (τ := (startM 3 [.ref p, .str S]).set 2 (.va (.int a))) (p := p) (S := S) hl rfl rfl (runL T a S) n M a rfl (by omega) h
  refine ⟨M', run_rt ?_, h2, h3⟩
  refine (seq_nx (asg_ok2 (h.at_ rfl))).trans ?_
  refine (seq_nx h1).trans ?_
  refine seq_rt (ret_ok ((sl_ok (h2.text rfl) (part_ok (var_ok rfl)) (part_ok (h2.at_ rfl))).trans ?_))
  show (if T.length ≤ 16777216 then (Res.ok (MV.str (cutL T (some (a : Int)) (some ((a + runL T a S : Nat) : Int)))) M' : Res MV) else Res.stuck) = _
  rw [if_pos hl, cut_nn]
  rw [show a + runL T a S - a = runL T a S by omega]
/-- what a reader comes to: a value and the place behind, or the first place that can't stand -/
abbrev Rv := Except Nat (MV × Nat)
def Rd (p : Nat) (T : List Nat) (M : MH) (r : Rv) (x : Res MV) : Prop := match r with
  | .ok (v, b) => ∃ M', x = .ok v M' ∧ RS M' p T b ∧ LeX p M M'
  | .error b => ∃ M', x = .ex "Malformed" [("at", .int (b : Int))] M' ∧ LeX p M M'
theorem take_call (h : RS M p T a) (hl : T.length ≤ 16777216) (hn : T.length < n) (e : τ[i]? = some (.va (.ref p))) (hA : A τ M = .ok [.str S] M) :
    ∃ M', mMethI (MTD n (k + 5)) "take" (mVar i) A τ M = .ok (.str ((T.drop a).take (runL T a S))) M' ∧ RS M' p T (a + runL T a S) ∧ LeX p M M' := by
  rw [h.meth e mt_take (no_m (by decide) (by decide)), hA]
  exact take_ok h hl hn
/-- the worth of figures -/
def worth (cs : List Nat) : Int := ((NumText.digitsVal cs : Nat) : Int)
def rdInt (T : List Nat) (a : Nat) : Rv :=
  let m := isAt T a [45]
  let s := if m = true then a + 1 else a
  if (!isAt T s FIG || (m && isAt T s [48])) = true then .error s
  else if (isAt T s [48] && decide (1 < runL T s FIG)) = true then .error (s + 1)
  else if 20 < runL T s FIG then .error (s + 20)
  else .ok (.int (if m = true then -worth ((T.drop s).take (runL T s FIG)) else worth ((T.drop s).take (runL T s FIG))), s + runL T s FIG)
theorem takeWhile_all {f : Nat → Bool} : ∀ (l : List Nat), ∀ x ∈ l.takeWhile f, f x = true
  | [], x, h => by cases h
  | y :: l, x, h => by
    rw [List.takeWhile_cons] at h
    split at h
    · rename_i hy
      rcases List.mem_cons.mp h with e | h
      · rw [e]; exact hy
      · exact takeWhile_all l x h
    · cases h
theorem take_run (T : List Nat) (s : Nat) (S : List Nat) : (T.drop s).take (runL T s S) = (T.drop s).takeWhile fun c => decide (c ∈ S) := by
  unfold runL
  exact (List.prefix_iff_eq_take.mp (List.takeWhile_prefix _)).symm
theorem run_digits (T : List Nat) (s : Nat) : NumText.AllDigits ((T.drop s).take (runL T s FIG)) := by
  rw [take_run]
  intro c hc
  have := takeWhile_all _ c hc
  simp only [decide_eq_true_eq, List.mem_cons, List.mem_nil_iff, or_false] at this
  omega
theorem intC_digits {cs : List Nat} (h : NumText.AllDigits cs) (h1 : cs ≠ []) (h2 : cs.length ≤ 640) : fIntC [.str cs] M = .ok (.int (worth cs)) M := by
  unfold fIntC
  dsimp only
  rw [if_pos h2, intText_digits (x := ⟨cs.toArray⟩) (by simpa using h) (by simpa using h1) (by rw [str_len]; omega)]
  simp [worth]
end
end Mine
end
section
set_option Elab.async false
set_option linter.all false
set_option maxRecDepth 100000
set_option maxHeartbeats 2000000
/-! KF3: an integer read. -/
namespace Mine
open PySem PySem.Spec MX
section
variable {M : MH} {p a n k : Nat} {T S : List Nat} {τ : MX.Loc} {i : Nat} {A : MA}
theorem mkI_ok {c f : Str} {v : MV} {M' : MH} (h : A τ M = .ok [v] M') : mMkI c f A τ M = .ok (c, [(f, v)]) M' := by unfold mMkI; rw [h]; rfl
theorem raise_at {v : MV} {M' : MH} (h : A τ M = .ok [v] M') : mSeq (mRaise (mMkI "Malformed" "at" A)) mNext τ M = .ex "Malformed" [("at", v)] τ M' := seq_ex (raise_ok (mkI_ok h))
theorem len_str {x : List Nat} (h : x.length ≤ 16777216) : fLen [.str x] M = .ok (.int x.length) M := by unfold fLen; exact if_pos h
theorem gt_int (i j : Int) : fGt (.int i) (.int j) M = .ok (.bl (decide (j < i))) M := rfl
theorem lt_int2 (i j : Int) : fLt (.int i) (.int j) M = .ok (.bl (decide (i < j))) M := rfl
theorem plus_int (i j : Int) : fPlus (.int i) (.int j) M = .ok (.int (i + j)) M := rfl
theorem integer_ok (h : RS M p T a) (hl : T.length ≤ 16777216) (hn : T.length < n) : Rd p T M (rdInt T a) (fnK (datF n) (k + 6) e_Reading_integer [.ref p] M) := by
  rw [show k + 6 = (k + 3) + 3 from rfl, b_Reading_integer]
  unfold c_Reading_integer
  have isat : ∀ {M1 : MH} {b : Nat} {S : List Nat} {τ : MX.Loc}, RS M1 p T b → τ[0]? = some (.va (.ref p)) → mMethI (MTD n (k + 3 + 2)) "is_at" (mVar 0) (mCons (mK (.str S)) mNil) τ M1 = .ok (.bl (isAt T b S)) M1 := fun h1 e => isat_call (k := k + 1) h1 hl e (args1 rfl)
  -- the minus
  obtain ⟨s, hs⟩ : ∃ s, s = if isAt T a [45] = true then a + 1 else a := ⟨_, rfl⟩
  have e0 : ∀ v : LV, ((startM 5 [.ref p]).set 1 v)[0]? = some (.va (.ref p)) := fun v => rfl
  obtain ⟨M1, q1, h1, x1⟩ : ∃ M1, mIfS (mTru (mVar 1)) (mSeq INC mNext) mNext ((startM 5 [.ref p]).set 1 (.va (.bl (isAt T a [45])))) M = .nx ((startM 5 [.ref p]).set 1 (.va (.bl (isAt T a [45])))) M1 ∧ RS M1 p T s ∧ LeX p M M1 := by
    cases q : isAt T a [45] with
    | true =>
      rw [q, if_pos rfl] at hs
      subst hs
      exact ⟨stp M p T (a + 1), (if_t (tru_b (var_ok rfl))).trans ((seq_nx (h.inc rfl)).trans next_nx), h.stp _, h.stpX _⟩
    | false =>
      rw [q, if_neg (by decide)] at hs
      subst hs
      exact ⟨M, (if_f (tru_b (var_ok rfl))).trans next_nx, h, LeX.refl p M⟩
  unfold rdInt
  dsimp only
  rw [← hs]
  -- the first sign
  have c1 : ∀ (v : LV), (mOr (mNot (mTru (mMethI (MTD n (k + 3 + 2)) "is_at" (mVar 0) (mCons (mK (.str FIG)) mNil)))) (mAnd (mTru (mVar 1)) (mTru (mMethI (MTD n (k + 3 + 2)) "is_at" (mVar 0) (mCons (mK (.str [48])) mNil)))))
      (((startM 5 [.ref p]).set 1 (.va (.bl (isAt T a [45])))).set 2 v) M1 = .ok (!isAt T s FIG || (isAt T a [45] && isAt T s [48])) M1 := fun v => or_ok (not_ok (tru_b (isat h1 rfl))) (and_ok (tru_b (var_ok rfl)) (tru_b (isat h1 rfl)))
  by_cases b1 : (!isAt T s FIG || (isAt T a [45] && isAt T s [48])) = true
  · rw [if_pos b1]
    refine ⟨M1, run_ex (τ' := ((startM 5 [.ref p]).set 1 (.va (.bl (isAt T a [45])))).set 2 (.va (.int s))) ?_, x1⟩
    refine (seq_nx (asg_ok2 (isat h rfl))).trans ((seq_nx q1).trans ((seq_nx (asg_ok2 (h1.at_ rfl))).trans (seq_ex ?_)))
    rw [if_b (c1 _), if_pos b1]
    exact raise_at (args1 (h1.at_ rfl))
  · rw [if_neg b1]
    have b1' : (!isAt T s FIG || (isAt T a [45] && isAt T s [48])) = false := by simpa using b1
    rw [Bool.or_eq_false_iff, Bool.not_eq_false'] at b1'
    have pos : 0 < runL T s FIG := by rw [run_t b1'.1]; exact Nat.succ_pos _
    have hr := run_le T s FIG
    have hlen : ((T.drop s).take (runL T s FIG)).length = runL T s FIG := by rw [List.length_take, List.length_drop]; omega
    generalize hτ : (((startM 5 [.ref p]).set 1 (.va (.bl (isAt T a [45])))).set 2 (.va (.int s))).set 3 (.va (.bl (isAt T s [48]))) = τ3
    have g0 : τ3[0]? = some (.va (.ref p)) := by rw [← hτ]; rfl
    have g1 : τ3[1]? = some (.va (.bl (isAt T a [45]))) := by rw [← hτ]; rfl
    have g2 : τ3[2]? = some (.va (.int s)) := by rw [← hτ]; rfl
    have g3 : τ3[3]? = some (.va (.bl (isAt T s [48]))) := by rw [← hτ]; rfl
    have gl : τ3.length = 5 := by rw [← hτ]; rfl
    obtain ⟨M2, t1, h2, x2⟩ := take_call (S := FIG) (k := k) (i := 0) (A := mCons (mK (.str FIG)) mNil) (τ := τ3) h1 hl hn g0 (args1 rfl)
    generalize hF : (T.drop s).take (runL T s FIG) = F at t1 hlen
    generalize hτ4 : τ3.set 4 (.va (.str F)) = τ4
    have k1 : τ4[1]? = some (.va (.bl (isAt T a [45]))) := by rw [← hτ4, List.getElem?_set_ne (by decide)]; exact g1
    have k2 : τ4[2]? = some (.va (.int s)) := by rw [← hτ4, List.getElem?_set_ne (by decide)]; exact g2
    have k3 : τ4[3]? = some (.va (.bl (isAt T s [48]))) := by rw [← hτ4, List.getElem?_set_ne (by decide)]; exact g3
    have k4 : τ4[4]? = some (.va (.str F)) := by rw [← hτ4]; exact List.getElem?_set_self (by omega)
    have lenF : mApp fLen (mCons (mVar 4) mNil) τ4 M2 = .ok (.int (runL T s FIG)) M2 := by
      rw [app_ok (args1 (var_ok k4)), len_str (by omega), hlen]
    have cmpI : ∀ j : Int, mTest (m2 fGt (mApp fLen (mCons (mVar 4) mNil)) (mK (.int j))) τ4 M2 = .ok (decide (j < (runL T s FIG : Int))) M2 := fun j => test_ok ((op_ok lenF rfl).trans rfl)
    have cmp1 : mTest (m2 fGt (mApp fLen (mCons (mVar 4) mNil)) (mK (.int 1))) τ4 M2 = .ok (decide (1 < runL T s FIG)) M2 := (cmpI 1).trans (by rw [decide_eq_decide.mpr (show ((1 : Int) < (runL T s FIG : Int)) ↔ 1 < runL T s FIG by omega)])
    have cmp20 : mTest (m2 fGt (mApp fLen (mCons (mVar 4) mNil)) (mK (.int 20))) τ4 M2 = .ok (decide (20 < runL T s FIG)) M2 := (cmpI 20).trans (by rw [decide_eq_decide.mpr (show ((20 : Int) < (runL T s FIG : Int)) ↔ 20 < runL T s FIG by omega)])
    have head : ∀ R : MS, (mSeq (mAsg (mMethI (MTD n (k + 3 + 2)) "is_at" (mVar 0) (mCons (mK (.str [45])) mNil)) (gSet 1)) (mSeq (mIfS (mTru (mVar 1)) (mSeq INC mNext) mNext) (mSeq (mAsg (mFld FD "at" (mVar 0)) (gSet 2))
        (mSeq (mIfS (mOr (mNot (mTru (mMethI (MTD n (k + 3 + 2)) "is_at" (mVar 0) (mCons (mK (.str FIG)) mNil)))) (mAnd (mTru (mVar 1)) (mTru (mMethI (MTD n (k + 3 + 2)) "is_at" (mVar 0) (mCons (mK (.str [48])) mNil))))) (mSeq (mRaise (mMkI "Malformed" "at" (mCons (mFld FD "at" (mVar 0)) mNil))) mNext) mNext)
        (mSeq (mAsg (mMethI (MTD n (k + 3 + 2)) "is_at" (mVar 0) (mCons (mK (.str [48])) mNil)) (gSet 3)) (mSeq (mAsg (mMethI (MTD n (k + 3 + 2)) "take" (mVar 0) (mCons (mK (.str FIG)) mNil)) (gSet 4)) R)))))) (startM 5 [.ref p]) M = R τ4 M2 := fun R => by
      refine (seq_nx (asg_ok2 (isat h rfl))).trans ((seq_nx q1).trans ((seq_nx (asg_ok2 (h1.at_ rfl))).trans ((seq_nx (τ' := ((startM 5 [.ref p]).set 1 (.va (.bl (isAt T a [45])))).set 2 (.va (.int s))) (M' := M1) ?_).trans ?_)))
      · rw [if_b (c1 _), if_neg b1]
        rfl
      · refine (seq_nx (asg_ok2 (isat h1 rfl))).trans ?_
        rw [hτ]
        refine (seq_nx (asg_ok2 t1)).trans ?_
        rw [hτ4]
    by_cases b2 : (isAt T s [48] && decide (1 < runL T s FIG)) = true
    · rw [if_pos b2]
      refine ⟨M2, run_ex (τ' := τ4) ((head _).trans (seq_ex ?_)), x1.trans x2⟩
      rw [if_b (and_ok (tru_b (var_ok k3)) cmp1), if_pos b2]
      exact raise_at (args1 ((op_ok (var_ok k2) (show mK (.int 1) τ4 M2 = .ok (.int 1) M2 from rfl)).trans rfl))
    · rw [if_neg b2]
      have s2 : ∀ R : MS, mSeq (mIfS (mAnd (mTru (mVar 3)) (mTest (m2 fGt (mApp fLen (mCons (mVar 4) mNil)) (mK (.int 1))))) (mSeq (mRaise (mMkI "Malformed" "at" (mCons (m2 fPlus (mVar 2) (mK (.int 1))) mNil))) mNext) mNext) R τ4 M2 = R τ4 M2 := fun R => by
        refine seq_nx ?_
        rw [if_b (and_ok (tru_b (var_ok k3)) cmp1), if_neg b2]
        rfl
      by_cases b3 : 20 < runL T s FIG
      · rw [if_pos b3]
        refine ⟨M2, run_ex (τ' := τ4) ((head _).trans ((s2 _).trans (seq_ex ?_))), x1.trans x2⟩
        rw [if_b cmp20, if_pos (decide_eq_true b3)]
        exact raise_at (args1 ((op_ok (var_ok k2) (show mK (.int 20) τ4 M2 = .ok (.int 20) M2 from rfl)).trans rfl))
      · rw [if_neg b3]
        refine ⟨M2, run_rt ((head _).trans ((s2 _).trans ((seq_nx (τ' := τ4) (M' := M2) ?_).trans (seq_rt (ret_ok ?_))))), h2, x1.trans x2⟩
        · rw [if_b cmp20, if_neg (by rw [decide_eq_false b3]; decide)]
          rfl
        · have dig : NumText.AllDigits F := by rw [← hF]; exact run_digits T s
          have ic : mApp fIntC (mCons (mVar 4) mNil) τ4 M2 = .ok (.int (worth F)) M2 := by
            rw [app_ok (args1 (var_ok k4))]
            exact intC_digits dig (fun e => by rw [e] at hlen; simp at hlen; omega) (by omega)
          rw [ife_b (tru_b (var_ok k1))]
          cases isAt T a [45] with
          | true =>
            rw [if_pos rfl, if_pos rfl]
            unfold m1
            rw [ic]
            rfl
          | false =>
            rw [if_neg (by decide), if_neg (by decide), ic]
end
end Mine
end
section
set_option Elab.async false
set_option linter.all false
set_option maxRecDepth 100000
set_option maxHeartbeats 2000000
/-! KF4: terms and entries read. -/
namespace Mine
open PySem PySem.Spec MX
abbrev NON : List Nat := [110, 111, 110, 101]
mutual
def rdTerm : Nat → List Nat → Nat → Nat → Option Rv
  | 0, _, _, _ => none
  | f + 1, T, a, d => if isAt T a [40] = true then (if d = 60 then some (.error a) else rdEnts f T (a + 1) (d + 1) [])
    else if isAt T a [46] = true then some (.ok (.str [], a + 1))
    else if isAt T a SML = true then some (.ok (if (T.drop a).take (runL T a SML) = NON then .non else .str ((T.drop a).take (runL T a SML)), a + runL T a SML))
    else some (rdInt T a)
def rdEnts : Nat → List Nat → Nat → Nat → List MV → Option Rv
  | 0, _, _, _, _ => none
  | f + 1, T, a, d, vs => if isAt T a [41] = true then some (.ok (.tup vs, a + 1))
    else if (!vs.isEmpty && !isAt T a [32]) = true then some (.error a)
    else match rdTerm f T (if vs.isEmpty = true then a else a + 1) d with
      | none => none
      | some (.error b) => some (.error b)
      | some (.ok (v, b)) => rdEnts f T b d (vs ++ [v])
end
theorem rdInt_lt {T : List Nat} {a b : Nat} {v : MV} (h : rdInt T a = .ok (v, b)) : a < b ∧ b ≤ T.length := by
  unfold rdInt at h
  dsimp only at h
  generalize hs : (if isAt T a [45] = true then a + 1 else a) = s at h
  have has : a ≤ s := by rw [← hs]; split <;> omega
  split at h
  · cases h
  · rename_i b1
    have b1' : (!isAt T s FIG || (isAt T a [45] && isAt T s [48])) = false := by simpa using b1
    rw [Bool.or_eq_false_iff, Bool.not_eq_false'] at b1'
    have hr := run_le T s FIG
    have hp := run_t b1'.1
    have hlt := isAt_lt b1'.1
    split at h
    · cases h
    · split at h
      · cases h
      · injection h with h
        injection h with h1 h2
        omega
mutual
theorem rdTerm_lt : ∀ (f : Nat) {T : List Nat} {a d b : Nat} {v : MV}, rdTerm f T a d = some (.ok (v, b)) → a < b ∧ b ≤ T.length
  | 0, _, _, _, _, _, h => by cases h
  | f + 1, T, a, d, b, v, h => by
    unfold rdTerm at h
    split at h
    · split at h
      · cases h
      · have z := rdEnts_lt f h
        omega
    · split at h
      · rename_i _ h2
        have z := isAt_lt h2
        cases h
        omega
      · split at h
        · rename_i _ _ h3
          have z := isAt_lt h3
          have hr := run_le T a SML
          have hp := run_t h3
          injection h with h
          injection h with h
          injection h with h1 h2
          omega
        · exact rdInt_lt (Option.some.inj h)
theorem rdEnts_lt : ∀ (f : Nat) {T : List Nat} {a d b : Nat} {vs : List MV} {v : MV}, rdEnts f T a d vs = some (.ok (v, b)) → a < b ∧ b ≤ T.length
  | 0, _, _, _, _, _, _, h => by cases h
  | f + 1, T, a, d, b, vs, v, h => by
    unfold rdEnts at h
    split at h
    · rename_i h1
      have z := isAt_lt h1
      cases h
      omega
    · split at h
      · cases h
      · split at h
        · cases h
        · cases h
        · rename_i v' b' e
          have z := rdTerm_lt f e
          have z2 := rdEnts_lt f h
          have z3 : a ≤ (if vs.isEmpty = true then a else a + 1) := by split <;> omega
          omega
end
section
variable {M : MH} {p a n k : Nat} {T S : List Nat} {τ : MX.Loc} {i : Nat} {A : MA} {o : ME}
theorem bm_ok {ty : MH → MV → Bool} {g : MV → List MV → MH → Res MV} {x : MV} {xs : List MV} {M1 M2 : MH} (h : o τ M = .ok x M1) (ht : ty M1 x = true) (hA : A τ M1 = .ok xs M2) : mBM ty g o A τ M = g x xs M2 := by
  unfold mBM
  rw [h]
  show (if ty M1 x = true then (A τ M1).bind fun xs M => g x xs M else .stuck) = _
  rw [if_pos ht, hA]
  rfl
theorem bm_ex {ty : MH → MV → Bool} {g : MV → List MV → MH → Res MV} {x : MV} {c : Str} {fs : List (Str × MV)} {M1 M2 : MH} (h : o τ M = .ok x M1) (ht : ty M1 x = true) (hA : A τ M1 = .ex c fs M2) : mBM ty g o A τ M = .ex c fs M2 := by
  unfold mBM
  rw [h]
  show (if ty M1 x = true then (A τ M1).bind fun xs M => g x xs M else .stuck) = _
  rw [if_pos ht, hA]
  rfl
theorem isLst_of {q : Nat} {xs : List MV} (h : M.get q = some (.lst xs)) : isLstM M (.ref q) = true := by unfold isLstM; dsimp only; rw [h]
theorem fApp_ok {q : Nat} {xs : List MV} {v : MV} (h : M.get q = some (.lst xs)) (hl : xs.length < 16777216) : fApp (.ref q) [v] M = .ok .non (M.set q (.lst (xs ++ [v]))) := by
  unfold fApp
  dsimp only
  rw [h]
  exact if_pos hl
theorem Rd.imp {p : Nat} {T : List Nat} {M M1 : MH} {r : Rv} {x : Res MV} (l : LeX p M M1) (h : Rd p T M1 r x) : Rd p T M r x := by
  unfold Rd at h ⊢
  split at h
  · obtain ⟨M', e, h2, h3⟩ := h
    exact ⟨M', e, h2, l.trans h3⟩
  · obtain ⟨M', e, h3⟩ := h
    exact ⟨M', e, l.trans h3⟩
end
end Mine
end
section
set_option Elab.async false
set_option linter.all false
set_option maxRecDepth 100000
set_option maxHeartbeats 4000000
/-! KF5: the reading's term and entries do what rdTerm and rdEnts say. -/
namespace Mine
open PySem PySem.Spec MX
def TermP (n f : Nat) : Prop := ∀ (T : List Nat) (a d : Nat) (M : MH) (L p : Nat) (r : Rv), rdTerm f T a d = some r → d ≤ 60 → 2 * (60 - d) + 10 ≤ L → RS M p T a → T.length ≤ 16777216 → T.length < n → Rd p T M r (fnK (datF n) L e_Reading_term [.ref p, .int d] M)
abbrev TSTE (n L : Nat) : MB := mNot (mTru (mMethI (MTD n L) "is_at" (mVar 0) (mCons (mK (.str [41])) mNil)))
abbrev BODE (n L : Nat) : MS := mSeq (mIfS (mTru (mVar 2)) (mSeq (mIfS (mNot (mTru (mMethI (MTD n L) "is_at" (mVar 0) (mCons (mK (.str [32])) mNil)))) (mSeq (mRaise (mMkI "Malformed" "at" (mCons (mFld FD "at" (mVar 0)) mNil))) mNext) mNext) (mSeq INC mNext)) mNext)
  (mSeq (mDrop (mBM isLstM fApp (mVar 2) (mCons (mMethI (MTD n L) "term" (mVar 0) (mCons (mVar 1) mNil)) mNil))) mNext)
def τE (p d q : Nat) : MX.Loc := [.va (.ref p), .va (.int d), .va (.ref q)]
def LoopR (p : Nat) (T : List Nat) (q : Nat) (Ms : MH) (τ : MX.Loc) (r : Rv) (o : Out) : Prop := match r with
  | .ok (v, b) => ∃ M' fnd c, o = .nx τ M' ∧ RS M' p T c ∧ b = c + 1 ∧ M'.get q = some (.lst fnd) ∧ v = .tup fnd ∧ fnd.length ≤ 16777216 ∧ LeX p Ms M'
  | .error b => ∃ M', o = .ex "Malformed" [("at", .int (b : Int))] τ M' ∧ LeX p Ms M'
def LoopP (n f : Nat) : Prop := ∀ (T : List Nat) (a d : Nat) (vs : List MV) (M : MH) (m L p q : Nat) (Ms : MH) (r : Rv), rdEnts f T a d vs = some r → d ≤ 60 → 2 * (60 - d) + 10 ≤ L → RS M p T a → M.get q = some (.lst vs) → Ms.n ≤ q → p < Ms.n → LeX p Ms M →
  T.length - a < m → vs.length ≤ a → T.length ≤ 16777216 → T.length < n → LoopR p T q Ms (τE p d q) r (whileGo (TSTE n L) (BODE n L) m (τE p d q) M)
section
variable {n : Nat}
theorem isat_L {M : MH} {p a L i : Nat} {T S : List Nat} {τ : MX.Loc} {A : MA} (hL : 4 ≤ L) (h : RS M p T a) (hl : T.length ≤ 16777216) (e : τ[i]? = some (.va (.ref p))) (hA : A τ M = .ok [.str S] M) : mMethI (MTD n L) "is_at" (mVar i) A τ M = .ok (.bl (isAt T a S)) M := by
  obtain ⟨k, rfl⟩ : ∃ k, L = k + 4 := ⟨L - 4, by omega⟩
  exact isat_call h hl e hA
theorem loop_step {f : Nat} (hT : TermP n f) (hLo : LoopP n f) : LoopP n (f + 1) := by
  intro T a d vs M m L p q Ms r hr hd hL h hq hmq hpm lx hm hv hl hn
  obtain ⟨m, rfl⟩ : ∃ m', m = m' + 1 := ⟨m - 1, by omega⟩
  have pq : q ≠ p := by omega
  have i0 : (τE p d q)[0]? = some (.va (.ref p)) := rfl
  have i1 : (τE p d q)[1]? = some (.va (.int d)) := rfl
  have i2 : (τE p d q)[2]? = some (.va (.ref q)) := rfl
  have tst : TSTE n L (τE p d q) M = .ok (!isAt T a [41]) M := not_ok (tru_b (isat_L (by omega) h hl i0 (args1 rfl)))
  unfold rdEnts at hr
  by_cases h1 : isAt T a [41] = true
  · rw [if_pos h1] at hr
    cases hr
    rw [h1] at tst
    exact ⟨M, vs, a, while_f (Nat.succ_pos _) tst, h, rfl, hq, rfl, by have := isAt_lt h1; omega, lx⟩
  · rw [if_neg h1] at hr
    have h1' : isAt T a [41] = false := by simpa using h1
    rw [h1'] at tst
    have tv : mTru (mVar 2) (τE p d q) M = .ok (!vs.isEmpty) M := tru_ok2 (var_ok i2) (by unfold truM; dsimp only; rw [hq])
    -- the sign between
    by_cases h2 : (!vs.isEmpty && !isAt T a [32]) = true
    · rw [if_pos h2] at hr
      cases hr
      rw [Bool.and_eq_true] at h2
      refine ⟨M, while_ex tst (seq_ex ?_), lx⟩
      rw [if_b tv, if_pos h2.1]
      refine seq_ex ?_
      rw [if_b (not_ok (tru_b (isat_L (by omega) h hl i0 (args1 rfl)))), if_pos h2.2]
      exact raise_at (args1 (h.at_ i0))
    · rw [if_neg h2] at hr
      generalize hs : (if vs.isEmpty = true then a else a + 1) = s at hr
      obtain ⟨M1, q1, s1, x1, hq1⟩ : ∃ M1, mIfS (mTru (mVar 2)) (mSeq (mIfS (mNot (mTru (mMethI (MTD n L) "is_at" (mVar 0) (mCons (mK (.str [32])) mNil)))) (mSeq (mRaise (mMkI "Malformed" "at" (mCons (mFld FD "at" (mVar 0)) mNil))) mNext) mNext) (mSeq INC mNext)) mNext (τE p d q) M = .nx (τE p d q) M1 ∧
          RS M1 p T s ∧ LeX p Ms M1 ∧ M1.get q = some (.lst vs) := by
        cases hb : vs.isEmpty with
        | true =>
          rw [hb, if_pos rfl] at hs
          subst hs
          rw [hb] at tv
          exact ⟨M, (if_f tv).trans next_nx, h, lx, hq⟩
        | false =>
          rw [hb, if_neg (by decide)] at hs
          subst hs
          rw [hb] at tv
          have h3 : isAt T a [32] = true := by
            rw [hb] at h2
            simpa using h2
          refine ⟨stp M p T (a + 1), (if_t tv).trans ((seq_nx (τ' := τE p d q) (M' := M) ?_).trans ((seq_nx (h.inc i0)).trans next_nx)), h.stp _, lx.trans (h.stpX _), ?_⟩
          · rw [if_b (not_ok (tru_b (isat_L (by omega) h hl i0 (args1 rfl)))), h3]
            rfl
          · exact (h.stpX (a + 1)).get hq pq
      cases ht : rdTerm f T s d with
      | none => rw [ht] at hr; cases hr
      | some rt =>
        rw [ht] at hr
        have ct := hT T s d M1 L p rt ht hd hL s1 hl hn
        have cm : ∀ x, fnK (datF n) L e_Reading_term [.ref p, .int d] M1 = x → mMethI (MTD n L) "term" (mVar 0) (mCons (mVar 1) mNil) (τE p d q) M1 = x := fun x e => by
          rw [s1.meth i0 mt_term (no_m (by decide) (by decide)), args1 (var_ok i1)]
          exact e
        cases rt with
        | error b =>
          cases hr
          obtain ⟨M2, e2, x2⟩ := ct
          refine ⟨M2, while_ex tst ((seq_nx q1).trans (seq_ex (drop_ex ?_))), x1.trans x2⟩
          exact bm_ex (var_ok i2) (isLst_of hq1) (args1_ex (cm _ e2))
        | ok vb =>
          obtain ⟨v, b⟩ := vb
          obtain ⟨M2, e2, s2, x2⟩ := ct
          have hlt := rdTerm_lt f ht
          have hsa : a ≤ s := by rw [← hs]; split <;> omega
          have hq2 : M2.get q = some (.lst vs) := x2.get hq1 pq
          have e3 : fApp (.ref q) [v] M2 = .ok .non (M2.set q (.lst (vs ++ [v]))) := fApp_ok hq2 (by omega)
          have body : BODE n L (τE p d q) M = .nx (τE p d q) (M2.set q (.lst (vs ++ [v]))) :=
            (seq_nx q1).trans ((seq_nx (drop_ok ((bm_ok (var_ok i2) (isLst_of hq1) (args1 (cm _ e2))).trans e3))).trans next_nx)
          rw [while_t tst body]
          have lx2 : LeX p Ms (M2.set q (.lst (vs ++ [v]))) := by
            have y := x1.trans x2
            exact ⟨by rw [MH.set_n]; exact y.n, fun i hi e => (MH.get_set_other (by omega)).trans (y.g i hi e)⟩
          have rs3 : RS (M2.set q (.lst (vs ++ [v]))) p T b := (MH.get_set_other (Ne.symm pq)).trans s2
          exact hLo T b d (vs ++ [v]) _ m L p q Ms r hr hd hL rs3 (MH.get_set_same (MH.lt hq2)) hmq hpm lx2 (by omega) (by rw [List.length_append, List.length_singleton]; omega) hl hn
theorem ents_of {f : Nat} (hLo : LoopP n f) {T : List Nat} {a d : Nat} {M : MH} {L p : Nat} {r : Rv} (hr : rdEnts f T (a + 1) d [] = some r) (hd : d ≤ 60) (hL : 2 * (60 - d) + 11 ≤ L) (h : RS M p T a) (hl : T.length ≤ 16777216) (hn : T.length < n) :
    Rd p T M r (fnK (datF n) L e_Reading_entries [.ref p, .int d] M) := by
  obtain ⟨k, rfl⟩ : ∃ k, L = k + 3 := ⟨L - 3, by omega⟩
  rw [b_Reading_entries]
  unfold c_Reading_entries
  have s1 := h.stp (a + 1)
  have x1 := h.stpX (a + 1)
  generalize hM1 : stp M p T (a + 1) = M1 at s1 x1
  have s2 : RS (M1.push (.lst [])) p T (a + 1) := s1.le (Le.push _ _)
  have lo := hLo T (a + 1) d [] (M1.push (.lst [])) n (k + 2) p M1.n M1 r hr hd (by omega) s2 (MH.get_push_same _) (Nat.le_refl _) (MH.lt s1) (LeX.of (Le.push _ _)) (by omega) (Nat.zero_le _) hl hn
  have head : ∀ R : MS, mSeq INC (mSeq (mAsg (mApp mkLst mNil) (gSet 2)) R) (startM 3 [.ref p, .int d]) M = R (τE p d M1.n) (M1.push (.lst [])) := fun R => by
    refine (seq_nx (h.inc rfl)).trans ?_
    rw [hM1]
    exact seq_nx (asg_ok2 rfl)
  cases r with
  | error b =>
    obtain ⟨M2, e2, x2⟩ := lo
    exact ⟨M2, run_ex ((head _).trans (seq_ex e2)), x1.trans x2⟩
  | ok vb =>
    obtain ⟨v, b⟩ := vb
    obtain ⟨M2, fnd, c, e2, s3, rfl, hq, rfl, hf, x2⟩ := lo
    refine ⟨stp M2 p T (c + 1), run_rt ((head _).trans ((seq_nx e2).trans ((seq_nx (s3.inc rfl)).trans (seq_rt (ret_ok ?_))))), s3.stp _, (x1.trans x2).trans (s3.stpX _)⟩
    refine (app_ok (args1 (var_ok rfl))).trans ?_
    have hq' : (stp M2 p T (c + 1)).get M1.n = some (.lst fnd) := (s3.stpX (c + 1)).get hq (Nat.ne_of_gt (MH.lt s1))
    unfold fTupC
    dsimp only
    rw [hq']
    exact if_pos hf
theorem term_step {f : Nat} (hLo : LoopP n f) : TermP n (f + 1) := by
  intro T a d M L p r hr hd hL h hl hn
  obtain ⟨k, rfl⟩ : ∃ k, L = k + 6 := ⟨L - 6, by omega⟩
  rw [show k + 6 = (k + 3) + 3 from rfl, b_Reading_term]
  unfold c_Reading_term
  unfold rdTerm at hr
  have i0 : (startM 3 [.ref p, .int d])[0]? = some (.va (.ref p)) := rfl
  have tst : ∀ S : List Nat, mTru (mMethI (MTD n (k + 3 + 2)) "is_at" (mVar 0) (mCons (mK (.str S)) mNil)) (startM 3 [.ref p, .int d]) M = .ok (isAt T a S) M := fun S => tru_b (isat_L (by omega) h hl i0 (args1 rfl))
  by_cases h1 : isAt T a [40] = true
  · rw [if_pos h1] at hr
    have t1 := tst [40]
    rw [h1] at t1
    have t2 : mTest (m2 fEq (mVar 1) (mK (.int 60))) (startM 3 [.ref p, .int d]) M = .ok (decide (d = 60)) M := by
      refine test_ok ((op_ok (var_ok rfl) rfl).trans ?_)
      rw [fEq_int, decide_eq_decide.mpr (show ((d : Int) = 60) ↔ d = 60 by omega)]
    by_cases h2 : d = 60
    · rw [if_pos h2] at hr
      cases hr
      refine ⟨M, run_ex (τ' := startM 3 [.ref p, .int d]) (seq_ex ((if_t t1).trans (seq_ex ?_))), LeX.refl p M⟩
      rw [if_b t2, if_pos (decide_eq_true h2)]
      exact raise_at (args1 (h.at_ i0))
    · rw [if_neg h2] at hr
      have en := ents_of hLo (L := k + 5) hr (by omega) (by omega) h hl hn
      have ce : ∀ x, fnK (datF n) (k + 5) e_Reading_entries [.ref p, .int ((d + 1 : Nat) : Int)] M = x → mMethI (MTD n (k + 3 + 2)) "entries" (mVar 0) (mCons (m2 fPlus (mVar 1) (mK (.int 1))) mNil) (startM 3 [.ref p, .int d]) M = x := fun x e => by
        rw [h.meth i0 mt_entries (no_m (by decide) (by decide)), args1 ((op_ok (var_ok rfl) (show mK (.int 1) (startM 3 [.ref p, .int d]) M = .ok (.int 1) M from rfl)).trans (plus_int d 1))]
        exact e
      have pre : ∀ R : MS, mSeq (mIfS (mTest (m2 fEq (mVar 1) (mK (.int 60)))) (mSeq (mRaise (mMkI "Malformed" "at" (mCons (mFld FD "at" (mVar 0)) mNil))) mNext) mNext) R (startM 3 [.ref p, .int d]) M = R (startM 3 [.ref p, .int d]) M := fun R => by
        refine seq_nx ?_
        rw [if_b t2, if_neg (by rw [decide_eq_false h2]; decide)]
        rfl
      cases r with
      | error b =>
        obtain ⟨M2, e2, x2⟩ := en
        exact ⟨M2, run_ex (seq_ex ((if_t t1).trans ((pre _).trans (seq_ex (ret_ex (ce _ e2)))))), x2⟩
      | ok vb =>
        obtain ⟨v, b⟩ := vb
        obtain ⟨M2, e2, s2, x2⟩ := en
        exact ⟨M2, run_rt (seq_rt ((if_t t1).trans ((pre _).trans (seq_rt (ret_ok (ce _ e2)))))), s2, x2⟩
  · rw [if_neg h1] at hr
    have n1 : ∀ (A R : MS), mSeq (mIfS (mTru (mMethI (MTD n (k + 3 + 2)) "is_at" (mVar 0) (mCons (mK (.str [40])) mNil))) A mNext) R (startM 3 [.ref p, .int d]) M = R (startM 3 [.ref p, .int d]) M := fun A R => by
      refine seq_nx ?_
      rw [if_b (tst [40]), if_neg h1]
      rfl
    by_cases h2 : isAt T a [46] = true
    · rw [if_pos h2] at hr
      cases hr
      have t1 := tst [46]
      rw [h2] at t1
      exact ⟨stp M p T (a + 1), run_rt ((n1 _ _).trans (seq_rt ((if_t t1).trans ((seq_nx (h.inc i0)).trans (seq_rt (ret_ok rfl)))))), h.stp _, h.stpX _⟩
    · rw [if_neg h2] at hr
      have n2 : ∀ (A R : MS), mSeq (mIfS (mTru (mMethI (MTD n (k + 3 + 2)) "is_at" (mVar 0) (mCons (mK (.str [46])) mNil))) A mNext) R (startM 3 [.ref p, .int d]) M = R (startM 3 [.ref p, .int d]) M := fun A R => by
        refine seq_nx ?_
        rw [if_b (tst [46]), if_neg h2]
        rfl
      by_cases h3 : isAt T a SML = true
      · rw [if_pos h3] at hr
        cases hr
        have t1 := tst SML
        rw [h3] at t1
        obtain ⟨M2, e2, s2, x2⟩ := take_call (S := SML) (k := k) (A := mCons (mK (.str SML)) mNil) h hl hn i0 (args1 rfl)
        refine ⟨M2, run_rt ((n1 _ _).trans ((n2 _ _).trans (seq_rt ((if_t t1).trans ((seq_nx (asg_ok2 e2)).trans (seq_rt (ret_ok ?_))))))), s2, x2⟩
        generalize (T.drop a).take (runL T a SML) = w
        have iv : mVar 2 ((startM 3 [.ref p, .int d]).set 2 (.va (.str w))) M2 = .ok (.str w) M2 := rfl
        have tw : mTest (m2 fEq (mVar 2) (mK (.str NON))) ((startM 3 [.ref p, .int d]).set 2 (.va (.str w))) M2 = .ok (decide (w = NON)) M2 := test_ok ((op_ok iv rfl).trans (fEq_str _ _ _))
        rw [ife_b tw]
        by_cases hw : w = NON
        · rw [if_pos (decide_eq_true hw), if_pos hw]
          rfl
        · rw [if_neg (by rw [decide_eq_false hw]; decide), if_neg hw]
          rfl
      · rw [if_neg h3] at hr
        have n3 : ∀ (A R : MS), mSeq (mIfS (mTru (mMethI (MTD n (k + 3 + 2)) "is_at" (mVar 0) (mCons (mK (.str SML)) mNil))) A mNext) R (startM 3 [.ref p, .int d]) M = R (startM 3 [.ref p, .int d]) M := fun A R => by
          refine seq_nx ?_
          rw [if_b (tst SML), if_neg h3]
          rfl
        have er := Option.some.inj hr
        obtain ⟨k', rfl⟩ : ∃ k', k = k' + 1 := ⟨k - 1, by omega⟩
        have ii := integer_ok (k := k') h hl hn
        rw [er] at ii
        have ci : ∀ x, fnK (datF n) (k' + 6) e_Reading_integer [.ref p] M = x → mMethI (MTD n (k' + 1 + 3 + 2)) "integer" (mVar 0) mNil (startM 3 [.ref p, .int d]) M = x := fun x e => by
          rw [h.meth i0 mt_integer (no_m (by decide) (by decide))]
          exact e
        cases r with
        | error b =>
          obtain ⟨M2, e2, x2⟩ := ii
          exact ⟨M2, run_ex ((n1 _ _).trans ((n2 _ _).trans ((n3 _ _).trans (seq_ex (ret_ex (ci _ e2)))))), x2⟩
        | ok vb =>
          obtain ⟨v, b⟩ := vb
          obtain ⟨M2, e2, s2, x2⟩ := ii
          exact ⟨M2, run_rt ((n1 _ _).trans ((n2 _ _).trans ((n3 _ _).trans (seq_rt (ret_ok (ci _ e2)))))), s2, x2⟩
theorem both (n : Nat) : ∀ f : Nat, TermP n f ∧ LoopP n f
  | 0 => ⟨fun T a d M L p r h => (nomatch (show (none : Option Rv) = some r from h)), fun T a d vs M m L p q Ms r h => (nomatch (show (none : Option Rv) = some r from h))⟩
  | f + 1 => by
    obtain ⟨h1, h2⟩ := both n f
    exact ⟨term_step h2, loop_step h1 h2⟩
end
end Mine
end
section
set_option Elab.async false
set_option linter.all false
set_option maxRecDepth 100000
set_option maxHeartbeats 4000000
/-! KF6: read_term; a scan over the text. -/
namespace Mine
open PySem PySem.Spec MX
def RdT (M : MH) (r : Except Nat MV) (x : Res MV) : Prop := match r with
  | .ok v => ∃ M', x = .ok v M' ∧ Le M M'
  | .error b => ∃ M', x = .ex "Malformed" [("at", .int (b : Int))] M' ∧ Le M M'
/-- the whole text is one term -/
def whole (T : List Nat) : Rv → Except Nat MV
  | .error b => .error b
  | .ok (v, b) => if b < T.length then .error b else .ok v
section
variable {n : Nat}
theorem init_ok {M : MH} {p k : Nat} {T : List Nat} (h : M.get p = some (.ins "Reading" [])) : ∃ M', fnK (datF n) (k + 3) e_Reading_init [.ref p, .str T] M = .ok .non M' ∧ RS M' p T 0 ∧ LeX p M M' := by
  rw [b_Reading_init]
  unfold c_Reading_init
  have h1 : (M.set p (.ins "Reading" [("text", .str T)])).get p = some (.ins "Reading" [("text", .str T)]) := MH.get_set_same (MH.lt h)
  have p1 : putO FD "text" (.ref p) (.str T) M = some (M.set p (.ins "Reading" [("text", .str T)])) := by
    unfold putO
    dsimp only
    rw [h]
    dsimp only
    rw [fd_text]
    rfl
  have p2 : putO FD "at" (.ref p) (.int 0) (M.set p (.ins "Reading" [("text", .str T)])) = some ((M.set p (.ins "Reading" [("text", .str T)])).set p (.ins "Reading" [("text", .str T), ("at", .int 0)])) := by
    unfold putO
    dsimp only
    rw [h1]
    dsimp only
    rw [fd_at]
    rfl
  have s1 : mFldSet FD "text" (mVar 0) (mVar 1) (startM 2 [.ref p, .str T]) M = .nx (startM 2 [.ref p, .str T]) (M.set p (.ins "Reading" [("text", .str T)])) := by
    show (match putO FD "text" (.ref p) (.str T) M with
      | some M => Out.nx (startM 2 [.ref p, .str T]) M
      | none => .stuck) = _
    rw [p1]
  have s2 : mFldSet FD "at" (mVar 0) (mK (.int 0)) (startM 2 [.ref p, .str T]) (M.set p (.ins "Reading" [("text", .str T)])) = .nx (startM 2 [.ref p, .str T]) ((M.set p (.ins "Reading" [("text", .str T)])).set p (.ins "Reading" [("text", .str T), ("at", .int 0)])) := by
    show (match putO FD "at" (.ref p) (.int 0) (M.set p (.ins "Reading" [("text", .str T)])) with
      | some M => Out.nx (startM 2 [.ref p, .str T]) M
      | none => .stuck) = _
    rw [p2]
  exact ⟨_, run_nx ((seq_nx s1).trans ((seq_nx s2).trans next_nx)), MH.get_set_same (MH.lt h1), (LeX.set p M _).trans (LeX.set p _ _)⟩
theorem read_ok {M : MH} {L f : Nat} {T : List Nat} {r : Rv} (hr : rdTerm f T 0 0 = some r) (hL : 140 ≤ L) (hl : T.length ≤ 16777216) (hn : T.length < n) : RdT M (whole T r) (fnK (datF n) L e_read_term [.str T] M) := by
  obtain ⟨k, rfl⟩ : ∃ k, L = k + 5 := ⟨L - 5, by omega⟩
  rw [show k + 5 = (k + 2) + 3 from rfl, b_read_term]
  unfold c_read_term
  obtain ⟨M1, e1, h1, x1⟩ := init_ok (n := n) (k := k) (T := T) (MH.get_push_same (M := M) (.ins "Reading" []))
  have l1 : Le M M1 := LeX.le (Le.push M _) x1 (Nat.le_refl _)
  have mk : mMake "Reading" 2 (fnK (datF n) (k + 2 + 1) e_Reading_init) (mCons (mVar 0) mNil) (startM 3 [.str T]) M = .ok (.ref M.n) M1 := by
    unfold mMake
    rw [args1 (var_ok rfl)]
    show (if ([MV.str T] : List MV).length + 1 = 2 then (fnK (datF n) (k + 3) e_Reading_init [.ref M.n, .str T] (M.push (.ins "Reading" []))).bind _ else .stuck) = _
    rw [if_pos (show ([MV.str T] : List MV).length + 1 = 2 from rfl), e1]
    rfl
  have ct := (both n f).1 T 0 0 M1 (k + 4) M.n r hr (by omega) (by omega) h1 hl hn
  have cm : ∀ x, fnK (datF n) (k + 4) e_Reading_term [.ref M.n, .int 0] M1 = x → mMethI (MTD n (k + 2 + 2)) "term" (mVar 1) (mCons (mK (.int 0)) mNil) ((startM 3 [.str T]).set 1 (.va (.ref M.n))) M1 = x := fun x e => by
    rw [h1.meth rfl mt_term (no_m (by decide) (by decide))]
    exact e
  cases r with
  | error b =>
    obtain ⟨M2, e2, x2⟩ := ct
    exact ⟨M2, run_ex (τ' := (startM 3 [.str T]).set 1 (.va (.ref M.n))) ((seq_nx (asg_ok2 mk)).trans (seq_ex (asg_ex (cm _ e2)))), LeX.le l1 x2 (Nat.le_refl _)⟩
  | ok vb =>
    obtain ⟨v, b⟩ := vb
    obtain ⟨M2, e2, s2, x2⟩ := ct
    have l2 : Le M M2 := LeX.le l1 x2 (Nat.le_refl _)
    have lt : mTest (m2 fLt (mFld FD "at" (mVar 1)) (mApp fLen (mCons (mVar 0) mNil))) (((startM 3 [.str T]).set 1 (.va (.ref M.n))).set 2 (.va v)) M2 = .ok (decide (b < T.length)) M2 := by
      refine test_ok ((op_ok (s2.at_ rfl) ((app_ok (args1 (var_ok rfl))).trans (len_str hl))).trans ?_)
      rw [lt_int2, decide_eq_decide.mpr (show ((b : Int) < (T.length : Int)) ↔ b < T.length by omega)]
    show RdT M (if b < T.length then .error b else .ok v) _
    by_cases hb : b < T.length
    · rw [if_pos hb]
      refine ⟨M2, run_ex (τ' := ((startM 3 [.str T]).set 1 (.va (.ref M.n))).set 2 (.va v)) ((seq_nx (asg_ok2 mk)).trans ((seq_nx (asg_ok2 (cm _ e2))).trans (seq_ex ?_))), l2⟩
      rw [if_b lt, if_pos (decide_eq_true hb)]
      exact raise_at (args1 (s2.at_ rfl))
    · rw [if_neg hb]
      refine ⟨M2, run_rt ((seq_nx (asg_ok2 mk)).trans ((seq_nx (asg_ok2 (cm _ e2))).trans ((seq_nx (τ' := ((startM 3 [.str T]).set 1 (.va (.ref M.n))).set 2 (.va v)) (M' := M2) ?_).trans (seq_rt (ret_ok rfl))))), l2⟩
      rw [if_b lt, if_neg (by rw [decide_eq_false hb]; decide)]
      rfl
end
/-! ### the law's own scan -/
abbrev SCAN (x : Nat) (S : List Nat) : MS := mSeq (mIfS (mAnd (mTest (m2 fLt (mVar x) (mApp fLen (mCons (mVar 0) mNil)))) (mTest (m2 fIn (m2 fIx (mVar 0) (mVar x)) (mK (.str S))))) (mSeq (mAsg (m2 fPlus (mVar x) (mK (.int 1))) (gSet x)) mNext) mNext) mNext
theorem scan_body {x : Nat} {S T : List Nat} {b : Nat} {τ : MX.Loc} {M : MH} (hl : T.length ≤ 16777216) (h0 : τ[0]? = some (.va (.str T))) (hx : τ[x]? = some (.va (.int b))) : SCAN x S τ M = .nx (if isAt T b S = true then τ.set x (.va (.int ((b + 1 : Nat) : Int))) else τ) M := by
  have c1 : mTest (m2 fLt (mVar x) (mApp fLen (mCons (mVar 0) mNil))) τ M = .ok (decide (b < T.length)) M := by
    refine test_ok ((op_ok (var_ok hx) ((app_ok (args1 (var_ok h0))).trans (len_str hl))).trans ?_)
    rw [lt_int2, decide_eq_decide.mpr (show ((b : Int) < (T.length : Int)) ↔ b < T.length by omega)]
  by_cases hb : b < T.length
  · rw [decide_eq_true hb] at c1
    have eb : T[b]? = some T[b] := List.getElem?_eq_getElem hb
    have ix : m2 fIx (mVar 0) (mVar x) τ M = .ok (.str [T[b]]) M := by
      refine (op_ok (var_ok h0) (var_ok hx)).trans ?_
      unfold fIx
      dsimp only
      rw [if_pos hl, L2.atI_nat eb]
    have c2 : mTest (m2 fIn (m2 fIx (mVar 0) (mVar x)) (mK (.str S))) τ M = .ok (isAt T b S) M := by
      refine test_ok ((op_ok ix rfl).trans ?_)
      unfold isAt
      rw [eb]
      rfl
    cases q : isAt T b S with
    | true =>
      rw [if_pos rfl]
      rw [q] at c2
      refine (seq_nx ((if_t ((and_t c1).trans c2)).trans ((seq_nx (asg_ok2 ((op_ok (var_ok hx) rfl).trans (plus_int b 1)))).trans next_nx))).trans next_nx
    | false =>
      rw [if_neg (by decide)]
      rw [q] at c2
      exact (seq_nx ((if_f ((and_t c1).trans c2)).trans next_nx)).trans next_nx
  · rw [decide_eq_false hb] at c1
    have q : isAt T b S = false := by
      unfold isAt
      rw [List.getElem?_eq_none_iff.mpr (Nat.le_of_not_lt hb)]
    rw [q, if_neg (by decide)]
    exact (seq_nx ((if_f (and_f c1)).trans next_nx)).trans next_nx
end Mine
end
section
set_option Elab.async false
set_option linter.all false
set_option maxRecDepth 100000
set_option maxHeartbeats 4000000
/-! KF7: the law's own reading of an integer. -/
namespace Mine
open PySem PySem.Spec MX
abbrev BAD : List Nat := [98, 97, 100]
theorem scan_for {x y : Nat} {S T : List Nat} {M : MH} (hl : T.length ≤ 16777216) (x0 : 0 ≠ x) (y0 : 0 ≠ y) (xy : x ≠ y) : ∀ (m i b fuel : Nat) (τ : MX.Loc), i + m = T.length → m < fuel → τ[0]? = some (.va (.str T)) → τ[x]? = some (.va (.int b)) →
    ∃ τ', forGo (.rng 0 T.length) (gSet y) (SCAN x S) fuel i τ M = .nx τ' M ∧ τ'[x]? = some (.va (.int ((b + min m (runL T b S) : Nat) : Int))) ∧ ∀ j, j ≠ x → j ≠ y → τ'[j]? = τ[j]? := by
  intro m
  induction m with
  | zero =>
    intro i b fuel τ hi hf h0 hx
    exact ⟨τ, for_stop hf (end_rng (by omega)), by rw [Nat.zero_min]; exact hx, fun _ _ _ => rfl⟩
  | succ m ih =>
    intro i b fuel τ hi hf h0 hx
    obtain ⟨fuel, rfl⟩ : ∃ f, fuel = f + 1 := ⟨fuel - 1, by omega⟩
    have h0' : (τ.set y (.va (.int i)))[0]? = some (.va (.str T)) := by rw [List.getElem?_set_ne (Ne.symm y0)]; exact h0
    have hx' : (τ.set y (.va (.int i)))[x]? = some (.va (.int b)) := by rw [List.getElem?_set_ne (Ne.symm xy)]; exact hx
    have step := for_nx (n := fuel) (next_rng (M := M) (show i < T.length by omega)) (show gSet y (.int i) τ M = .ok (τ.set y (.va (.int i))) M from rfl) (scan_body (S := S) hl h0' hx')
    rw [step]
    cases q : isAt T b S with
    | true =>
      rw [if_pos rfl]
      have hx2 : ((τ.set y (.va (.int i))).set x (.va (.int ((b + 1 : Nat) : Int))))[x]? = some (.va (.int ((b + 1 : Nat) : Int))) := List.getElem?_set_self (List.getElem?_eq_some_iff.mp hx').1
      have h02 : ((τ.set y (.va (.int i))).set x (.va (.int ((b + 1 : Nat) : Int))))[0]? = some (.va (.str T)) := by rw [List.getElem?_set_ne (Ne.symm x0)]; exact h0'
      obtain ⟨τ', e1, e2, e3⟩ := ih (i + 1) (b + 1) fuel _ (by omega) (by omega) h02 hx2
      refine ⟨τ', e1, ?_, fun j j1 j2 => ?_⟩
      · rw [e2, run_t q]
        have : b + 1 + min m (runL T (b + 1) S) = b + min (m + 1) (runL T (b + 1) S + 1) := by omega
        rw [this]
      · rw [e3 j j1 j2, List.getElem?_set_ne (Ne.symm j1), List.getElem?_set_ne (Ne.symm j2)]
    | false =>
      rw [if_neg (by decide)]
      obtain ⟨τ', e1, e2, e3⟩ := ih (i + 1) b fuel _ (by omega) (by omega) h0' hx'
      refine ⟨τ', e1, ?_, fun j j1 j2 => ?_⟩
      · rw [e2, run_f q, Nat.min_zero, Nat.min_zero]
      · rw [e3 j j1 j2, List.getElem?_set_ne (Ne.symm j2)]
/-- the scan as a statement -/
theorem scan_ok {x y n b : Nat} {S T : List Nat} {M : MH} {τ : MX.Loc} (hl : T.length ≤ 16777216) (hn : T.length < n) (x0 : 0 ≠ x) (y0 : 0 ≠ y) (xy : x ≠ y) (h0 : τ[0]? = some (.va (.str T))) (hx : τ[x]? = some (.va (.int b))) :
    ∃ τ', mFor n (rng1 (mCons (mApp fLen (mCons (mVar 0) mNil)) mNil)) (gSet y) (SCAN x S) τ M = .nx τ' M ∧ τ'[x]? = some (.va (.int ((b + runL T b S : Nat) : Int))) ∧ ∀ j, j ≠ x → j ≠ y → τ'[j]? = τ[j]? := by
  have it : rng1 (mCons (mApp fLen (mCons (mVar 0) mNil)) mNil) τ M = .ok (.rng 0 T.length) M := by
    rw [rng1_ok (args1 ((app_ok (args1 (var_ok h0))).trans (len_str hl))) (by unfold i62; rw [decide_eq_true (by omega), decide_eq_true (by omega)]; rfl)]
    rfl
  obtain ⟨τ', e1, e2, e3⟩ := scan_for (x := x) (y := y) (S := S) (M := M) hl x0 y0 xy T.length 0 b n τ (by omega) hn h0 hx
  refine ⟨τ', (for_ok it).trans e1, ?_, e3⟩
  rw [e2]
  have := run_le T b S
  rw [show min T.length (runL T b S) = runL T b S by omega]
theorem sgn_is (T : List Nat) (b c : Nat) : decide (sgn T b = [c]) = isAt T b [c] := by
  unfold isAt
  cases e : T[b]? with
  | none => rw [sgn_none e]; rfl
  | some d =>
    rw [sgn_some e]
    dsimp only
    exact decide_eq_decide.mpr (by simp)
section
variable {T : List Nat} {τ : MX.Loc} {M : MH} {x b : Nat}
theorem sl1 (hl : T.length ≤ 16777216) (h0 : τ[0]? = some (.va (.str T))) (hx : τ[x]? = some (.va (.int b))) : mSl (mVar 0) (mPart (mVar x)) (mPart (m2 fPlus (mVar x) (mK (.int 1)))) τ M = .ok (.str (sgn T b)) M := by
  refine (sl_ok (var_ok h0) (part_ok (var_ok hx)) (part_ok ((op_ok (var_ok hx) rfl).trans (plus_int b 1)))).trans ?_
  show (if T.length ≤ 16777216 then (Res.ok (MV.str (cutL T (some (b : Int)) (some ((b : Int) + 1)))) M : Res MV) else .stuck) = _
  rw [if_pos hl, cut_sgn]
theorem is1 (hl : T.length ≤ 16777216) (h0 : τ[0]? = some (.va (.str T))) (hx : τ[x]? = some (.va (.int b))) (c : Nat) : mTest (m2 fEq (mSl (mVar 0) (mPart (mVar x)) (mPart (m2 fPlus (mVar x) (mK (.int 1))))) (mK (.str [c]))) τ M = .ok (isAt T b [c]) M := by
  refine test_ok ((op_ok (sl1 hl h0 hx) rfl).trans ?_)
  rw [fEq_str, sgn_is]
def lawV : Rv → List MV
  | .ok (v, b) => [v, .int b]
  | .error b => [.str BAD, .int b]
/-- the law's answer: a list -/
def LR (M : MH) (r : Rv) (x : Res MV) : Prop := ∃ M' q, x = .ok (.ref q) M' ∧ M'.get q = some (.lst (lawV r)) ∧ Le M M'
theorem lst2 {e f : ME} {v w : MV} (h : e τ M = .ok v M) (h2 : f τ M = .ok w M) : mApp mkLst (mCons e (mCons f mNil)) τ M = .ok (.ref M.n) (M.push (.lst [v, w])) := by
  rw [app_ok (argsC h (args1 h2))]
  rfl
theorem ret2 {e f : ME} {v w : MV} {R : MS} (h : e τ M = .ok v M) (h2 : f τ M = .ok w M) : mSeq (mRet (mApp mkLst (mCons e (mCons f mNil)))) R τ M = .rt (.ref M.n) (M.push (.lst [v, w])) := seq_rt (ret_ok (lst2 h h2))
theorem LR.mk {r : Rv} {v w : MV} (h : lawV r = [v, w]) : LR M r (.ok (.ref M.n) (M.push (.lst [v, w]))) := ⟨_, _, rfl, by rw [h]; exact MH.get_push_same _, Le.push _ _⟩
end
end Mine
end
section
set_option Elab.async false
set_option linter.all false
set_option maxRecDepth 100000
set_option maxHeartbeats 4000000
/-! KF8: the law's own reading of an integer, the whole. -/
namespace Mine
open PySem PySem.Spec MX
section
variable {T : List Nat} {M : MH} {a n k : Nat}
theorem isAt_head {T : List Nat} {a c : Nat} (h : isAt T a [c] = true) : T.drop a = c :: T.drop (a + 1) := by
  unfold isAt at h
  split at h
  · rename_i d e
    obtain ⟨hl, e⟩ := List.getElem?_eq_some_iff.mp e
    rw [List.drop_eq_getElem_cons hl, e]
    simp only [decide_eq_true_eq, List.mem_singleton] at h
    rw [h]
  · cases h
theorem intC_minus {cs : List Nat} (h : NumText.AllDigits cs) (h1 : cs ≠ []) (h2 : cs.length ≤ 600) : fIntC [.str (45 :: cs)] M = .ok (.int (-worth cs)) M := by
  unfold fIntC
  dsimp only
  rw [if_pos (by rw [List.length_cons]; omega), intText_neg (x := ⟨(45 :: cs).toArray⟩) (cs := cs) (by simp) h h1 (by rw [str_len, List.length_cons]; omega)]
  rfl
theorem law_integer_ok (hl : T.length ≤ 16777216) (hn : T.length < n) : LR M (rdInt T a) (fnK (datF n) (k + 3) e__law_integer [.str T, .int a] M) := by
  rw [b__law_integer]
  unfold c__law_integer
  unfold rdInt
  dsimp only
  generalize hs : (if isAt T a [45] = true then a + 1 else a) = s
  generalize hτ1 : (startM 5 [.str T, .int a]).set 2 (.va (.int a)) = τ1
  have a0 : τ1[0]? = some (.va (.str T)) := by rw [← hτ1]; rfl
  have a1 : τ1[1]? = some (.va (.int a)) := by rw [← hτ1]; rfl
  have a2 : τ1[2]? = some (.va (.int a)) := by rw [← hτ1]; rfl
  have al : τ1.length = 5 := by rw [← hτ1]; rfl
  have s1 : ∀ R : MS, mSeq (mAsg (mVar 1) (gSet 2)) R (startM 5 [.str T, .int a]) M = R τ1 M := fun R => (seq_nx (asg_ok2 (var_ok rfl))).trans (by rw [hτ1])
  have t1 := is1 (M := M) hl a0 a1 45
  -- the answer of a minus and a zero
  by_cases hz : (isAt T a [45] && isAt T s [48]) = true
  · rw [if_pos (by rw [hz, Bool.or_true])]
    rw [Bool.and_eq_true] at hz
    rw [if_pos hz.1] at hs
    subst hs
    rw [hz.1] at t1
    have b0 : (τ1.set 1 (.va (.int ((a + 1 : Nat) : Int))))[0]? = some (.va (.str T)) := by rw [List.getElem?_set_ne (by decide)]; exact a0
    have b1 : (τ1.set 1 (.va (.int ((a + 1 : Nat) : Int))))[1]? = some (.va (.int ((a + 1 : Nat) : Int))) := List.getElem?_set_self (by omega)
    have t2 := is1 (M := M) hl b0 b1 48
    rw [hz.2] at t2
    rw [run_rt ((s1 _).trans (seq_rt ((if_t t1).trans ((seq_nx (asg_ok2 ((op_ok (var_ok a1) rfl).trans (plus_int a 1)))).trans (seq_rt ((if_t t2).trans (ret2 rfl (var_ok b1))))))))]
    exact LR.mk rfl
  · -- on to the figures
    obtain ⟨τ2, s2, c0, c1, c2, cl⟩ : ∃ τ2, (∀ R : MS, mSeq (mIfS (mTest (m2 fEq (mSl (mVar 0) (mPart (mVar 1)) (mPart (m2 fPlus (mVar 1) (mK (.int 1))))) (mK (.str [45])))) (mSeq (mAsg (m2 fPlus (mVar 1) (mK (.int 1))) (gSet 1))
        (mSeq (mIfS (mTest (m2 fEq (mSl (mVar 0) (mPart (mVar 1)) (mPart (m2 fPlus (mVar 1) (mK (.int 1))))) (mK (.str [48])))) (mSeq (mRet (mApp mkLst (mCons (mK (.str BAD)) (mCons (mVar 1) mNil)))) mNext) mNext) mNext)) mNext) R τ1 M = R τ2 M) ∧
        τ2[0]? = some (.va (.str T)) ∧ τ2[1]? = some (.va (.int s)) ∧ τ2[2]? = some (.va (.int a)) ∧ τ2.length = 5 := by
      cases q : isAt T a [45] with
      | false =>
        rw [q, if_neg (by decide)] at hs
        subst hs
        rw [q] at t1
        exact ⟨τ1, fun R => seq_nx ((if_f t1).trans next_nx), a0, a1, a2, al⟩
      | true =>
        rw [q, if_pos rfl] at hs
        subst hs
        rw [q] at t1 hz
        have z : isAt T (a + 1) [48] = false := by simpa using hz
        have b0 : (τ1.set 1 (.va (.int ((a + 1 : Nat) : Int))))[0]? = some (.va (.str T)) := by rw [List.getElem?_set_ne (by decide)]; exact a0
        have b1 : (τ1.set 1 (.va (.int ((a + 1 : Nat) : Int))))[1]? = some (.va (.int ((a + 1 : Nat) : Int))) := List.getElem?_set_self (by omega)
        have t2 := is1 (M := M) hl b0 b1 48
        rw [z] at t2
        refine ⟨_, fun R => seq_nx ((if_t t1).trans ((seq_nx (asg_ok2 ((op_ok (var_ok a1) rfl).trans (plus_int a 1)))).trans ((seq_nx ((if_f t2).trans next_nx)).trans next_nx))), b0, b1, ?_, ?_⟩
        · rw [List.getElem?_set_ne (by decide)]; exact a2
        · rw [List.length_set]; exact al
    generalize hτ3 : τ2.set 3 (.va (.int s)) = τ3
    have d0 : τ3[0]? = some (.va (.str T)) := by rw [← hτ3, List.getElem?_set_ne (by decide)]; exact c0
    have d1 : τ3[1]? = some (.va (.int s)) := by rw [← hτ3, List.getElem?_set_ne (by decide)]; exact c1
    have d2 : τ3[2]? = some (.va (.int a)) := by rw [← hτ3, List.getElem?_set_ne (by decide)]; exact c2
    have d3 : τ3[3]? = some (.va (.int s)) := by rw [← hτ3]; exact List.getElem?_set_self (by omega)
    have s3 : ∀ R : MS, mSeq (mAsg (mVar 1) (gSet 3)) R τ2 M = R τ3 M := fun R => (seq_nx (asg_ok2 (var_ok c1))).trans (by rw [hτ3])
    obtain ⟨τ4, e4, g1, gr⟩ := scan_ok (x := 1) (y := 4) (S := FIG) (M := M) hl hn (by decide) (by decide) (by decide) d0 d1
    have g0 : τ4[0]? = some (.va (.str T)) := (gr 0 (by decide) (by decide)).trans d0
    have g2 : τ4[2]? = some (.va (.int a)) := (gr 2 (by decide) (by decide)).trans d2
    have g3 : τ4[3]? = some (.va (.int s)) := (gr 3 (by decide) (by decide)).trans d3
    have hr := run_le T s FIG
    have head : ∀ R : MS, (mSeq (mAsg (mVar 1) (gSet 2)) (mSeq (mIfS (mTest (m2 fEq (mSl (mVar 0) (mPart (mVar 1)) (mPart (m2 fPlus (mVar 1) (mK (.int 1))))) (mK (.str [45])))) (mSeq (mAsg (m2 fPlus (mVar 1) (mK (.int 1))) (gSet 1))
        (mSeq (mIfS (mTest (m2 fEq (mSl (mVar 0) (mPart (mVar 1)) (mPart (m2 fPlus (mVar 1) (mK (.int 1))))) (mK (.str [48])))) (mSeq (mRet (mApp mkLst (mCons (mK (.str BAD)) (mCons (mVar 1) mNil)))) mNext) mNext) mNext)) mNext)
        (mSeq (mAsg (mVar 1) (gSet 3)) (mSeq (mFor n (rng1 (mCons (mApp fLen (mCons (mVar 0) mNil)) mNil)) (gSet 4) (SCAN 1 FIG)) R)))) (startM 5 [.str T, .int a]) M = R τ4 M := fun R => (s1 _).trans ((s2 _).trans ((s3 _).trans (seq_nx e4)))
    generalize hR : runL T s FIG = r at g1 hr
    have q1 : mTest (m2 fEq (mVar 1) (mVar 3)) τ4 M = .ok (decide (r = 0)) M := by
      refine test_ok ((op_ok (var_ok g1) (var_ok g3)).trans ?_)
      rw [fEq_int, decide_eq_decide.mpr (show (((s + r : Nat) : Int) = (s : Int)) ↔ r = 0 by omega)]
    by_cases h1 : r = 0
    · have hi : isAt T s FIG = false := by
        cases q : isAt T s FIG with
        | false => rfl
        | true => rw [run_t q] at hR; omega
      rw [if_pos (by rw [hi]; rfl)]
      rw [decide_eq_true h1] at q1
      rw [run_rt ((head _).trans (seq_rt ((if_t q1).trans (ret2 rfl (var_ok g1)))))]
      subst h1
      exact LR.mk rfl
    · have hi : isAt T s FIG = true := by
        cases q : isAt T s FIG with
        | true => rfl
        | false => rw [run_f q] at hR; omega
      rw [if_neg (by rw [hi]; simpa using hz)]
      rw [decide_eq_false h1] at q1
      have hs2 := isAt_lt hi
      have eb : T[s]? = some T[s] := List.getElem?_eq_getElem hs2
      have ix : m2 fIx (mVar 0) (mVar 3) τ4 M = .ok (.str [T[s]]) M := by
        refine (op_ok (var_ok g0) (var_ok g3)).trans ?_
        unfold fIx
        dsimp only
        rw [if_pos hl, L2.atI_nat eb]
      have z0 : mTest (m2 fEq (m2 fIx (mVar 0) (mVar 3)) (mK (.str [48]))) τ4 M = .ok (isAt T s [48]) M := by
        refine test_ok ((op_ok ix rfl).trans ?_)
        rw [fEq_str, ← sgn_is, sgn_some eb]
      have z1 : mTest (m2 fGt (mVar 1) (m2 fPlus (mVar 3) (mK (.int 1)))) τ4 M = .ok (decide (1 < r)) M := by
        refine test_ok ((op_ok (var_ok g1) ((op_ok (var_ok g3) rfl).trans (plus_int s 1))).trans ?_)
        rw [gt_int, decide_eq_decide.mpr (show ((s : Int) + 1 < ((s + r : Nat) : Int)) ↔ 1 < r by omega)]
      have z2 : mTest (m2 fGt (m2 fMinus (mVar 1) (mVar 3)) (mK (.int 20))) τ4 M = .ok (decide (20 < r)) M := by
        refine test_ok ((op_ok ((op_ok (var_ok g1) (var_ok g3)).trans (show fMinus (.int ((s + r : Nat) : Int)) (.int (s : Int)) M = .ok (.int (((s + r : Nat) : Int) - (s : Int))) M from rfl)) rfl).trans ?_)
        rw [gt_int, decide_eq_decide.mpr (show ((20 : Int) < ((s + r : Nat) : Int) - (s : Int)) ↔ 20 < r by omega)]
      have n1 : ∀ (A R : MS), mSeq (mIfS (mTest (m2 fEq (mVar 1) (mVar 3))) A mNext) R τ4 M = R τ4 M := fun A R => seq_nx ((if_f q1).trans next_nx)
      by_cases h2 : (isAt T s [48] && decide (1 < r)) = true
      · rw [if_pos h2]
        have c := and_ok z0 z1
        rw [h2] at c
        rw [run_rt ((head _).trans ((n1 _ _).trans (seq_rt ((if_t c).trans (ret2 rfl ((op_ok (var_ok g3) rfl).trans (plus_int s 1)))))))]
        exact LR.mk rfl
      · rw [if_neg h2]
        have c := and_ok z0 z1
        rw [show (isAt T s [48] && decide (1 < r)) = false by simpa using h2] at c
        have n2 : ∀ (A R : MS), mSeq (mIfS (mAnd (mTest (m2 fEq (m2 fIx (mVar 0) (mVar 3)) (mK (.str [48])))) (mTest (m2 fGt (mVar 1) (m2 fPlus (mVar 3) (mK (.int 1)))))) A mNext) R τ4 M = R τ4 M := fun A R => seq_nx ((if_f c).trans next_nx)
        by_cases h3 : 20 < r
        · rw [if_pos h3]
          rw [decide_eq_true h3] at z2
          rw [run_rt ((head _).trans ((n1 _ _).trans ((n2 _ _).trans (seq_rt ((if_t z2).trans (ret2 rfl ((op_ok (var_ok g3) rfl).trans (plus_int s 20))))))))]
          exact LR.mk rfl
        · rw [if_neg h3]
          rw [decide_eq_false h3] at z2
          have n3 : ∀ (A R : MS), mSeq (mIfS (mTest (m2 fGt (m2 fMinus (mVar 1) (mVar 3)) (mK (.int 20)))) A mNext) R τ4 M = R τ4 M := fun A R => seq_nx ((if_f z2).trans next_nx)
          have dig := run_digits T s
          rw [hR] at dig
          have hlen : ((T.drop s).take r).length = r := by rw [List.length_take, List.length_drop]; omega
          have hne : (T.drop s).take r ≠ [] := fun e => by rw [e] at hlen; simp at hlen; omega
          have cut : mSl (mVar 0) (mPart (mVar 2)) (mPart (mVar 1)) τ4 M = .ok (.str ((T.drop a).take (s + r - a))) M := by
            refine (sl_ok (var_ok g0) (part_ok (var_ok g2)) (part_ok (var_ok g1))).trans ?_
            show (if T.length ≤ 16777216 then (Res.ok (MV.str (cutL T (some (a : Int)) (some ((s + r : Nat) : Int)))) M : Res MV) else .stuck) = _
            rw [if_pos hl, cut_nn]
          have val : mApp fIntC (mCons (mSl (mVar 0) (mPart (mVar 2)) (mPart (mVar 1))) mNil) τ4 M = .ok (.int (if isAt T a [45] = true then -worth ((T.drop s).take r) else worth ((T.drop s).take r))) M := by
            rw [app_ok (args1 cut)]
            cases q : isAt T a [45] with
            | true =>
              rw [q, if_pos rfl] at hs
              subst hs
              rw [isAt_head q, show a + 1 + r - a = r + 1 by omega, List.take_succ_cons, if_pos rfl]
              exact intC_minus dig hne (by omega)
            | false =>
              rw [q, if_neg (by decide)] at hs
              subst hs
              rw [show a + r - a = r by omega, if_neg (by decide)]
              exact intC_digits dig hne (by omega)
          rw [run_rt ((head _).trans ((n1 _ _).trans ((n2 _ _).trans ((n3 _ _).trans (ret2 val (var_ok g1))))))]
          exact LR.mk rfl
end
end Mine
end
section
set_option Elab.async false
set_option linter.all false
set_option maxRecDepth 100000
set_option maxHeartbeats 4000000
/-! KF9: the values read are plain data. -/
namespace Mine
open PySem PySem.Spec MX
/-- plain data, nested m deep at most -/
def Pl : Nat → MV → Prop
  | _, .non => True
  | _, .int _ => True
  | _, .str w => ∀ c ∈ w, c < 1114112
  | m + 1, .tup vs => ∀ v ∈ vs, Pl m v
  | _, _ => False
theorem Pl.str {m : Nat} {w : List Nat} : Pl m (.str w) ↔ ∀ c ∈ w, c < 1114112 := by cases m <;> exact Iff.rfl
theorem Pl.tup {m : Nat} {vs : List MV} (h : ∀ v ∈ vs, Pl m v) : Pl (m + 1) (.tup vs) := h
theorem Pl.step : ∀ {m : Nat} {v : MV}, Pl m v → Pl (m + 1) v
  | m, .non, _ => trivial
  | m, .int _, _ => trivial
  | m, .str w, h => Pl.str.mpr (Pl.str.mp h)
  | m + 1, .tup vs, h => fun v hv => Pl.step (show Pl m v from h v hv)
  | 0, .tup _, h => h.elim
  | 0, .bl _, h => h.elim
  | 0, .fro _, h => h.elim
  | 0, .ref _, h => h.elim
  | 0, .ty _, h => h.elim
  | 0, .glo _, h => h.elim
  | m + 1, .bl _, h => h.elim
  | m + 1, .fro _, h => h.elim
  | m + 1, .ref _, h => h.elim
  | m + 1, .ty _, h => h.elim
  | m + 1, .glo _, h => h.elim
theorem Pl.mono {m m' : Nat} {v : MV} (h : Pl m v) (hm : m ≤ m') : Pl m' v := by
  induction m' with
  | zero =>
    have : m = 0 := by omega
    subst this
    exact h
  | succ m' ih =>
    by_cases e : m = m' + 1
    · subst e; exact h
    · exact (ih (by omega)).step
/-- its data: the same of every heap -/
theorem Pl.data : ∀ {m : Nat} {v : MV}, Pl m v → ∃ d : PyData, (∀ k M, m < k → snap k M v = some d) ∧ d.canLay0 = true ∧ d.depth ≤ m ∧ ((∀ w, v ≠ .str w) → ∀ w, PyData.eqv d (.str w) = false)
  | m, .non, _ => ⟨.none, fun k M h => (match k, h with | k + 1, _ => rfl), rfl, Nat.zero_le _, fun _ _ => rfl⟩
  | m, .int i, _ => ⟨.int i, fun k M h => (match k, h with | k + 1, _ => rfl), rfl, Nat.zero_le _, fun _ _ => rfl⟩
  | m, .str w, h => ⟨.str ⟨w.toArray⟩, fun k M h => (match k, h with | k + 1, _ => rfl), by
      have h := Pl.str.mp h
      show PyData.strOk ⟨w.toArray⟩ = true
      unfold PyData.strOk
      rw [Array.all_eq_true]
      intro i hi
      have hi' : i < w.length := by simpa using hi
      have : w[i] < 1114112 := h _ (List.getElem_mem hi')
      simpa using this, Nat.zero_le _, fun hn => absurd rfl (hn w)⟩
  | m + 1, .tup vs, h => by
    have key : ∀ us : List MV, (∀ v ∈ us, Pl m v) → ∃ ds : List PyData, (∀ k M, m < k → allO (snap k M) us = some ds) ∧ PyData.canLayAll0 ds = true ∧ PyData.depthAll ds ≤ m := by
      intro us
      induction us with
      | nil => intro _; exact ⟨[], fun k M _ => rfl, rfl, Nat.zero_le _⟩
      | cons u us ih =>
        intro hu
        obtain ⟨ds, e1, e2, e3⟩ := ih fun v hv => hu v (List.mem_cons_of_mem _ hv)
        obtain ⟨d, f1, f2, f3, _⟩ := Pl.data (hu u (List.mem_cons_self ..))
        refine ⟨d :: ds, fun k M hk => ?_, ?_, ?_⟩
        · unfold allO
          rw [f1 k M hk]
          show (allO (snap k M) us).map (d :: ·) = _
          rw [e1 k M hk]
          rfl
        · show (d.canLay0 && PyData.canLayAll0 ds) = true
          rw [f2, e2]
          rfl
        · show max d.depth (PyData.depthAll ds) ≤ m
          omega
    obtain ⟨ds, e1, e2, e3⟩ := key vs h
    refine ⟨.tuple ds, fun k M hk => ?_, e2, ?_, fun _ _ => rfl⟩
    · match k, hk with
      | k + 1, hk =>
        show (allO (snap k M) vs).map PyData.tuple = _
        rw [e1 k M (by omega)]
        rfl
    · show PyData.depthAll ds + 1 ≤ m + 1
      omega
  | 0, .tup _, h => h.elim
  | 0, .bl _, h => h.elim
  | 0, .fro _, h => h.elim
  | 0, .ref _, h => h.elim
  | 0, .ty _, h => h.elim
  | 0, .glo _, h => h.elim
  | m + 1, .bl _, h => h.elim
  | m + 1, .fro _, h => h.elim
  | m + 1, .ref _, h => h.elim
  | m + 1, .ty _, h => h.elim
  | m + 1, .glo _, h => h.elim
theorem bad_data : (PyData.str ⟨BAD.toArray⟩).canLay0 = true := by decide +kernel
def badV : MV → Bool
  | .str w => decide (w = BAD)
  | _ => false
/-- v == 'bad' -/
theorem eq_bad {m : Nat} {v : MV} {M : MH} (h : Pl m v) (hm : m ≤ 60) : fEq v (.str BAD) M = .ok (.bl (badV v)) M := by
  by_cases hs : ∃ w, v = .str w
  · obtain ⟨w, rfl⟩ := hs
    exact fEq_str M w BAD
  · have hs' : ∀ w, v ≠ .str w := fun w e => hs ⟨w, e⟩
    obtain ⟨d, e1, e2, e3, e4⟩ := h.data
    have ev : fEqV M v (.str BAD) = fEqB M v (.str BAD) := by
      cases v with
      | str w => exact absurd rfl (hs' w)
      | _ => rfl
    have er : (badV v) = false := by
      cases v with
      | str w => exact absurd rfl (hs' w)
      | _ => rfl
    unfold fEq
    rw [ev, er]
    unfold fEqB
    rw [e1 200 M (by omega)]
    show (match (if (SeqAt.shaped d && SeqAt.shaped (.str ⟨BAD.toArray⟩)) = true then some (PyData.eqv d (.str ⟨BAD.toArray⟩)) else none) with
      | some b => Res.ok (MV.bl b) M
      | none => .stuck) = _
    have s1 : SeqAt.shaped d = true := by
      unfold SeqAt.shaped
      rw [e2, decide_eq_true (show d.depth ≤ 64 by omega)]
      rfl
    have s2 : SeqAt.shaped (.str ⟨BAD.toArray⟩) = true := by
      unfold SeqAt.shaped
      rw [bad_data]
      rfl
    rw [s1, s2, e4 hs']
    rfl
def isStrV : MV → Bool
  | .str _ => true
  | _ => false
theorem isi_str {m : Nat} {v : MV} {M : MH} (h : Pl m v) : fIsi [v, .ty "str"] M = .ok (.bl (isStrV v)) M := by
  cases v with
  | non => rfl
  | int i => rfl
  | str w => rfl
  | tup vs => rfl
  | _ => cases m <;> exact h.elim
theorem rdInt_int {T : List Nat} {a b : Nat} {v : MV} (h : rdInt T a = .ok (v, b)) : ∃ i, v = .int i := by
  unfold rdInt at h
  dsimp only at h
  generalize (if isAt T a [45] = true then a + 1 else a) = s at h
  split at h
  · cases h
  · split at h
    · cases h
    · split at h
      · cases h
      · injection h with h
        injection h with h1 h2
        exact ⟨_, h1.symm⟩
mutual
theorem rdTerm_pl : ∀ (f : Nat) {T : List Nat} {a d b : Nat} {v : MV}, d ≤ 60 → rdTerm f T a d = some (.ok (v, b)) → Pl (60 - d) v
  | 0, _, _, _, _, _, _, h => by cases h
  | f + 1, T, a, d, b, v, hd, h => by
    unfold rdTerm at h
    split at h
    · split at h
      · cases h
      · have z := rdEnts_pl f (by omega) (by omega) (fun x hx => by cases hx) h
        rw [show 60 - (d + 1) + 1 = 60 - d by omega] at z
        exact z
    · split at h
      · cases h
        exact Pl.str.mpr fun c hc => by cases hc
      · split at h
        · injection h with h
          injection h with h
          injection h with h1 h2
          rw [← h1]
          split
          · exact (show Pl 0 .non from trivial).mono (Nat.zero_le _)
          · refine Pl.str.mpr fun c hc => ?_
            rw [take_run] at hc
            have := takeWhile_all _ c hc
            simp only [decide_eq_true_eq, List.mem_cons, List.mem_nil_iff, or_false] at this
            omega
        · obtain ⟨i, rfl⟩ := rdInt_int (Option.some.inj h)
          exact (show Pl 0 (.int i) from trivial).mono (Nat.zero_le _)
theorem rdEnts_pl : ∀ (f : Nat) {T : List Nat} {a d b : Nat} {vs : List MV} {v : MV}, d ≤ 60 → 1 ≤ d → (∀ x ∈ vs, Pl (60 - d) x) → rdEnts f T a d vs = some (.ok (v, b)) → Pl (60 - d + 1) v
  | 0, _, _, _, _, _, _, _, _, _, h => by cases h
  | f + 1, T, a, d, b, vs, v, hd, hd1, hv, h => by
    unfold rdEnts at h
    split at h
    · cases h
      exact hv
    · split at h
      · cases h
      · split at h
        · cases h
        · cases h
        · rename_i v' b' e
          have z := rdTerm_pl f hd e
          refine rdEnts_pl f hd hd1 (fun x hx => ?_) h
          rcases List.mem_append.mp hx with hx | hx
          · exact hv x hx
          · rw [List.mem_singleton.mp hx]
            exact z
end
/-- no word of the text is bad -/
def NoBad (T : List Nat) : Prop := ∀ a, (T.drop a).take 3 ≠ BAD
theorem rdTerm_nb {f : Nat} {T : List Nat} {a d b : Nat} {v : MV} (hT : NoBad T) (h : rdTerm f T a d = some (.ok (v, b))) : v ≠ .str BAD := by
  cases f with
  | zero => cases h
  | succ f =>
    unfold rdTerm at h
    split at h
    · split at h
      · cases h
      · -- a tuple
        have tup : ∀ (f : Nat) (a d : Nat) (vs : List MV) (v : MV) (b : Nat), rdEnts f T a d vs = some (.ok (v, b)) → ∃ us, v = .tup us := by
          intro f
          induction f with
          | zero => intro a d vs v b h; cases h
          | succ f ih =>
            intro a d vs v b h
            unfold rdEnts at h
            split at h
            · cases h; exact ⟨_, rfl⟩
            · split at h
              · cases h
              · split at h
                · cases h
                · cases h
                · exact ih _ _ _ _ _ h
        obtain ⟨us, rfl⟩ := tup _ _ _ _ _ _ h
        intro e
        cases e
    · split at h
      · cases h
        intro e
        cases e
      · split at h
        · injection h with h
          injection h with h
          injection h with h1 h2
          rw [← h1]
          split
          · intro e; cases e
          · intro e
            injection e with e
            have hr : runL T a SML = 3 := by
              have := congrArg List.length e
              rw [List.length_take, List.length_drop] at this
              have := run_le T a SML
              have h3 : (BAD : List Nat).length = 3 := rfl
              omega
            rw [hr] at e
            exact hT a e
        · obtain ⟨i, rfl⟩ := rdInt_int (Option.some.inj h)
          intro e
          cases e
end Mine
end
section
set_option Elab.async false
set_option linter.all false
set_option maxRecDepth 100000
set_option maxHeartbeats 4000000
/-! KF10: the law's own reader does what rdTerm and rdEnts say. -/
namespace Mine
open PySem PySem.Spec MX
def LawP (n f : Nat) : Prop := ∀ (T : List Nat) (a d : Nat) (M : MH) (L : Nat) (r : Rv), rdTerm f T a d = some r → d ≤ 60 → 2 * (60 - d) + 10 ≤ L → NoBad T → T.length < 16777216 → T.length + 1 < n → LR M r (fnK (datF n) L e__law_read [.str T, .int a, .int d] M)
abbrev BODL (n L : Nat) : MS := mSeq (mIfS (mTest (m2 fEq (mSl (mVar 0) (mPart (mVar 1)) (mPart (m2 fPlus (mVar 1) (mK (.int 1))))) (mK (.str [41])))) (mSeq (mRet (mApp mkLst (mCons (mApp fTupC (mCons (mVar 3) mNil)) (mCons (m2 fPlus (mVar 1) (mK (.int 1))) mNil)))) mNext) mNext)
  (mSeq (mIfS (mTru (mVar 3)) (mSeq (mIfS (mTest (m2 fNe (mSl (mVar 0) (mPart (mVar 1)) (mPart (m2 fPlus (mVar 1) (mK (.int 1))))) (mK (.str [32])))) (mSeq (mRet (mApp mkLst (mCons (mK (.str BAD)) (mCons (mVar 1) mNil)))) mNext) mNext) (mSeq (mAsg (m2 fPlus (mVar 1) (mK (.int 1))) (gSet 1)) mNext)) mNext)
  (mSeq (mAsg (mCall 3 (fnK (datF n) L e__law_read) (mCons (mVar 0) (mCons (mVar 1) (mCons (mVar 2) mNil)))) (gUnp [(gSet 5), (gSet 6)]))
  (mSeq (mIfS (mAnd (mTest (m2 fEq (mVar 5) (mK (.str BAD)))) (mTru (mApp fIsi (mCons (mVar 5) (mCons (mK (.ty "str")) mNil))))) (mSeq (mRet (mApp mkLst (mCons (mVar 5) (mCons (mVar 6) mNil)))) mNext) mNext)
  (mSeq (mDrop (mBM isLstM fApp (mVar 3) (mCons (mVar 5) mNil))) (mSeq (mAsg (mVar 6) (gSet 1)) mNext)))))
structure SlL (T : List Nat) (a d q : Nat) (τ : MX.Loc) : Prop where
  t : τ[0]? = some (.va (.str T))
  a : τ[1]? = some (.va (.int a))
  d : τ[2]? = some (.va (.int d))
  q : τ[3]? = some (.va (.ref q))
  l : τ.length = 7
def EntP (n f : Nat) : Prop := ∀ (T : List Nat) (a d : Nat) (vs : List MV) (M : MH) (L q : Nat) (Ms : MH) (τ : MX.Loc) (i m fuel : Nat) (r : Rv), rdEnts f T a d vs = some r → d ≤ 60 → 1 ≤ d → (∀ x ∈ vs, Pl (60 - d) x) → 2 * (60 - d) + 10 ≤ L → NoBad T → T.length < 16777216 → T.length + 1 < n →
  SlL T a d q τ → M.get q = some (.lst vs) → Ms.n ≤ q → Le Ms M → vs.length ≤ a → i + m = T.length + 1 → T.length - a < m → m < fuel →
  ∃ M' q', forGo (.rng 0 (T.length + 1)) (gSet 4) (BODL n L) fuel i τ M = .rt (.ref q') M' ∧ M'.get q' = some (.lst (lawV r)) ∧ Le Ms M'
section
variable {n : Nat}
theorem unp2 {x y : Nat} {e : ME} {τ : MX.Loc} {M M' : MH} {q : Nat} {v w : MV} (h : e τ M = .ok (.ref q) M') (hq : M'.get q = some (.lst [v, w])) : mAsg e (gUnp [(gSet x), (gSet y)]) τ M = .nx ((τ.set x (.va v)).set y (.va w)) M' := by
  unfold mAsg
  rw [h]
  show (match gUnp [(gSet x), (gSet y)] (.ref q) τ M' with
    | .ok τ M => Out.nx τ M
    | _ => .stuck) = _
  unfold gUnp itemsOf
  dsimp only
  rw [hq]
  rfl
theorem ent_step {f : Nat} (hT : LawP n f) (hE : EntP n f) : EntP n (f + 1) := by
  intro T a d vs M L q Ms τ i m fuel r hr hd hd1 hp hL nb hl hn sl hq hmq lx hv him ham hmf
  obtain ⟨fuel, rfl⟩ : ∃ f', fuel = f' + 1 := ⟨fuel - 1, by omega⟩
  have hl' : T.length ≤ 16777216 := by omega
  generalize hτ1 : τ.set 4 (.va (.int i)) = τ1
  have s1 : SlL T a d q τ1 := by
    rw [← hτ1]
    exact ⟨by rw [List.getElem?_set_ne (by decide)]; exact sl.t, by rw [List.getElem?_set_ne (by decide)]; exact sl.a, by rw [List.getElem?_set_ne (by decide)]; exact sl.d, by rw [List.getElem?_set_ne (by decide)]; exact sl.q, by rw [List.length_set]; exact sl.l⟩
  have gs : gSet 4 (.int i) τ M = .ok τ1 M := by rw [← hτ1]; rfl
  have nx := next_rng (M := M) (show i < T.length + 1 by omega)
  have t41 := is1 (M := M) hl' s1.t s1.a 41
  unfold rdEnts at hr
  by_cases h1 : isAt T a [41] = true
  · rw [if_pos h1] at hr
    cases hr
    rw [h1] at t41
    have tup : mApp fTupC (mCons (mVar 3) mNil) τ1 M = .ok (.tup vs) M := by
      rw [app_ok (args1 (var_ok s1.q))]
      unfold fTupC
      dsimp only
      rw [hq]
      have := isAt_lt h1
      exact if_pos (by omega)
    refine ⟨_, _, for_rt nx gs (seq_rt ((if_t t41).trans (ret2 tup ((op_ok (var_ok s1.a) rfl).trans (plus_int a 1))))), MH.get_push_same _, lx.trans (Le.push _ _)⟩
  · rw [if_neg h1] at hr
    have h1' : isAt T a [41] = false := by simpa using h1
    rw [h1'] at t41
    have n1 : ∀ (A R : MS), mSeq (mIfS (mTest (m2 fEq (mSl (mVar 0) (mPart (mVar 1)) (mPart (m2 fPlus (mVar 1) (mK (.int 1))))) (mK (.str [41])))) A mNext) R τ1 M = R τ1 M := fun A R => seq_nx ((if_f t41).trans next_nx)
    have tv : mTru (mVar 3) τ1 M = .ok (!vs.isEmpty) M := tru_ok2 (var_ok s1.q) (by unfold truM; dsimp only; rw [hq])
    have t32 : mTest (m2 fNe (mSl (mVar 0) (mPart (mVar 1)) (mPart (m2 fPlus (mVar 1) (mK (.int 1))))) (mK (.str [32]))) τ1 M = .ok (!isAt T a [32]) M := by
      refine test_ok ((op_ok (sl1 hl' s1.t s1.a) rfl).trans ?_)
      rw [fNe_str, sgn_is]
    by_cases h2 : (!vs.isEmpty && !isAt T a [32]) = true
    · rw [if_pos h2] at hr
      cases hr
      rw [Bool.and_eq_true] at h2
      rw [h2.1] at tv
      rw [h2.2] at t32
      exact ⟨_, _, for_rt nx gs ((n1 _ _).trans (seq_rt ((if_t tv).trans (seq_rt ((if_t t32).trans (ret2 rfl (var_ok s1.a))))))), MH.get_push_same _, lx.trans (Le.push _ _)⟩
    · rw [if_neg h2] at hr
      generalize hs : (if vs.isEmpty = true then a else a + 1) = s at hr
      obtain ⟨τ2, s2, n2⟩ : ∃ τ2, SlL T s d q τ2 ∧ ∀ R : MS, mSeq (mIfS (mTru (mVar 3)) (mSeq (mIfS (mTest (m2 fNe (mSl (mVar 0) (mPart (mVar 1)) (mPart (m2 fPlus (mVar 1) (mK (.int 1))))) (mK (.str [32])))) (mSeq (mRet (mApp mkLst (mCons (mK (.str BAD)) (mCons (mVar 1) mNil)))) mNext) mNext)
          (mSeq (mAsg (m2 fPlus (mVar 1) (mK (.int 1))) (gSet 1)) mNext)) mNext) R τ1 M = R τ2 M := by
        cases hb : vs.isEmpty with
        | true =>
          rw [hb, if_pos rfl] at hs
          subst hs
          rw [hb] at tv
          exact ⟨τ1, s1, fun R => seq_nx ((if_f tv).trans next_nx)⟩
        | false =>
          rw [hb, if_neg (by decide)] at hs
          subst hs
          rw [hb] at tv
          have h3 : isAt T a [32] = true := by
            rw [hb] at h2
            simpa using h2
          rw [h3] at t32
          refine ⟨τ1.set 1 (.va (.int ((a + 1 : Nat) : Int))), ?_, fun R => seq_nx ((if_t tv).trans ((seq_nx ((if_f t32).trans next_nx)).trans ((seq_nx (asg_ok2 ((op_ok (var_ok s1.a) rfl).trans (plus_int a 1)))).trans next_nx)))⟩
          exact ⟨by rw [List.getElem?_set_ne (by decide)]; exact s1.t, List.getElem?_set_self (by have := s1.l; omega), by rw [List.getElem?_set_ne (by decide)]; exact s1.d, by rw [List.getElem?_set_ne (by decide)]; exact s1.q, by rw [List.length_set]; exact s1.l⟩
      cases ht : rdTerm f T s d with
      | none => rw [ht] at hr; cases hr
      | some rt =>
        rw [ht] at hr
        obtain ⟨M2, q2, e2, g2, x2⟩ := hT T s d M L rt ht hd hL nb hl hn
        have cl : mCall 3 (fnK (datF n) L e__law_read) (mCons (mVar 0) (mCons (mVar 1) (mCons (mVar 2) mNil))) τ2 M = .ok (.ref q2) M2 := (call_ok (argsC (var_ok s2.t) (argsC (var_ok s2.a) (args1 (var_ok s2.d)))) rfl).trans e2
        cases rt with
        | error b =>
          cases hr
          have as := unp2 (x := 5) (y := 6) cl g2
          generalize hτ3 : (τ2.set 5 (.va (.str BAD))).set 6 (.va (.int (b : Int))) = τ3 at as
          have k5 : τ3[5]? = some (.va (.str BAD)) := by rw [← hτ3, List.getElem?_set_ne (by decide)]; exact List.getElem?_set_self (by have := s2.l; omega)
          have k6 : τ3[6]? = some (.va (.int (b : Int))) := by rw [← hτ3]; exact List.getElem?_set_self (by rw [List.length_set]; have := s2.l; omega)
          have c : mAnd (mTest (m2 fEq (mVar 5) (mK (.str BAD)))) (mTru (mApp fIsi (mCons (mVar 5) (mCons (mK (.ty "str")) mNil)))) τ3 M2 = .ok true M2 :=
            (and_t (test_ok ((op_ok (var_ok k5) rfl).trans (fEq_str M2 BAD BAD)))).trans (tru_b ((app_ok (argsC (var_ok k5) (args1 rfl))).trans rfl))
          exact ⟨_, _, for_rt nx gs ((n1 _ _).trans ((n2 _).trans ((seq_nx as).trans (seq_rt ((if_t c).trans (ret2 (var_ok k5) (var_ok k6))))))), MH.get_push_same _, (lx.trans x2).trans (Le.push _ _)⟩
        | ok vb =>
          obtain ⟨v, b⟩ := vb
          have hlt := rdTerm_lt f ht
          have hsa : a ≤ s := by rw [← hs]; split <;> omega
          have pv := rdTerm_pl f hd ht
          have nbv := rdTerm_nb nb ht
          have as := unp2 (x := 5) (y := 6) cl g2
          generalize hτ3 : (τ2.set 5 (.va v)).set 6 (.va (.int (b : Int))) = τ3 at as
          have k5 : τ3[5]? = some (.va v) := by rw [← hτ3, List.getElem?_set_ne (by decide)]; exact List.getElem?_set_self (by have := s2.l; omega)
          have k6 : τ3[6]? = some (.va (.int (b : Int))) := by rw [← hτ3]; exact List.getElem?_set_self (by rw [List.length_set]; have := s2.l; omega)
          have k0 : τ3[0]? = some (.va (.str T)) := by rw [← hτ3, List.getElem?_set_ne (by decide), List.getElem?_set_ne (by decide)]; exact s2.t
          have k2 : τ3[2]? = some (.va (.int (d : Int))) := by rw [← hτ3, List.getElem?_set_ne (by decide), List.getElem?_set_ne (by decide)]; exact s2.d
          have k3 : τ3[3]? = some (.va (.ref q)) := by rw [← hτ3, List.getElem?_set_ne (by decide), List.getElem?_set_ne (by decide)]; exact s2.q
          have kl : τ3.length = 7 := by rw [← hτ3, List.length_set, List.length_set]; exact s2.l
          have bf : badV v = false := by
            unfold badV
            split
            · rename_i w
              exact decide_eq_false fun e => nbv (by rw [e])
            · rfl
          have c : mAnd (mTest (m2 fEq (mVar 5) (mK (.str BAD)))) (mTru (mApp fIsi (mCons (mVar 5) (mCons (mK (.ty "str")) mNil)))) τ3 M2 = .ok false M2 :=
            and_f (test_ok ((op_ok (var_ok k5) rfl).trans ((eq_bad pv (by omega)).trans (by rw [bf]))))
          have hq2 : M2.get q = some (.lst vs) := x2.get hq
          have ap : mDrop (mBM isLstM fApp (mVar 3) (mCons (mVar 5) mNil)) τ3 M2 = .nx τ3 (M2.set q (.lst (vs ++ [v]))) := drop_ok ((bm_ok (var_ok k3) (isLst_of hq2) (args1 (var_ok k5))).trans (fApp_ok hq2 (by omega)))
          have body : BODL n L τ1 M = .nx (τ3.set 1 (.va (.int (b : Int)))) (M2.set q (.lst (vs ++ [v]))) :=
            (n1 _ _).trans ((n2 _).trans ((seq_nx as).trans ((seq_nx ((if_f c).trans next_nx)).trans ((seq_nx ap).trans ((seq_nx (asg_ok2 (var_ok k6))).trans next_nx)))))
          rw [for_nx nx gs body]
          refine hE T b d (vs ++ [v]) _ L q Ms _ (i + 1) (m - 1) fuel r hr hd hd1 (fun x hx => ?_) hL nb hl hn ?_ (MH.get_set_same (MH.lt hq2)) hmq ?_ (by rw [List.length_append, List.length_singleton]; omega) (by omega) (by omega) (by omega)
          · rcases List.mem_append.mp hx with hx | hx
            · exact hp x hx
            · rw [List.mem_singleton.mp hx]; exact pv
          · exact ⟨by rw [List.getElem?_set_ne (by decide)]; exact k0, List.getElem?_set_self (by omega), by rw [List.getElem?_set_ne (by decide)]; exact k2, by rw [List.getElem?_set_ne (by decide)]; exact k3, by rw [List.length_set]; exact kl⟩
          · have y := lx.trans x2
            exact ⟨by rw [MH.set_n]; exact y.n, fun j hj => (MH.get_set_other (by omega)).trans (y.g j hj)⟩
theorem lawents_of {f : Nat} (hE : EntP n f) {T : List Nat} {a d : Nat} {M : MH} {L : Nat} {r : Rv} (hr : rdEnts f T a d [] = some r) (hd : d ≤ 60) (hd1 : 1 ≤ d) (hL : 2 * (60 - d) + 11 ≤ L) (nb : NoBad T) (hl : T.length < 16777216) (hn : T.length + 1 < n) (ha : a ≤ T.length) :
    LR M r (fnK (datF n) L e__law_entries [.str T, .int a, .int d] M) := by
  obtain ⟨k, rfl⟩ : ∃ k, L = k + 3 := ⟨L - 3, by omega⟩
  rw [b__law_entries]
  unfold c__law_entries
  have s0 : SlL T a d M.n ((startM 7 [.str T, .int a, .int d]).set 3 (.va (.ref M.n))) := ⟨rfl, rfl, rfl, rfl, rfl⟩
  obtain ⟨M', q', e1, e2, e3⟩ := hE T a d [] (M.push (.lst [])) (k + 2) M.n M _ 0 (T.length + 1) n r hr hd hd1 (fun x hx => by cases hx) (by omega) nb hl hn s0 (MH.get_push_same _) (Nat.le_refl _) (Le.push _ _) (Nat.zero_le _) (by omega) (by omega) (by omega)
  have it : rng1 (mCons (m2 fPlus (mApp fLen (mCons (mVar 0) mNil)) (mK (.int 1))) mNil) ((startM 7 [.str T, .int a, .int d]).set 3 (.va (.ref M.n))) (M.push (.lst [])) = .ok (.rng 0 (T.length + 1)) (M.push (.lst [])) := by
    rw [rng1_ok (j := ((T.length + 1 : Nat) : Int)) (args1 ((op_ok ((app_ok (args1 (var_ok s0.t))).trans (len_str (by omega))) rfl).trans (plus_int T.length 1))) (by unfold i62; rw [decide_eq_true (by omega), decide_eq_true (by omega)]; rfl)]
    rfl
  exact ⟨M', q', run_rt ((seq_nx (asg_ok2 rfl)).trans (seq_rt ((for_ok it).trans e1))), e2, e3⟩
end
end Mine
end
section
set_option Elab.async false
set_option linter.all false
set_option maxRecDepth 100000
set_option maxHeartbeats 4000000
/-! KF11: told is due. -/
namespace Mine
open PySem PySem.Spec MX
mutual
theorem rdTerm_some : ∀ (f : Nat) (T : List Nat) (a d : Nat), 2 * (T.length - a) + 1 ≤ f → ∃ r, rdTerm f T a d = some r
  | 0, _, _, _, h => absurd h (by omega)
  | f + 1, T, a, d, h => by
    unfold rdTerm
    split
    · rename_i h1
      split
      · exact ⟨_, rfl⟩
      · have := isAt_lt h1
        exact rdEnts_some f T (a + 1) (d + 1) [] (by omega)
    · split
      · exact ⟨_, rfl⟩
      · split
        · exact ⟨_, rfl⟩
        · exact ⟨_, rfl⟩
theorem rdEnts_some : ∀ (f : Nat) (T : List Nat) (a d : Nat) (vs : List MV), 2 * (T.length - a) + 2 ≤ f → ∃ r, rdEnts f T a d vs = some r
  | 0, _, _, _, _, h => absurd h (by omega)
  | f + 1, T, a, d, vs, h => by
    unfold rdEnts
    split
    · exact ⟨_, rfl⟩
    · split
      · exact ⟨_, rfl⟩
      · have hs : a ≤ (if vs.isEmpty = true then a else a + 1) := by split <;> omega
        obtain ⟨r, e⟩ := rdTerm_some f T (if vs.isEmpty = true then a else a + 1) d (by omega)
        rw [e]
        cases r with
        | error b => exact ⟨_, rfl⟩
        | ok vb =>
          obtain ⟨v, b⟩ := vb
          have := rdTerm_lt f e
          exact rdEnts_some f T b d (vs ++ [v]) (by omega)
end
section
variable {n : Nat}
theorem law_step {f : Nat} (hE : EntP n f) : LawP n (f + 1) := by
  intro T a d M L r hr hd hL nb hl hn
  obtain ⟨k, rfl⟩ : ∃ k, L = k + 6 := ⟨L - 6, by omega⟩
  have hl' : T.length ≤ 16777216 := by omega
  rw [show k + 6 = (k + 3) + 3 from rfl, b__law_read]
  unfold c__law_read
  generalize hτ : (startM 6 [.str T, .int a, .int d]).set 3 (.va (.str (sgn T a))) = τ
  have a0 : τ[0]? = some (.va (.str T)) := by rw [← hτ]; rfl
  have a1 : τ[1]? = some (.va (.int a)) := by rw [← hτ]; rfl
  have a2 : τ[2]? = some (.va (.int d)) := by rw [← hτ]; rfl
  have a3 : τ[3]? = some (.va (.str (sgn T a))) := by rw [← hτ]; rfl
  have al : τ.length = 6 := by rw [← hτ]; rfl
  have s0 : ∀ R : MS, mSeq (mAsg (mSl (mVar 0) (mPart (mVar 1)) (mPart (m2 fPlus (mVar 1) (mK (.int 1))))) (gSet 3)) R (startM 6 [.str T, .int a, .int d]) M = R τ M := fun R => (seq_nx (asg_ok2 (sl1 hl' rfl rfl))).trans (by rw [hτ])
  have is3 : ∀ c : Nat, mTest (m2 fEq (mVar 3) (mK (.str [c]))) τ M = .ok (isAt T a [c]) M := fun c => by
    refine test_ok ((op_ok (var_ok a3) rfl).trans ?_)
    rw [fEq_str, sgn_is]
  unfold rdTerm at hr
  by_cases h1 : isAt T a [40] = true
  · rw [if_pos h1] at hr
    have t1 := is3 40
    rw [h1] at t1
    have t2 : mTest (m2 fEq (mVar 2) (mK (.int 60))) τ M = .ok (decide (d = 60)) M := by
      refine test_ok ((op_ok (var_ok a2) rfl).trans ?_)
      rw [fEq_int, decide_eq_decide.mpr (show ((d : Int) = 60) ↔ d = 60 by omega)]
    by_cases h2 : d = 60
    · rw [if_pos h2] at hr
      cases hr
      rw [decide_eq_true h2] at t2
      rw [run_rt ((s0 _).trans (seq_rt ((if_t t1).trans (seq_rt ((if_t t2).trans (ret2 rfl (var_ok a1)))))))]
      exact LR.mk rfl
    · rw [if_neg h2] at hr
      rw [decide_eq_false h2] at t2
      obtain ⟨M', q, e1, e2, e3⟩ := lawents_of hE (M := M) (L := k + 3 + 2) hr (by omega) (by omega) (by omega) nb hl hn (by have := isAt_lt h1; omega)
      have cl : mCall 3 (fnK (datF n) (k + 3 + 2) e__law_entries) (mCons (mVar 0) (mCons (m2 fPlus (mVar 1) (mK (.int 1))) (mCons (m2 fPlus (mVar 2) (mK (.int 1))) mNil))) τ M = .ok (.ref q) M' :=
        (call_ok (argsC (var_ok a0) (argsC ((op_ok (var_ok a1) rfl).trans (plus_int a 1)) (args1 ((op_ok (var_ok a2) rfl).trans (plus_int d 1))))) rfl).trans e1
      exact ⟨M', q, run_rt ((s0 _).trans (seq_rt ((if_t t1).trans ((seq_nx ((if_f t2).trans next_nx)).trans (seq_rt (ret_ok cl)))))), e2, e3⟩
  · rw [if_neg h1] at hr
    have n1 : ∀ (A R : MS), mSeq (mIfS (mTest (m2 fEq (mVar 3) (mK (.str [40])))) A mNext) R τ M = R τ M := fun A R => by
      refine seq_nx ?_
      rw [if_b (is3 40), if_neg h1]
      rfl
    by_cases h2 : isAt T a [46] = true
    · rw [if_pos h2] at hr
      cases hr
      have t1 := is3 46
      rw [h2] at t1
      rw [run_rt ((s0 _).trans ((n1 _ _).trans (seq_rt ((if_t t1).trans (ret2 rfl ((op_ok (var_ok a1) rfl).trans (plus_int a 1)))))))]
      exact LR.mk rfl
    · rw [if_neg h2] at hr
      have n2 : ∀ (A R : MS), mSeq (mIfS (mTest (m2 fEq (mVar 3) (mK (.str [46])))) A mNext) R τ M = R τ M := fun A R => by
        refine seq_nx ?_
        rw [if_b (is3 46), if_neg h2]
        rfl
      have t3 : mAnd (mTest (m2 fNe (mVar 3) (mK (.str [])))) (mTest (m2 fIn (mVar 3) (mK (.str SML)))) τ M = .ok (isAt T a SML) M := by
        cases e : T[a]? with
        | none =>
          rw [sgn_none e] at a3
          have z : isAt T a SML = false := by unfold isAt; rw [e]
          rw [z]
          exact and_f (test_ok ((op_ok (var_ok a3) rfl).trans (fNe_str M [] [])))
        | some c =>
          rw [sgn_some e] at a3
          have z : isAt T a SML = decide (c ∈ SML) := by unfold isAt; rw [e]
          rw [z]
          exact (and_t (test_ok ((op_ok (var_ok a3) rfl).trans (fNe_str M [c] [])))).trans (test_ok ((op_ok (var_ok a3) rfl).trans rfl))
      by_cases h3 : isAt T a SML = true
      · rw [if_pos h3] at hr
        cases hr
        rw [h3] at t3
        have b0 : (τ.set 4 (.va (.int a)))[0]? = some (.va (.str T)) := by rw [List.getElem?_set_ne (by decide)]; exact a0
        have b4 : (τ.set 4 (.va (.int a)))[4]? = some (.va (.int a)) := List.getElem?_set_self (by omega)
        have b1 : (τ.set 4 (.va (.int a)))[1]? = some (.va (.int a)) := by rw [List.getElem?_set_ne (by decide)]; exact a1
        obtain ⟨τ', e4, g4, gr⟩ := scan_ok (x := 4) (y := 5) (S := SML) (M := M) hl' (by omega : T.length < n) (by decide) (by decide) (by decide) b0 b4
        have g0 : τ'[0]? = some (.va (.str T)) := (gr 0 (by decide) (by decide)).trans b0
        have g1 : τ'[1]? = some (.va (.int a)) := (gr 1 (by decide) (by decide)).trans b1
        have cut : mSl (mVar 0) (mPart (mVar 1)) (mPart (mVar 4)) τ' M = .ok (.str ((T.drop a).take (runL T a SML))) M := by
          refine (sl_ok (var_ok g0) (part_ok (var_ok g1)) (part_ok (var_ok g4))).trans ?_
          show (if T.length ≤ 16777216 then (Res.ok (MV.str (cutL T (some (a : Int)) (some ((a + runL T a SML : Nat) : Int)))) M : Res MV) else .stuck) = _
          rw [if_pos hl', cut_nn, show a + runL T a SML - a = runL T a SML by omega]
        have val : mIf (mTest (m2 fEq (mSl (mVar 0) (mPart (mVar 1)) (mPart (mVar 4))) (mK (.str NON)))) (mK .non) (mSl (mVar 0) (mPart (mVar 1)) (mPart (mVar 4))) τ' M = .ok (if (T.drop a).take (runL T a SML) = NON then .non else .str ((T.drop a).take (runL T a SML))) M := by
          rw [ife_b (test_ok ((op_ok cut rfl).trans (fEq_str _ _ _)))]
          by_cases hw : (T.drop a).take (runL T a SML) = NON
          · rw [if_pos (decide_eq_true hw), if_pos hw]
            rfl
          · rw [if_neg (by rw [decide_eq_false hw]; decide), if_neg hw, cut]
        rw [run_rt ((s0 _).trans ((n1 _ _).trans ((n2 _ _).trans (seq_rt ((if_t t3).trans ((seq_nx (asg_ok2 (var_ok a1))).trans ((seq_nx e4).trans (ret2 val (var_ok g4)))))))))]
        exact LR.mk rfl
      · rw [if_neg h3] at hr
        have n3 : ∀ (A R : MS), mSeq (mIfS (mAnd (mTest (m2 fNe (mVar 3) (mK (.str [])))) (mTest (m2 fIn (mVar 3) (mK (.str SML))))) A mNext) R τ M = R τ M := fun A R => by
          refine seq_nx ?_
          rw [if_b t3, if_neg h3]
          rfl
        have er := Option.some.inj hr
        have ii := law_integer_ok (n := n) (k := k + 2) (M := M) (a := a) hl' (by omega)
        rw [er] at ii
        obtain ⟨M', q, e1, e2, e3⟩ := ii
        have cl : mCall 2 (fnK (datF n) (k + 3 + 2) e__law_integer) (mCons (mVar 0) (mCons (mVar 1) mNil)) τ M = .ok (.ref q) M' := (call_ok (argsC (var_ok a0) (args1 (var_ok a1))) rfl).trans e1
        exact ⟨M', q, run_rt ((s0 _).trans ((n1 _ _).trans ((n2 _ _).trans ((n3 _ _).trans (seq_rt (ret_ok cl)))))), e2, e3⟩
theorem lawBoth (n : Nat) : ∀ f : Nat, LawP n f ∧ EntP n f
  | 0 => ⟨fun T a d M L r h => (nomatch (show (none : Option Rv) = some r from h)), fun T a d vs M L q Ms τ i m fuel r h => (nomatch (show (none : Option Rv) = some r from h))⟩
  | f + 1 => by
    obtain ⟨h1, h2⟩ := lawBoth n f
    exact ⟨law_step h2, ent_step h1 h2⟩
/-- the answer: a list of a word and a value -/
def ansV : Except Nat MV → List MV
  | .ok v => [.str [116, 101, 114, 109], v]
  | .error b => [.str BAD, .int b]
def AR (M : MH) (r : Except Nat MV) (x : Res MV) : Prop := ∃ M' q, x = .ok (.ref q) M' ∧ M'.get q = some (.lst (ansV r)) ∧ Le M M'
theorem due_ok {T : List Nat} {M : MH} {L f : Nat} {r : Rv} (hr : rdTerm f T 0 0 = some r) (hL : 140 ≤ L) (nb : NoBad T) (hl : T.length < 16777216) (hn : T.length + 1 < n) : AR M (whole T r) (fnK (datF n) L e__law_due [.str T] M) := by
  obtain ⟨k, rfl⟩ : ∃ k, L = k + 3 := ⟨L - 3, by omega⟩
  rw [b__law_due]
  unfold c__law_due
  obtain ⟨M2, q2, e2, g2, x2⟩ := (lawBoth n f).1 T 0 0 M (k + 2) r hr (by omega) (by omega) nb hl hn
  have cl : mCall 3 (fnK (datF n) (k + 2) e__law_read) (mCons (mVar 0) (mCons (mK (.int 0)) (mCons (mK (.int 0)) mNil))) (startM 3 [.str T]) M = .ok (.ref q2) M2 := (call_ok (argsC (var_ok rfl) (argsC rfl (args1 rfl))) rfl).trans e2
  cases r with
  | error b =>
    have as := unp2 (x := 1) (y := 2) cl g2
    have c : mAnd (mTru (mApp fIsi (mCons (mVar 1) (mCons (mK (.ty "str")) mNil)))) (mTest (m2 fEq (mVar 1) (mK (.str BAD)))) (((startM 3 [.str T]).set 1 (.va (.str BAD))).set 2 (.va (.int (b : Int)))) M2 = .ok true M2 :=
      (and_t (tru_b ((app_ok (argsC (var_ok rfl) (args1 rfl))).trans rfl))).trans (test_ok ((op_ok (var_ok rfl) rfl).trans (fEq_str M2 BAD BAD)))
    exact ⟨_, _, run_rt ((seq_nx as).trans (seq_rt ((if_t c).trans (ret2 rfl (var_ok rfl))))), MH.get_push_same _, x2.trans (Le.push _ _)⟩
  | ok vb =>
    obtain ⟨v, b⟩ := vb
    have pv := rdTerm_pl f (by omega) hr
    have nbv := rdTerm_nb nb hr
    have as := unp2 (x := 1) (y := 2) cl g2
    have bf : badV v = false := by
      unfold badV
      split
      · rename_i w
        exact decide_eq_false fun e => nbv (by rw [e])
      · rfl
    have c : mAnd (mTru (mApp fIsi (mCons (mVar 1) (mCons (mK (.ty "str")) mNil)))) (mTest (m2 fEq (mVar 1) (mK (.str BAD)))) (((startM 3 [.str T]).set 1 (.va v)).set 2 (.va (.int (b : Int)))) M2 = .ok (isStrV v && badV v) M2 :=
      and_ok (tru_b ((app_ok (argsC (var_ok rfl) (args1 rfl))).trans (isi_str pv))) (test_ok ((op_ok (var_ok rfl) rfl).trans (eq_bad pv (by omega))))
    rw [bf, Bool.and_false] at c
    have lt : mTest (m2 fLt (mVar 2) (mApp fLen (mCons (mVar 0) mNil))) (((startM 3 [.str T]).set 1 (.va v)).set 2 (.va (.int (b : Int)))) M2 = .ok (decide (b < T.length)) M2 := by
      refine test_ok ((op_ok (var_ok rfl) ((app_ok (args1 (var_ok rfl))).trans (len_str (by omega)))).trans ?_)
      rw [lt_int2, decide_eq_decide.mpr (show ((b : Int) < (T.length : Int)) ↔ b < T.length by omega)]
    have head : ∀ e : ME, (mSeq (mAsg (mCall 3 (fnK (datF n) (k + 2) e__law_read) (mCons (mVar 0) (mCons (mK (.int 0)) (mCons (mK (.int 0)) mNil)))) (gUnp [(gSet 1), (gSet 2)])) (mSeq (mIfS (mAnd (mTru (mApp fIsi (mCons (mVar 1) (mCons (mK (.ty "str")) mNil)))) (mTest (m2 fEq (mVar 1) (mK (.str BAD))))) (mSeq (mRet (mApp mkLst (mCons (mK (.str BAD)) (mCons (mVar 2) mNil)))) mNext) mNext)
        (mSeq (mRet e) mNext))) (startM 3 [.str T]) M = mSeq (mRet e) mNext (((startM 3 [.str T]).set 1 (.va v)).set 2 (.va (.int (b : Int)))) M2 := fun e => (seq_nx as).trans (seq_nx ((if_f c).trans next_nx))
    show AR M (if b < T.length then .error b else .ok v) _
    by_cases hb : b < T.length
    · rw [if_pos hb]
      rw [decide_eq_true hb] at lt
      refine ⟨_, _, run_rt ((head _).trans (seq_rt (ret_ok ?_))), MH.get_push_same _, x2.trans (Le.push _ _)⟩
      rw [ife_b lt, if_pos rfl]
      exact lst2 rfl (var_ok rfl)
    · rw [if_neg hb]
      rw [decide_eq_false hb] at lt
      refine ⟨_, _, run_rt ((head _).trans (seq_rt (ret_ok ?_))), MH.get_push_same _, x2.trans (Le.push _ _)⟩
      rw [ife_b lt, if_neg (by decide)]
      exact lst2 rfl (var_ok rfl)
end
end Mine
end
section
set_option Elab.async false
set_option linter.all false
set_option maxRecDepth 100000
set_option maxHeartbeats 4000000
/-! KF12: told; repr of answers. -/
namespace Mine
open PySem PySem.Spec MX
section
variable {n : Nat}
theorem lst2_ex {τ : MX.Loc} {M M' : MH} {e f : ME} {v : MV} {cx : Str} {fs : List (Str × MV)} (h : e τ M = .ok v M) (h2 : f τ M = .ex cx fs M') : mApp mkLst (mCons e (mCons f mNil)) τ M = .ex cx fs M' := by
  refine app_ex ?_
  unfold mCons
  rw [h]
  show (mCons f mNil τ M).bind _ = _
  rw [args1_ex h2]
  rfl
theorem told_ok {T : List Nat} {M : MH} {L f : Nat} {r : Rv} (hr : rdTerm f T 0 0 = some r) (hL : 145 ≤ L) (hl : T.length ≤ 16777216) (hn : T.length < n) : AR M (whole T r) (fnK (datF n) L e__law_told [.str T] M) := by
  obtain ⟨k, rfl⟩ : ∃ k, L = k + 3 := ⟨L - 3, by omega⟩
  rw [b__law_told]
  unfold c__law_told
  have rd := read_ok (n := n) (M := M) (L := k + 2) hr (by omega) hl hn
  have cl : mCall 1 (fnK (datF n) (k + 2) e_read_term) (mCons (mVar 0) mNil) (startM 2 [.str T]) M = fnK (datF n) (k + 2) e_read_term [.str T] M := call_ok (args1 (var_ok rfl)) rfl
  cases hw : whole T r with
  | ok v =>
    rw [hw] at rd
    obtain ⟨M', e, l⟩ := rd
    rw [e] at cl
    have b : mSeq (mRet (mApp mkLst (mCons (mK (.str [116, 101, 114, 109])) (mCons (mCall 1 (fnK (datF n) (k + 2) e_read_term) (mCons (mVar 0) mNil)) mNil)))) mNext (startM 2 [.str T]) M = .rt (.ref M'.n) (M'.push (.lst [.str [116, 101, 114, 109], v])) := by
      refine seq_rt (ret_ok ?_)
      rw [app_ok (argsC (e := mK (.str [116, 101, 114, 109])) rfl (args1 cl))]
      rfl
    have t : ∀ ms, mTryAs CTD "Malformed" 1 (mSeq (mRet (mApp mkLst (mCons (mK (.str [116, 101, 114, 109])) (mCons (mCall 1 (fnK (datF n) (k + 2) e_read_term) (mCons (mVar 0) mNil)) mNil)))) mNext) ms (startM 2 [.str T]) M = .rt (.ref M'.n) (M'.push (.lst [.str [116, 101, 114, 109], v])) := fun ms => by
      unfold mTryAs
      rw [b]
    exact ⟨_, _, run_rt (seq_rt (t _)), MH.get_push_same _, l.trans (Le.push _ _)⟩
  | error b =>
    rw [hw] at rd
    obtain ⟨M', e, l⟩ := rd
    rw [e] at cl
    have bb : mSeq (mRet (mApp mkLst (mCons (mK (.str [116, 101, 114, 109])) (mCons (mCall 1 (fnK (datF n) (k + 2) e_read_term) (mCons (mVar 0) mNil)) mNil)))) mNext (startM 2 [.str T]) M = .ex "Malformed" [("at", .int (b : Int))] (startM 2 [.str T]) M' := seq_ex (ret_ex (lst2_ex rfl cl))
    have t : mTryAs CTD "Malformed" 1 (mSeq (mRet (mApp mkLst (mCons (mK (.str [116, 101, 114, 109])) (mCons (mCall 1 (fnK (datF n) (k + 2) e_read_term) (mCons (mVar 0) mNil)) mNil)))) mNext)
        (mSeq (mRet (mApp mkLst (mCons (mK (.str [98, 97, 100])) (mCons (mXf XFD 1 "at") mNil)))) mNext) (startM 2 [.str T]) M = .rt (.ref M'.n) (M'.push (.lst [.str BAD, .int b])) := by
      unfold mTryAs
      rw [bb]
      dsimp only
      rw [show CTD "Malformed" "Malformed" = some true by rfl]
      dsimp only
      rw [seq_rt (ret_ok (lst2 (v := .str BAD) (w := .int b) rfl ?_))]
      · rfl
      · unfold mXf
        rw [show ((startM 2 [.str T]).set 1 (.exc "Malformed" [("at", .int (b : Int))]))[1]? = some (.exc "Malformed" [("at", .int (b : Int))]) from rfl]
        dsimp only
        rw [if_pos (show XFD "Malformed" "at" = true by rfl)]
        rfl
    exact ⟨_, _, run_rt (seq_rt t), MH.get_push_same _, l.trans (Le.push _ _)⟩
end
end Mine
end
section
set_option Elab.async false
set_option linter.all false
set_option maxRecDepth 100000
set_option maxHeartbeats 4000000
/-! KF13: what is read can be shown. -/
namespace Mine
open PySem PySem.Spec MX
def okD (m w : Nat) (d : PyData) : Prop := d.canLay0 = true ∧ d.depth ≤ m ∧ d.leavesShort 21 = true ∧ d.showable = true ∧ d.weight ≤ w
def okDs (m w : Nat) (ds : List PyData) : Prop := PyData.canLayAll0 ds = true ∧ PyData.depthAll ds ≤ m ∧ PyData.leavesShortAll 21 ds = true ∧ PyData.showableAll ds = true ∧ PyData.weightAll ds ≤ w
/-- its data, the same of every heap, can be shown -/
def Dat (m w : Nat) (v : MV) : Prop := ∃ d, (∀ k M, m < k → snap k M v = some d) ∧ okD m w d
def Dats (m w : Nat) (vs : List MV) : Prop := ∃ ds, (∀ k M, m < k → allO (snap k M) vs = some ds) ∧ okDs m w ds
theorem Dat.imp {m w m' w' : Nat} {v : MV} (h : Dat m w v) (h1 : m ≤ m') (h2 : w ≤ w') : Dat m' w' v := by
  obtain ⟨d, e, a1, a2, a3, a4, a5⟩ := h
  exact ⟨d, fun k M hk => e k M (by omega), a1, by omega, a3, a4, by omega⟩
theorem Dats.nil (m w : Nat) : Dats m w [] := ⟨[], fun _ _ _ => rfl, rfl, Nat.zero_le _, rfl, rfl, Nat.zero_le _⟩
theorem Dats.cons {m w w' : Nat} {v : MV} {vs : List MV} (h : Dat m w v) (h2 : Dats m w' vs) : Dats m (w + 1 + w') (v :: vs) := by
  obtain ⟨d, e, a1, a2, a3, a4, a5⟩ := h
  obtain ⟨ds, e', b1, b2, b3, b4, b5⟩ := h2
  refine ⟨d :: ds, fun k M hk => ?_, ?_, ?_, ?_, ?_, ?_⟩
  · unfold allO
    rw [e k M hk]
    show (allO (snap k M) vs).map (d :: ·) = _
    rw [e' k M hk]
    rfl
  · show (d.canLay0 && PyData.canLayAll0 ds) = true
    rw [a1, b1]; rfl
  · show max d.depth (PyData.depthAll ds) ≤ m
    omega
  · show (d.leavesShort 21 && PyData.leavesShortAll 21 ds) = true
    rw [a3, b3]; rfl
  · show (d.showable && PyData.showableAll ds) = true
    rw [a4, b4]; rfl
  · show d.weight + 1 + PyData.weightAll ds ≤ _
    omega
theorem Dats.snoc {m w' : Nat} {v : MV} (h : Dat m w' v) : ∀ {w : Nat} {vs : List MV}, Dats m w vs → Dats m (w + (w' + 1)) (vs ++ [v]) := by
  intro w vs
  induction vs generalizing w with
  | nil =>
    intro h2
    have z := Dats.cons h (Dats.nil m 0)
    obtain ⟨ds, e, b1, b2, b3, b4, b5⟩ := z
    exact ⟨ds, e, b1, b2, b3, b4, by omega⟩
  | cons u us ih =>
    intro h2
    obtain ⟨ds, e, b1, b2, b3, b4, b5⟩ := h2
    -- the head's data
    have e0 := e (m + 1) ⟨.e, 0⟩ (by omega)
    unfold allO at e0
    split at e0
    · cases e0
    · rename_i d hd
      cases hx : allO (snap (m + 1) ⟨.e, 0⟩) us with
      | none => rw [hx] at e0; cases e0
      | some ds' =>
        rw [hx] at e0
        have e0 : d :: ds' = ds := Option.some.inj e0
        subst e0
        have b1' : (d.canLay0 && PyData.canLayAll0 ds') = true := b1
        have b2' : max d.depth (PyData.depthAll ds') ≤ m := b2
        have b3' : (d.leavesShort 21 && PyData.leavesShortAll 21 ds') = true := b3
        have b4' : (d.showable && PyData.showableAll ds') = true := b4
        have b5' : d.weight + 1 + PyData.weightAll ds' ≤ w := b5
        rw [Bool.and_eq_true] at b1' b3' b4'
        have hk : ∀ k M, m < k → snap k M u = some d ∧ allO (snap k M) us = some ds' := by
          intro k M hk
          have z := e k M hk
          unfold allO at z
          split at z
          · cases z
          · rename_i d2 h2
            cases hy : allO (snap k M) us with
            | none => rw [hy] at z; cases z
            | some ds2 =>
              rw [hy] at z
              have z : d2 :: ds2 = d :: ds' := Option.some.inj z
              injection z with z1 z2
              rw [h2, z1, z2]
              exact ⟨rfl, rfl⟩
        have q : Dats m (d.weight + 1 + (PyData.weightAll ds' + (w' + 1))) (u :: (us ++ [v])) := Dats.cons ⟨d, fun k M h => (hk k M h).1, b1'.1, by omega, b3'.1, b4'.1, Nat.le_refl _⟩ (ih ⟨ds', fun k M h => (hk k M h).2, b1'.2, by omega, b3'.2, b4'.2, Nat.le_refl _⟩)
        obtain ⟨es, f, c1, c2, c3, c4, c5⟩ := q
        exact ⟨es, f, c1, c2, c3, c4, by omega⟩
theorem Dats.tup {m w : Nat} {vs : List MV} (h : Dats m w vs) : Dat (m + 1) w (.tup vs) := by
  obtain ⟨ds, e, b1, b2, b3, b4, b5⟩ := h
  refine ⟨.tuple ds, fun k M hk => ?_, b1, ?_, b3, b4, b5⟩
  · match k, hk with
    | k + 1, hk =>
      show (allO (snap k M) vs).map PyData.tuple = _
      rw [e k M (by omega)]
      rfl
  · show PyData.depthAll ds + 1 ≤ m + 1
    omega
theorem Dat.non (m w : Nat) : Dat m w .non := ⟨.none, fun k M h => (match k, h with | k + 1, _ => rfl), rfl, Nat.zero_le _, rfl, rfl, Nat.zero_le _⟩
theorem Dat.str {m w : Nat} {x : List Nat} (h : ∀ c ∈ x, c < 1114112) (hw : x.length ≤ w) : Dat m w (.str x) := by
  refine ⟨.str ⟨x.toArray⟩, fun k M h => (match k, h with | k + 1, _ => rfl), ?_, Nat.zero_le _, ?_, rfl, ?_⟩
  · show PyData.strOk ⟨x.toArray⟩ = true
    unfold PyData.strOk
    rw [Array.all_eq_true]
    intro i hi
    have hi' : i < x.length := by simpa using hi
    have : x[i] < 1114112 := h _ (List.getElem_mem hi')
    simpa using this
  · show (x.toArray.toList.all fun c => decide (c < 16 ^ 8)) = true
    rw [List.all_eq_true]
    intro c hc
    have := h c (by simpa using hc)
    exact decide_eq_true (by omega)
  · show x.toArray.size ≤ w
    simpa using hw
theorem Dat.int {m w : Nat} {i : Int} (h : i.natAbs < 10 ^ 20) (hw : 67 ≤ w) : Dat m w (.int i) := by
  have h67 : i.natAbs < 2 ^ 67 := Nat.lt_of_lt_of_le h (by decide)
  have hl : i.natAbs.log2 < 67 := by
    by_cases z : i.natAbs = 0
    · rw [z]; decide
    · exact (Nat.log2_lt z).mpr h67
  refine ⟨.int i, fun k M h => (match k, h with | k + 1, _ => rfl), rfl, Nat.zero_le _, ?_, ?_, ?_⟩
  · show decide ((PyData.shown (.int i)).length ≤ 21) = true
    refine decide_eq_true ?_
    have e := int_text_length_le10 (k := 20) (by decide) h
    show (Str.ofString (toString i)).length ≤ 21
    rw [ofString_length]
    exact e
  · exact decide_eq_true (show i.natAbs.log2 < 1920 by omega)
  · show (if i == 0 then 0 else i.natAbs.log2 + 1) ≤ w
    split <;> omega
end Mine
end
section
set_option Elab.async false
set_option linter.all false
set_option maxRecDepth 100000
set_option maxHeartbeats 4000000
/-! KF14: data of what is read; the words of answers. -/
namespace Mine
open PySem PySem.Spec MX
theorem val_lt_aux : ∀ (k : Nat) (cs : List Nat), cs.length = k → NumText.AllDigits cs → NumText.digitsVal cs < 10 ^ k := by
  intro k
  induction k with
  | zero =>
    intro cs h _
    rw [List.length_eq_zero_iff.mp h]
    decide
  | succ k ih =>
    intro cs h hd
    have hne : cs ≠ [] := by
      intro e
      rw [e] at h
      cases h
    obtain ⟨ds, c, rfl⟩ : ∃ ds c, cs = ds ++ [c] := ⟨cs.dropLast, cs.getLast hne, (List.dropLast_concat_getLast hne).symm⟩
    have hl : ds.length = k := by
      rw [List.length_append] at h
      simpa using h
    have z := ih ds hl fun x hx => hd x (List.mem_append_left _ hx)
    have hc := hd c (List.mem_append_right _ (List.mem_singleton.mpr rfl))
    rw [NumText.digitsVal_snoc, Nat.pow_succ]
    omega
theorem val_lt {cs : List Nat} (h : NumText.AllDigits cs) : NumText.digitsVal cs < 10 ^ cs.length := val_lt_aux _ cs rfl h
theorem rdInt_dat {T : List Nat} {a b : Nat} {v : MV} (m : Nat) (h : rdInt T a = .ok (v, b)) : Dat m 67 v := by
  unfold rdInt at h
  dsimp only at h
  generalize (if isAt T a [45] = true then a + 1 else a) = s at h
  split at h
  · cases h
  · split at h
    · cases h
    · split at h
      · cases h
      · rename_i hr
        injection h with h
        injection h with h1 h2
        rw [← h1]
        have hv := val_lt (run_digits T s)
        have hl : ((T.drop s).take (runL T s FIG)).length ≤ 20 := by
          rw [List.length_take]
          omega
        have hv2 : NumText.digitsVal ((T.drop s).take (runL T s FIG)) < 10 ^ 20 := Nat.lt_of_lt_of_le hv (Nat.pow_le_pow_right (by decide) hl)
        refine Dat.int ?_ (Nat.le_refl _)
        unfold worth
        split
        · rw [Int.natAbs_neg]; exact hv2
        · exact hv2
mutual
theorem rdTerm_dat : ∀ (f : Nat) {T : List Nat} {a d b : Nat} {v : MV}, d ≤ 60 → rdTerm f T a d = some (.ok (v, b)) → Dat (60 - d) (68 * (b - a) - 1) v
  | 0, _, _, _, _, _, _, h => by cases h
  | f + 1, T, a, d, b, v, hd, h => by
    have hlt := rdTerm_lt (f + 1) h
    unfold rdTerm at h
    split at h
    · split at h
      · cases h
      · have z := rdEnts_dat f (by omega) (by omega) (Dats.nil _ 0) h
        have l := rdEnts_lt f h
        exact z.imp (by omega) (by omega)
    · split at h
      · cases h
        exact Dat.str (fun c hc => by cases hc) (Nat.zero_le _)
      · split at h
        · injection h with h
          injection h with h
          injection h with h1 h2
          rw [← h1]
          split
          · exact Dat.non _ _
          · refine Dat.str (fun c hc => ?_) ?_
            · rw [take_run] at hc
              have := takeWhile_all _ c hc
              simp only [decide_eq_true_eq, List.mem_cons, List.mem_nil_iff, or_false] at this
              omega
            · rw [List.length_take]
              omega
        · exact (rdInt_dat _ (Option.some.inj h)).imp (Nat.le_refl _) (by omega)
theorem rdEnts_dat : ∀ (f : Nat) {T : List Nat} {a d b w : Nat} {vs : List MV} {v : MV}, d ≤ 60 → 1 ≤ d → Dats (60 - d) w vs → rdEnts f T a d vs = some (.ok (v, b)) → Dat (60 - d + 1) (w + 68 * (b - a)) v
  | 0, _, _, _, _, _, _, _, _, _, _, h => by cases h
  | f + 1, T, a, d, b, w, vs, v, hd, hd1, hv, h => by
    unfold rdEnts at h
    split at h
    · cases h
      exact hv.tup.imp (Nat.le_refl _) (by omega)
    · split at h
      · cases h
      · split at h
        · cases h
        · cases h
        · rename_i v' b' e
          have z := rdTerm_dat f hd e
          have l1 := rdTerm_lt f e
          have l2 := rdEnts_lt f h
          have hs : a ≤ (if vs.isEmpty = true then a else a + 1) := by split <;> omega
          exact (rdEnts_dat f hd hd1 (Dats.snoc z hv) h).imp (Nat.le_refl _) (by omega)
end
/-- the words of an answer's list -/
theorem repr_two {w0 : List Nat} {v : MV} {m w : Nat} (hw0 : ∀ c ∈ w0, c < 1114112) (hl : w0.length ≤ 8) (h : Dat m w v) (hm : m ≤ 60) (hw : w ≤ 700000) : ∃ x, ∀ (M : MH) (q : Nat), M.get q = some (.lst [.str w0, v]) → fRepr [.ref q] M = .ok (.str x) M := by
  obtain ⟨ds, e, b1, b2, b3, b4, b5⟩ := Dats.cons (Dat.str (m := m) (w := 8) hw0 hl) (Dats.cons h (Dats.nil m 0))
  refine ⟨(PyData.list ds).shown.cps.toList, fun M q hq => ?_⟩
  have sn : snap 200 M (.ref q) = some (.list ds) := by
    show (match M.get q with
      | some (.lst xs) => (allO (snap 199 M) xs).map PyData.list
      | _ => none) = _
    rw [hq]
    dsimp only
    rw [e 199 M (by omega)]
    rfl
  unfold fRepr
  dsimp only
  rw [sn]
  dsimp only
  have s1 : (PyData.list ds).showable = true := b4
  have s2 : (PyData.list ds).hasDict = false := PyData.hasDict_of_canLay _ b1
  have s3 : (PyData.list ds).depth ≤ 100 := by
    show PyData.depthAll ds + 1 ≤ 100
    omega
  have s4 : (PyData.list ds).shown.length ≤ 16777216 := by
    have z := PyData.shown_le 21 (by decide) (.list ds) b3
    have wz : (PyData.list ds).weight = PyData.weightAll ds := rfl
    rw [wz] at z
    omega
  rw [s1, s2, decide_eq_true s3, decide_eq_true s4]
  rfl
theorem rdInt_err {T : List Nat} {a b : Nat} (ha : a ≤ T.length) (h : rdInt T a = .error b) : b ≤ T.length := by
  unfold rdInt at h
  dsimp only at h
  generalize hs : (if isAt T a [45] = true then a + 1 else a) = s at h
  have has : s ≤ T.length := by
    rw [← hs]
    split
    · rename_i q
      have := isAt_lt q
      omega
    · exact ha
  have hr := run_le T s FIG
  split at h
  · injection h with h
    omega
  · split at h
    · rename_i q
      rw [Bool.and_eq_true] at q
      have := isAt_lt q.1
      injection h with h
      omega
    · split at h
      · injection h with h
        omega
      · cases h
mutual
theorem rdTerm_err : ∀ (f : Nat) {T : List Nat} {a d b : Nat}, a ≤ T.length → rdTerm f T a d = some (.error b) → b ≤ T.length
  | 0, _, _, _, _, _, h => by cases h
  | f + 1, T, a, d, b, ha, h => by
    unfold rdTerm at h
    split at h
    · rename_i q
      have := isAt_lt q
      split at h
      · cases h
        omega
      · exact rdEnts_err f (by omega) h
    · split at h
      · cases h
      · split at h
        · cases h
        · exact rdInt_err ha (Option.some.inj h)
theorem rdEnts_err : ∀ (f : Nat) {T : List Nat} {a d b : Nat} {vs : List MV}, a ≤ T.length → rdEnts f T a d vs = some (.error b) → b ≤ T.length
  | 0, _, _, _, _, _, _, h => by cases h
  | f + 1, T, a, d, b, vs, ha, h => by
    unfold rdEnts at h
    split at h
    · cases h
    · split at h
      · cases h
        omega
      · rename_i q
        have hs : (if vs.isEmpty = true then a else a + 1) ≤ T.length := by
          split
          · exact ha
          · rename_i ne
            by_cases c : isAt T a [32] = true
            · have := isAt_lt c
              omega
            · exact absurd (show (!vs.isEmpty && !isAt T a [32]) = true by
                rw [Bool.not_eq_true] at ne c
                rw [ne, c]
                rfl) q
        split at h
        · cases h
        · rename_i b' e
          cases h
          exact rdTerm_err f hs e
        · rename_i v' b' e
          have l1 := rdTerm_lt f e
          exact rdEnts_err f (by omega) h
end
theorem repr_ans {f : Nat} {T : List Nat} {r : Rv} (hr : rdTerm f T 0 0 = some r) (hT : T.length ≤ 10000) : ∃ x, ∀ (M : MH) (q : Nat), M.get q = some (.lst (ansV (whole T r))) → fRepr [.ref q] M = .ok (.str x) M := by
  have err : ∀ b : Nat, b ≤ 10000 → ∃ x, ∀ (M : MH) (q : Nat), M.get q = some (.lst (ansV (.error b))) → fRepr [.ref q] M = .ok (.str x) M := fun b hb =>
    repr_two (m := 0) (w := 67) (w0 := BAD) (v := .int b) (by decide) (by decide) (Dat.int (Nat.lt_of_le_of_lt (show (b : Int).natAbs ≤ 10000 from hb) (by decide)) (Nat.le_refl _)) (by decide) (by decide)
  cases r with
  | error b => exact err b (Nat.le_trans (rdTerm_err f (Nat.zero_le _) hr) hT)
  | ok vb =>
    obtain ⟨v, b⟩ := vb
    have l := rdTerm_lt f hr
    show ∃ x, ∀ (M : MH) (q : Nat), M.get q = some (.lst (ansV (if b < T.length then .error b else .ok v))) → _
    by_cases hb : b < T.length
    · rw [if_pos hb]
      exact err b (by omega)
    · rw [if_neg hb]
      have z := rdTerm_dat f (by decide) hr
      exact repr_two (m := 60) (w := 68 * (b - 0) - 1) (w0 := [116, 101, 114, 109]) (by decide) (by decide) z (by decide) (by omega)
/-- told is due, in words -/
theorem repr_same {n L f : Nat} {T : List Nat} {M : MH} {r : Rv} (hr : rdTerm f T 0 0 = some r) (nb : NoBad T) (hT : T.length ≤ 10000) (hn : T.length + 1 < n) (hL : 145 ≤ L) {a b : ME} {τ : MX.Loc}
    (ha : ∀ M, a τ M = fnK (datF n) L e__law_told [.str T] M) (hb : ∀ M, b τ M = fnK (datF n) L e__law_due [.str T] M) :
    ∃ M', m2 fNe (mApp fRepr (mCons a mNil)) (mApp fRepr (mCons b mNil)) τ M = .ok (.bl false) M' ∧ Le M M' := by
  obtain ⟨x, hx⟩ := repr_ans hr hT
  obtain ⟨M1, q1, e1, g1, l1⟩ := told_ok (M := M) hr hL (by omega) (by omega : T.length < n)
  obtain ⟨M2, q2, e2, g2, l2⟩ := due_ok (M := M1) (L := L) hr (by omega) nb (by omega) hn
  refine ⟨M2, ?_, l1.trans l2⟩
  rw [op_ok ((app_ok (args1 ((ha M).trans e1))).trans (hx M1 q1 g1)) ((app_ok (args1 ((hb M1).trans e2))).trans (hx M2 q2 g2)), fNe_str]
  simp
end Mine
end
section
set_option Elab.async false
set_option linter.all false
set_option maxRecDepth 100000
set_option maxHeartbeats 4000000
/-! KF15: comprehensions; loops over numbers. -/
namespace Mine
open PySem PySem.Spec MX
theorem lc_gen {w : Wk} {g : MG} {te : ME} {τ : MX.Loc} {r k : Nat} (I : Nat → List MV → MH → Prop) (hk : k ≤ 16777216)
    (step : ∀ i acc M, i < k → acc.length = i → I i acc M → M.get r = some (.lst acc) → ∃ v τ2 M2 y M3, nextM w i M = some (some v) ∧ g v τ M = .ok τ2 M2 ∧ te τ2 M2 = .ok y M3 ∧ M3.get r = some (.lst acc) ∧ I (i + 1) (acc ++ [y]) (M3.set r (.lst (acc ++ [y]))))
    (stop : ∀ acc M, acc.length = k → I k acc M → M.get r = some (.lst acc) → nextM w k M = some none) :
    ∀ (m i : Nat) (acc : List MV) (M : MH) (fuel : Nat), i + m = k → m < fuel → acc.length = i → I i acc M → M.get r = some (.lst acc) → ∃ acc' M', lcGo w g mYes te τ r fuel i M = .ok (.ref r) M' ∧ acc'.length = k ∧ I k acc' M' ∧ M'.get r = some (.lst acc') := by
  intro m
  induction m with
  | zero =>
    intro i acc M fuel him hf hl hI hr
    obtain ⟨fuel, rfl⟩ : ∃ f', fuel = f' + 1 := ⟨fuel - 1, by omega⟩
    obtain rfl : i = k := by omega
    refine ⟨acc, M, ?_, hl, hI, hr⟩
    unfold lcGo
    rw [stop acc M hl hI hr]
  | succ m ih =>
    intro i acc M fuel him hf hl hI hr
    obtain ⟨fuel, rfl⟩ : ∃ f', fuel = f' + 1 := ⟨fuel - 1, by omega⟩
    obtain ⟨v, τ2, M2, y, M3, e1, e2, e3, e4, e5⟩ := step i acc M (by omega) hl hI hr
    obtain ⟨acc', M', f1, f2, f3, f4⟩ := ih (i + 1) (acc ++ [y]) (M3.set r (.lst (acc ++ [y]))) fuel (by omega) (by omega) (by rw [List.length_append, hl]; rfl) e5 (MH.get_set_same (MH.lt e4))
    refine ⟨acc', M', ?_, f2, f3, f4⟩
    unfold lcGo
    rw [e1]
    dsimp only
    rw [e2]
    show (mYes τ2 M2).bind _ = _
    show (te τ2 M2).bind _ = _
    rw [e3]
    show (match M3.get r with
          | some (.lst acc) => if acc.length < 16777216 then lcGo w g mYes te τ r fuel (i + 1) (M3.set r (.lst (acc ++ [y]))) else .stuck
          | _ => .stuck) = _
    rw [e4]
    dsimp only
    rw [if_pos (by omega)]
    exact f1
/-- an element of which an exception comes -/
theorem lc_raise {w : Wk} {g : MG} {te : ME} {τ τ2 : MX.Loc} {r i fuel : Nat} {v : MV} {M M2 M3 : MH} {c : Str} {fs : List (Str × MV)} (e1 : nextM w i M = some (some v)) (e2 : g v τ M = .ok τ2 M2) (e3 : te τ2 M2 = .ex c fs M3) : lcGo w g mYes te τ r (fuel + 1) i M = .ex c fs M3 := by
  unfold lcGo
  rw [e1]
  dsimp only
  rw [e2]
  show (te τ2 M2).bind _ = _
  rw [e3]
  rfl
theorem lc_next {w : Wk} {g : MG} {te : ME} {τ τ2 : MX.Loc} {r i fuel : Nat} {v y : MV} {acc : List MV} {M M2 M3 : MH} (e1 : nextM w i M = some (some v)) (e2 : g v τ M = .ok τ2 M2) (e3 : te τ2 M2 = .ok y M3) (e4 : M3.get r = some (.lst acc)) (hl : acc.length < 16777216) :
    lcGo w g mYes te τ r (fuel + 1) i M = lcGo w g mYes te τ r fuel (i + 1) (M3.set r (.lst (acc ++ [y]))) := by
  conv => lhs; unfold lcGo
  rw [e1]
  dsimp only
  rw [e2]
  show (te τ2 M2).bind _ = _
  rw [e3]
  show (match M3.get r with
        | some (.lst acc) => if acc.length < 16777216 then lcGo w g mYes te τ r fuel (i + 1) (M3.set r (.lst (acc ++ [y]))) else .stuck
        | _ => .stuck) = _
  rw [e4]
  dsimp only
  rw [if_pos hl]
/-- a list that is as it was, of things that add to the heap alone -/
theorem lc_map {n : Nat} {it : MI} {g : MG} {te : ME} {cs : List Nat} {τ : MX.Loc} {M M1 : MH} {w : Wk} {vs : List MV} (f : MV → MV) (hit : it τ M = .ok w M1) (hw : ∀ i M2, Le M1 M2 → nextM w i M2 = some vs[i]?)
    (hel : ∀ v ∈ vs, ∀ M2, Le M1 M2 → ∃ τ2 M3, g v (wipeL τ cs) M2 = .ok τ2 M2 ∧ te τ2 M2 = .ok (f v) M3 ∧ Le M2 M3) (hn : vs.length < n) (hl : vs.length ≤ 16777216) :
    ∃ M' q, mLc n it g mYes te cs τ M = .ok (.ref q) M' ∧ M'.get q = some (.lst (vs.map f)) ∧ Le M1 M' := by
  unfold mLc
  rw [hit]
  show ∃ M' q, lcGo w g mYes te (wipeL τ cs) M1.n n 0 (M1.push (.lst [])) = .ok (.ref q) M' ∧ _
  obtain ⟨acc, M', e1, e2, ⟨e3, e4⟩, e5⟩ := lc_gen (w := w) (g := g) (te := te) (τ := wipeL τ cs) (r := M1.n) (k := vs.length) (fun i acc M2 => acc = (vs.take i).map f ∧ Le M1 M2) hl
    (by
      intro i acc M2 hi hacc hI hr
      obtain ⟨hI1, hI2⟩ := hI
      obtain ⟨τ2, M3, g1, g2, g3⟩ := hel vs[i] (List.getElem_mem hi) M2 hI2
      have ev : nextM w i M2 = some (some vs[i]) := by
        rw [hw i M2 hI2, List.getElem?_eq_getElem hi]
      refine ⟨vs[i], τ2, M2, f vs[i], M3, ev, g1, g2, g3.get hr, ?_, ?_⟩
      · rw [hI1, List.take_add_one, List.getElem?_eq_getElem hi, List.map_append]
        rfl
      · exact LeX.le (hI2.trans g3) (LeX.set M1.n M3 _) (Nat.le_refl _))
    (by
      intro acc M2 hacc hI hr
      rw [hw _ M2 hI.2, List.getElem?_eq_none_iff.mpr (Nat.le_refl _)])
    vs.length 0 [] (M1.push (.lst [])) n (by omega) hn rfl ⟨by simp, Le.push _ _⟩ (MH.get_push_same _)
  refine ⟨M', _, e1, ?_, e4⟩
  rw [e5, e3, List.take_length]
end Mine
end
section
set_option Elab.async false
set_option linter.all false
set_option maxRecDepth 100000
set_option maxHeartbeats 4000000
/-! KF16: texts of terms. -/
namespace Mine
open PySem PySem.Spec MX L2 TL
theorem show_nat (m : Nat) : showInt (m : Int) = numL m := tl_num m
theorem show_neg (m : Nat) : showInt (-((m + 1 : Nat) : Int)) = 45 :: numL (m + 1) := by
  unfold showInt
  have e : toString (-((m + 1 : Nat) : Int)) = "-" ++ Nat.repr (m + 1) := rfl
  rw [e, PyProof.Rows.signs_ofString, String.toList_append, List.map_append, Nat.toList_repr]
  rfl
mutual
def txt : MV → List Nat
  | .non => NON
  | .int i => showInt i
  | .str w => if w = [] then [46] else w
  | .tup vs => 40 :: (joinM [32] (txts vs) ++ [41])
  | _ => []
def txts : List MV → List (List Nat)
  | [] => []
  | v :: vs => txt v :: txts vs
end
theorem txts_map : ∀ vs, txts vs = vs.map txt
  | [] => by rw [txts]; rfl
  | v :: vs => by rw [txts, txts_map vs]; rfl
/-- a drawn term, m deep at most -/
def Tm : Nat → MV → Prop
  | _, .non => True
  | _, .int i => i.natAbs < 10 ^ 20
  | _, .str w => (∀ c ∈ w, c ∈ SML) ∧ w ≠ NON ∧ w.length ≤ 21
  | m + 1, .tup vs => vs.length ≤ 3 ∧ ∀ v ∈ vs, Tm m v
  | _, _ => False
def LB : Nat → Nat
  | 0 => 21
  | m + 1 => 3 * LB m + 8
theorem LB_pos (m : Nat) : 21 ≤ LB m := by
  induction m with
  | zero => exact Nat.le_refl _
  | succ m ih => show 21 ≤ 3 * LB m + 8; omega
theorem joinM_len (sep : List Nat) : ∀ ts : List (List Nat), (joinM sep ts).length ≤ (ts.map (·.length)).sum + ts.length * sep.length
  | [] => Nat.zero_le _
  | [x] => by simp [joinM]
  | x :: y :: r => by
    have ih := joinM_len sep (y :: r)
    show (x ++ (sep ++ joinM sep (y :: r))).length ≤ _
    rw [List.length_append, List.length_append]
    simp only [List.map_cons, List.sum_cons, List.length_cons, Nat.add_mul, Nat.one_mul] at ih ⊢
    omega
theorem sum_le {α : Type} (f : α → Nat) (B : Nat) : ∀ l : List α, (∀ x ∈ l, f x ≤ B) → (l.map f).sum ≤ l.length * B
  | [], _ => Nat.zero_le _
  | x :: l, h => by
    have ih := sum_le f B l fun y hy => h y (List.mem_cons_of_mem _ hy)
    have h0 := h x (List.mem_cons_self ..)
    simp only [List.map_cons, List.sum_cons, List.length_cons, Nat.add_mul, Nat.one_mul]
    omega
theorem show_len {i : Int} (h : i.natAbs < 10 ^ 20) : (showInt i).length ≤ 21 := by
  cases i with
  | ofNat m =>
    rw [show showInt (Int.ofNat m) = numL m from show_nat m]
    exact Nat.le_trans (numL_len (k := 20) (by decide) h) (by decide)
  | negSucc m =>
    rw [show showInt (Int.negSucc m) = 45 :: numL (m + 1) from show_neg m]
    have := numL_len (n := m + 1) (k := 20) (by decide) h
    rw [List.length_cons]
    omega
theorem Tm.len : ∀ {m : Nat} {v : MV}, Tm m v → (txt v).length ≤ LB m
  | m, .non, _ => by rw [txt]; exact Nat.le_trans (show 4 ≤ 21 by decide) (LB_pos m)
  | m, .int i, h => by
    rw [txt]
    have h : i.natAbs < 10 ^ 20 := by cases m <;> exact h
    exact Nat.le_trans (show_len h) (LB_pos m)
  | m, .str w, h => by
    rw [txt]
    have h : (∀ c ∈ w, c ∈ SML) ∧ w ≠ NON ∧ w.length ≤ 21 := by cases m <;> exact h
    have := LB_pos m
    split
    · show 1 ≤ LB m; omega
    · omega
  | m + 1, .tup vs, h => by
    rw [txt, txts_map]
    obtain ⟨h1, h2⟩ := h
    have jl := joinM_len [32] (vs.map txt)
    have sl : ((vs.map txt).map (·.length)).sum ≤ vs.length * LB m := by
      rw [List.map_map]
      exact sum_le (fun v => (txt v).length) (LB m) vs fun v hv => Tm.len (h2 v hv)
    have : vs.length * LB m ≤ 3 * LB m := Nat.mul_le_mul_right _ h1
    simp only [List.length_cons, List.length_append, List.length_map, List.length_nil] at jl ⊢
    show _ ≤ 3 * LB m + 8
    omega
  | 0, .tup _, h => h.elim
  | 0, .bl _, h => h.elim
  | 0, .fro _, h => h.elim
  | 0, .ref _, h => h.elim
  | 0, .ty _, h => h.elim
  | 0, .glo _, h => h.elim
  | m + 1, .bl _, h => h.elim
  | m + 1, .fro _, h => h.elim
  | m + 1, .ref _, h => h.elim
  | m + 1, .ty _, h => h.elim
  | m + 1, .glo _, h => h.elim
/-- brackets around -/
theorem texts_map (f : MV → List Nat) : ∀ vs : List MV, texts (vs.map fun v => .str (f v)) = some (vs.map f)
  | [] => rfl
  | v :: vs => by
    show (texts (vs.map fun v => .str (f v))).map (f v :: ·) = _
    rw [texts_map f vs]
    rfl
section
variable {n : Nat}
theorem wrap_ok {τ : MX.Loc} {M M' : MH} {lc : ME} {q m : Nat} {vs : List MV} (h : lc τ M = .ok (.ref q) M') (hq : M'.get q = some (.lst (vs.map fun v => .str (txt v)))) (h1 : vs.length ≤ 3) (h2 : ∀ v ∈ vs, Tm m v) (hm : m ≤ 4) :
    m2 fPlus (m2 fPlus (mK (.str [40])) (mBM isStrM fJoin (mK (.str [32])) (mCons lc mNil))) (mK (.str [41])) τ M = .ok (.str (40 :: (joinM [32] (txts vs) ++ [41]))) M' := by
  have lb : LB m ≤ LB 4 := by
    have : ∀ m ≤ 4, LB m ≤ LB 4 := by decide
    exact this m hm
  have l4 : LB 4 = 2021 := by decide
  have jl := joinM_len [32] (vs.map txt)
  have sl : ((vs.map txt).map (·.length)).sum ≤ vs.length * LB m := by
    rw [List.map_map]
    exact sum_le (fun v => (txt v).length) (LB m) vs fun v hv => Tm.len (h2 v hv)
  have : vs.length * LB m ≤ 3 * 2021 := Nat.mul_le_mul h1 (by omega)
  have e1 : [32].length = 1 := rfl
  rw [e1, List.length_map] at jl
  have jn : mBM isStrM fJoin (mK (.str [32])) (mCons lc mNil) τ M = .ok (.str (joinM [32] (vs.map txt))) M' := by
    rw [bm_ok (x := .str [32]) rfl rfl (args1 h)]
    unfold fJoin
    dsimp only
    rw [hq]
    dsimp only
    unfold joinRes
    rw [texts_map]
    dsimp only
    rw [if_pos (by rw [e1, List.length_map]; omega)]
  have p1 : m2 fPlus (mK (.str [40])) (mBM isStrM fJoin (mK (.str [32])) (mCons lc mNil)) τ M = .ok (.str ([40] ++ joinM [32] (vs.map txt))) M' := by
    rw [op_ok (v := .str [40]) rfl jn]
    unfold fPlus
    dsimp only
    exact if_pos (by show 1 + _ ≤ _; omega)
  rw [op_ok p1 (w := .str [41]) rfl, txts_map]
  unfold fPlus
  dsimp only
  rw [if_pos (by rw [List.length_append]; show 1 + _ + 1 ≤ _; omega)]
  rfl
theorem Tm.tyi {m : Nat} {v : MV} (h : Tm m v) (M : MH) : (v = .non ∨ ∃ t i s, fIsi [v, .ty "int"] M = .ok (.bl i) M ∧ fIsi [v, .ty "str"] M = .ok (.bl s) M ∧ isN v = false ∧ ((∃ j, v = .int j ∧ i = true) ∨ (∃ w, v = .str w ∧ i = false ∧ s = true) ∨ (∃ vs, v = .tup vs ∧ i = false ∧ s = false)) ∧ t = ()) := by
  cases v with
  | non => exact .inl rfl
  | int j => exact .inr ⟨(), true, false, rfl, rfl, rfl, .inl ⟨j, rfl, rfl⟩, rfl⟩
  | str w => exact .inr ⟨(), false, true, rfl, rfl, rfl, .inr (.inl ⟨w, rfl, rfl, rfl⟩), rfl⟩
  | tup vs => exact .inr ⟨(), false, false, rfl, rfl, rfl, .inr (.inr ⟨vs, rfl, rfl, rfl⟩), rfl⟩
  | _ => cases m <;> exact h.elim
def TextP (n m : Nat) : Prop := ∀ {v : MV}, Tm m v → ∀ {L : Nat} {M : MH}, m + 3 ≤ L → ∃ M', fnK (datF n) L e__law_text [v] M = .ok (.str (txt v)) M' ∧ Le M M'
theorem law_text_step {m : Nat} (hm : m ≤ 5) (hn : 3 < n) (ih : ∀ m', m = m' + 1 → TextP n m') : TextP n m := by
  intro v h L M hL
  obtain ⟨k, rfl⟩ : ∃ k, L = k + 3 := ⟨L - 3, by omega⟩
  rw [b__law_text]
  unfold c__law_text
  generalize hτ : startM 2 [v] = τ
  have a0 : τ[0]? = some (.va v) := by rw [← hτ]; rfl
  have tn : mTest (mIsN (mVar 0)) τ M = .ok (isN v) M := by
    refine test_ok ?_
    unfold mIsN
    rw [var_ok a0]
    rfl
  have ty : ∀ s b, fIsi [v, .ty s] M = .ok (.bl b) M → mTru (mApp fIsi (mCons (mVar 0) (mCons (mK (.ty s)) mNil))) τ M = .ok b M := fun s b e => tru_b ((app_ok (argsC (var_ok a0) (args1 rfl))).trans e)
  rcases h.tyi M with rfl | ⟨_, i, s, e1, e2, e3, h3, _⟩
  · refine ⟨M, run_rt (seq_rt ((if_t ?_).trans (seq_rt (ret_ok rfl)))), Le.refl M⟩
    rw [hτ]
    exact tn
  · rw [e3] at tn
    rcases h3 with ⟨j, rfl, rfl⟩ | ⟨w, rfl, rfl, rfl⟩ | ⟨vs, rfl, rfl, rfl⟩
    · refine ⟨M, run_rt ?_, Le.refl M⟩
      rw [hτ]
      have hj : j.natAbs < 10 ^ 20 := by cases m <;> exact h
      rw [txt]
      refine (seq_nx ((if_f tn).trans next_nx)).trans (seq_rt ((if_t (ty _ _ e1)).trans (seq_rt (ret_ok ((app_ok (args1 (var_ok a0))).trans ?_)))))
      unfold fStrC
      exact if_pos (Nat.lt_of_lt_of_le hj (Nat.pow_le_pow_right (by decide) (by decide)))
    · refine ⟨M, run_rt ?_, Le.refl M⟩
      rw [hτ]
      rw [txt]
      refine (seq_nx ((if_f tn).trans next_nx)).trans ((seq_nx ((if_f (ty _ _ e1)).trans next_nx)).trans (seq_rt ((if_t (ty _ _ e2)).trans (seq_rt (ret_ok ?_)))))
      rw [ife_b (test_ok ((op_ok (var_ok a0) rfl).trans (fNe_str M w [])))]
      by_cases z : w = []
      · rw [if_pos z, if_neg (by rw [decide_eq_true z]; decide)]
        rfl
      · rw [if_neg z, if_pos (by rw [decide_eq_false z]; rfl), var_ok a0]
    · cases m with
      | zero => exact h.elim
      | succ m =>
        obtain ⟨h1, h2⟩ := h
        have ih : TextP n m := @ih m rfl
        obtain ⟨M', q, f1, f2, f3⟩ := lc_map (n := n) (it := mWalk (mVar 0)) (g := gSet 1) (te := mCall 1 (fnK (datF n) (k + 2) e__law_text) (mCons (mVar 1) mNil)) (cs := [1]) (τ := τ) (M := M) (M1 := M) (w := .fix vs) (vs := vs) (fun v => .str (txt v))
          (by unfold mWalk; rw [var_ok a0]; rfl) (fun i M2 _ => rfl)
          (by
            intro v hv M2 _
            obtain ⟨M3, c1, c2⟩ := ih (h2 v hv) (L := k + 2) (M := M2) (by omega)
            refine ⟨_, M3, rfl, ?_, c2⟩
            refine (call_ok (n := 1) (xs := [v]) (args1 (var_ok ?_)) rfl).trans c1
            rw [← hτ]
            rfl) (by omega) (by omega)
        refine ⟨M', run_rt ?_, f3⟩
        rw [hτ]
        rw [txt]
        refine (seq_nx ((if_f tn).trans next_nx)).trans ((seq_nx ((if_f (ty _ _ e1)).trans next_nx)).trans ((seq_nx ((if_f (ty _ _ e2)).trans next_nx)).trans (seq_rt (ret_ok (wrap_ok f1 f2 h1 h2 (by omega))))))
theorem law_text_ok (hn : 3 < n) : ∀ {m : Nat}, m ≤ 5 → TextP n m := by
  intro m
  induction m with
  | zero => intro hm; exact law_text_step hm hn fun m' e => nomatch e
  | succ m ih => intro hm; exact law_text_step hm hn fun m' e => by cases e; exact ih (by omega)
end
end Mine
end
section
set_option Elab.async false
set_option linter.all false
set_option maxRecDepth 100000
set_option maxHeartbeats 4000000
/-! KF17: has_text. -/
namespace Mine
open PySem PySem.Spec MX L2 TL
section
variable {n : Nat}
theorem aug_ok {i : Nat} {f : MV → MV → MH → Res MV} {a : ME} {τ : MX.Loc} {M M' M2 : MH} {v w u : MV} (h : τ[i]? = some (.va v)) (h2 : a τ M = .ok w M') (h3 : f v w M' = .ok u M2) : mAug i f a τ M = .nx (τ.set i (.va u)) M2 := by
  unfold mAug
  rw [h]
  dsimp only
  rw [h2]
  show (f v w M').out τ _ = _
  rw [h3]
  rfl
/-- a loop over numbers -/
theorem for_rng {y k : Nat} {b : MS} {M0 : MH} (I : Nat → MX.Loc → MH → Prop) (step : ∀ i τ M, i < k → I i τ M → ∃ τ' M', b (τ.set y (.va (.int i))) M = .nx τ' M' ∧ I (i + 1) τ' M') :
    ∀ (m i fuel : Nat) (τ : MX.Loc) (M : MH), i + m = k → m < fuel → I i τ M → ∃ τ' M', forGo (.rng 0 k) (gSet y) b fuel i τ M = .nx τ' M' ∧ I k τ' M' := by
  intro m
  induction m with
  | zero =>
    intro i fuel τ M him hf hI
    obtain rfl : i = k := by omega
    exact ⟨τ, M, for_stop hf (end_rng (Nat.le_refl _)), hI⟩
  | succ m ih =>
    intro i fuel τ M him hf hI
    obtain ⟨fuel, rfl⟩ : ∃ f', fuel = f' + 1 := ⟨fuel - 1, by omega⟩
    obtain ⟨τ1, M1, e1, e2⟩ := step i τ M (by omega) hI
    obtain ⟨τ2, M2, f1, f2⟩ := ih (i + 1) fuel τ1 M1 (by omega) (by omega) e2
    exact ⟨τ2, M2, (for_nx (next_rng (by omega)) (show gSet y (.int i) τ M = .ok (τ.set y (.va (.int i))) M from rfl) e1).trans f1, f2⟩
theorem for_rng_ok {y k n : Nat} {b : MS} {A : MA} {τ : MX.Loc} {M M1 : MH} (I : Nat → MX.Loc → MH → Prop) (hA : A τ M = .ok [.int k] M1) (hk : k < 4611686018427387904) (hn : k < n)
    (step : ∀ i τ M, i < k → I i τ M → ∃ τ' M', b (τ.set y (.va (.int i))) M = .nx τ' M' ∧ I (i + 1) τ' M') (hI : I 0 τ M1) : ∃ τ' M', mFor n (rng1 A) (gSet y) b τ M = .nx τ' M' ∧ I k τ' M' := by
  obtain ⟨τ', M', e1, e2⟩ := for_rng (M0 := M) (y := y) (k := k) (b := b) I step k 0 n τ M1 (by omega) hn hI
  refine ⟨τ', M', ?_, e2⟩
  rw [for_ok (rng1_ok hA (by unfold i62; rw [decide_eq_true (by omega), decide_eq_true (by omega)]; rfl))]
  exact e1
theorem mul10 (i : Nat) (M : MH) : fInt mulOk (fun i j => .int (i * j)) (.int ((10 ^ i : Nat) : Int)) (.int 10) M = .ok (.int ((10 ^ (i + 1) : Nat) : Int)) M := by
  unfold fInt
  dsimp only
  have hm : mulOk ((10 ^ i : Nat) : Int) 10 = true := by
    unfold mulOk
    rw [Bool.or_eq_true]
    right
    rfl
  rw [if_pos hm, Nat.pow_succ]
  push_cast
  rfl
theorem abs_nat (i : Int) : (if i < 0 then -i else i) = ((i.natAbs : Nat) : Int) := by
  split <;> omega
theorem pow_le : (2 : Nat) ^ 13287 ≤ 10 ^ 4000 := by decide +kernel
theorem has_text_ok {i : Int} {M : MH} {L : Nat} (hL : 3 ≤ L) (hn : 4000 < n) : fnK (datF n) L e_has_text [.int i] M = .ok (.bl (decide (i.natAbs < 10 ^ 4000))) M := by
  obtain ⟨k, rfl⟩ : ∃ k, L = k + 3 := ⟨L - 3, by omega⟩
  rw [b_has_text]
  unfold c_has_text
  have ab : mApp fAbs (mCons (mVar 0) mNil) (startM 3 [.int i]) M = .ok (.int ((i.natAbs : Nat) : Int)) M := by
    rw [app_ok (args1 (var_ok (v := .int i) rfl)), ← abs_nat]
    rfl
  have sh : m2 fShr (mApp fAbs (mCons (mVar 0) mNil)) (mK (.int 13287)) (startM 3 [.int i]) M = .ok (.int ((i.natAbs / 2 ^ 13287 : Nat) : Int)) M := by
    rw [op_ok ab (w := .int 13287) rfl]
    unfold fShr fInt
    dsimp only
    rw [if_pos (by decide)]
    exact congrArg (fun z => Res.ok (MV.int z) M) (show ((i.natAbs : Nat) : Int) / 2 ^ (13287 : Int).toNat = _ by
      rw [show (13287 : Int).toNat = 13287 from rfl, Int.natCast_ediv, Int.natCast_pow]
      rfl)
  have t := tru_ok2 sh (k := decide (¬ i.natAbs < 2 ^ 13287)) (by
    show some (((i.natAbs / 2 ^ 13287 : Nat) : Int) != 0) = _
    congr 1
    by_cases c : i.natAbs < 2 ^ 13287
    · rw [Nat.div_eq_of_lt c]
      rw [decide_eq_false (by exact fun h => h c)]
      rfl
    · have : 0 < i.natAbs / 2 ^ 13287 := Nat.div_pos (Nat.le_of_not_lt c) (Nat.two_pow_pos _)
      rw [decide_eq_true c]
      exact bne_iff_ne.mpr (by omega))
  by_cases c : i.natAbs < 2 ^ 13287
  · rw [decide_eq_false (fun h => h c)] at t
    rw [decide_eq_true (Nat.lt_of_lt_of_le c pow_le)]
    exact run_rt (seq_rt ((if_t (not_ok t)).trans (seq_rt (ret_ok rfl))))
  · rw [decide_eq_true c] at t
    obtain ⟨τ', M', e1, e2, e3, e4⟩ := for_rng_ok (y := 2) (k := 4000) (n := n) (A := mCons (mK (.int 4000)) mNil) (b := mSeq (mAug 1 (fInt mulOk fun i j => .int (i * j)) (mK (.int 10))) mNext) (τ := (startM 3 [.int i]).set 1 (.va (.int 1))) (M := M) (M1 := M)
      (fun j τ M' => τ[0]? = some (.va (.int i)) ∧ τ[1]? = some (.va (.int ((10 ^ j : Nat) : Int))) ∧ M' = M) rfl (by decide) hn
      (by
        rintro j τ M' hj ⟨h0, h1, rfl⟩
        refine ⟨_, _, (seq_nx (aug_ok (v := .int ((10 ^ j : Nat) : Int)) (w := .int 10) ?_ rfl (mul10 j _))).trans next_nx, ?_, ?_, rfl⟩
        · rw [List.getElem?_set_ne (by decide)]; exact h1
        · rw [List.getElem?_set_ne (by decide), List.getElem?_set_ne (by decide)]; exact h0
        · refine List.getElem?_set_self ?_
          rw [List.length_set]
          exact (List.getElem?_eq_some_iff.mp h1).1) ⟨rfl, rfl, rfl⟩
    subst e4
    refine run_rt ((seq_nx ((if_f (not_ok t)).trans next_nx)).trans ((seq_nx (asg_ok2 rfl)).trans ((seq_nx e1).trans (seq_rt (ret_ok ?_)))))
    have ab' : mApp fAbs (mCons (mVar 0) mNil) τ' M' = .ok (.int ((i.natAbs : Nat) : Int)) M' := by
      rw [app_ok (args1 (var_ok e2)), ← abs_nat]
      rfl
    rw [op_ok ab' (var_ok e3), lt_int2, decide_eq_decide.mpr Int.ofNat_lt]
end
end Mine
end
section
set_option Elab.async false
set_option linter.all false
set_option maxRecDepth 100000
set_option maxHeartbeats 4000000
/-! KF18: term_text. -/
namespace Mine
open PySem PySem.Spec MX L2 TL
section
variable {n : Nat}
theorem bools_map (f : Nat → Bool) : ∀ w : List Nat, bools (w.map fun c => .bl (f c)) = some (w.map f)
  | [] => rfl
  | c :: w => by
    show (bools (w.map fun c => .bl (f c))).map (f c :: ·) = _
    rw [bools_map f w]
    rfl
theorem sml_any (c : Nat) (M : MH) : fIn (.str [c]) (.str SML) M = .ok (.bl (decide (c ∈ SML))) M := rfl
theorem isn_ok {τ : MX.Loc} {M : MH} {v : MV} (h : τ[0]? = some (.va v)) : mTest (mIsN (mVar 0)) τ M = .ok (isN v) M := by
  refine test_ok ?_
  unfold mIsN
  rw [var_ok h]
  rfl
theorem ty_ok {τ : MX.Loc} {M : MH} {v : MV} {s : String} {b : Bool} (h : τ[0]? = some (.va v)) (e : fIsi [v, .ty s] M = .ok (.bl b) M) : mTru (mApp fIsi (mCons (mVar 0) (mCons (mK (.ty s)) mNil))) τ M = .ok b M := tru_b ((app_ok (argsC (var_ok h) (args1 rfl))).trans e)
theorem term_int {i : Int} {M : MH} {L : Nat} (hL : 6 ≤ L) (hn : 4000 < n) (h : i.natAbs < 10 ^ 4300) : fnK (datF n) L e_term_text [.int i] M = if i.natAbs < 10 ^ 4000 then .ok (.str (showInt i)) M else .ex "BadNumber" [] M := by
  obtain ⟨k, rfl⟩ : ∃ k, L = k + 3 := ⟨L - 3, by omega⟩
  rw [b_term_text]
  unfold c_term_text
  have a0 : (startM 3 [.int i])[0]? = some (.va (.int i)) := rfl
  have ht : mNot (mTru (mCall 1 (fnK (datF n) (k + 2) e_has_text) (mCons (mVar 0) mNil))) (startM 3 [.int i]) M = .ok (!decide (i.natAbs < 10 ^ 4000)) M := not_ok (tru_b ((call_ok (args1 (var_ok a0)) rfl).trans (has_text_ok (by omega) hn)))
  have t1 := ty_ok (M := M) (s := "int") (b := true) a0 rfl
  by_cases c : i.natAbs < 10 ^ 4000
  · rw [decide_eq_true c] at ht
    rw [if_pos c]
    refine run_rt ((seq_nx ((if_f (isn_ok a0)).trans next_nx)).trans (seq_rt ((if_t t1).trans ((seq_nx ((if_f ht).trans next_nx)).trans (seq_rt (ret_ok ((app_ok (args1 (var_ok a0))).trans ?_)))))))
    unfold fStrC
    exact if_pos h
  · rw [decide_eq_false c] at ht
    rw [if_neg c]
    exact run_ex (τ' := startM 3 [.int i]) ((seq_nx ((if_f (isn_ok a0)).trans next_nx)).trans (seq_ex ((if_t t1).trans (seq_ex ((if_t ht).trans (seq_ex (raise_ok rfl)))))))
def strOk (w : List Nat) : Bool := !decide (w = NON) && w.all fun c => decide (c ∈ SML)
theorem term_str {w : List Nat} {M : MH} {L : Nat} (hL : 6 ≤ L) (hn : 4000 < n) (h : w.length ≤ 1000) : ∃ M', fnK (datF n) L e_term_text [.str w] M = (if strOk w = true then .ok (.str (txt (.str w))) M' else .ex "BadNumber" [] M') ∧ Le M M' := by
  obtain ⟨k, rfl⟩ : ∃ k, L = k + 3 := ⟨L - 3, by omega⟩
  rw [b_term_text]
  unfold c_term_text
  generalize hτ : startM 3 [.str w] = τ
  have a0 : τ[0]? = some (.va (.str w)) := by rw [← hτ]; rfl
  have t1 := ty_ok (M := M) (s := "int") (b := false) a0 rfl
  have t2 := ty_ok (M := M) (s := "str") (b := true) a0 rfl
  obtain ⟨M', q, f1, f2, f3⟩ := lc_map (n := n) (it := mWalk (mVar 0)) (g := gSet 1) (te := m2 fIn (mVar 1) (mK (.str SML))) (cs := [1]) (τ := τ) (M := M) (M1 := M) (w := .fix (signs w)) (vs := signs w) (fun v => match v with
      | .str x => .bl (inText x SML)
      | _ => .non)
    (by unfold mWalk; rw [var_ok a0]; rfl) (fun i M2 _ => rfl)
    (by
      intro v hv M2 _
      obtain ⟨c, _, rfl⟩ := List.mem_map.mp hv
      refine ⟨_, M2, rfl, (op_ok (v := .str [c]) (var_ok ?_) rfl).trans rfl, Le.refl _⟩
      rw [← hτ]
      rfl) (by unfold signs; rw [List.length_map]; omega) (by unfold signs; rw [List.length_map]; omega)
  have f2' : M'.get q = some (.lst (w.map fun c => .bl (decide (c ∈ SML)))) := by
    rw [f2]
    unfold signs
    rw [List.map_map]
    rfl
  have al : mApp fAll (mCons (mLc n (mWalk (mVar 0)) (gSet 1) mYes (m2 fIn (mVar 1) (mK (.str SML))) [1]) mNil) τ M = .ok (.bl (w.all fun c => decide (c ∈ SML))) M' := by
    rw [app_ok (args1 f1)]
    unfold fAll
    dsimp only
    rw [f2']
    dsimp only
    rw [bools_map]
    dsimp only
    rw [List.all_map]
    rfl
  have en : mTest (m2 fEq (mVar 0) (mK (.str NON))) τ M = .ok (decide (w = NON)) M := test_ok ((op_ok (var_ok a0) rfl).trans (fEq_str M w NON))
  by_cases c : w = NON
  · rw [decide_eq_true c] at en
    have so : ¬ strOk w = true := by
      unfold strOk
      rw [decide_eq_true c]
      exact Bool.false_ne_true
    refine ⟨M, ?_, Le.refl M⟩
    rw [if_neg so]
    refine run_ex (τ' := τ) ?_
    rw [hτ]
    exact (seq_nx ((if_f (isn_ok a0)).trans next_nx)).trans ((seq_nx ((if_f t1).trans next_nx)).trans (seq_ex ((if_t t2).trans (seq_ex ((if_t (or_t en)).trans (seq_ex (raise_ok rfl)))))))
  · rw [decide_eq_false c] at en
    have cond := (or_f (d := mNot (mTru (mApp fAll (mCons (mLc n (mWalk (mVar 0)) (gSet 1) mYes (m2 fIn (mVar 1) (mK (.str SML))) [1]) mNil)))) en).trans (not_ok (tru_b al))
    have so : strOk w = w.all fun c => decide (c ∈ SML) := by unfold strOk; rw [decide_eq_false c]; rfl
    refine ⟨M', ?_, f3⟩
    rw [so]
    cases ca : w.all fun c => decide (c ∈ SML) with
    | false =>
      rw [ca] at cond
      rw [if_neg (by decide)]
      refine run_ex (τ' := τ) ?_
      rw [hτ]
      exact (seq_nx ((if_f (isn_ok a0)).trans next_nx)).trans ((seq_nx ((if_f t1).trans next_nx)).trans (seq_ex ((if_t t2).trans (seq_ex ((if_t cond).trans (seq_ex (raise_ok rfl)))))))
    | true =>
      rw [ca] at cond
      rw [if_pos rfl]
      refine run_rt ?_
      rw [hτ, txt]
      refine (seq_nx ((if_f (isn_ok a0)).trans next_nx)).trans ((seq_nx ((if_f t1).trans next_nx)).trans (seq_rt ((if_t t2).trans ((seq_nx ((if_f cond).trans next_nx)).trans (seq_rt (ret_ok ?_))))))
      unfold mOrV
      rw [var_ok a0]
      show (match truM M' (.str w) with
        | some k => if k = true then Res.ok (MV.str w) M' else mK (.str [46]) τ M'
        | none => .stuck) = _
      rw [show truM M' (.str w) = some (!w.isEmpty) from if_pos (by omega)]
      dsimp only
      cases w with
      | nil => rfl
      | cons x xs => rfl
def TTP (n m : Nat) : Prop := ∀ {v : MV}, Tm m v → ∀ {L : Nat} {M : MH}, m + 6 ≤ L → ∃ M', fnK (datF n) L e_term_text [v] M = .ok (.str (txt v)) M' ∧ Le M M'
/-- a tuple, or a list -/
theorem term_seq {x : MV} {vs : List MV} {m : Nat} {M : MH} {L : Nat} (hm : m ≤ 4) (hn : 4000 < n) (hL : m + 7 ≤ L) (ih : TTP n m) (h1 : vs.length ≤ 3) (h2 : ∀ v ∈ vs, Tm m v)
    (hx : isN x = false) (hi : fIsi [x, .ty "int"] M = .ok (.bl false) M) (hs : fIsi [x, .ty "str"] M = .ok (.bl false) M) {w : Wk} (hw : wkOf M x = some w) (hnx : ∀ i M2, Le M M2 → nextM w i M2 = some vs[i]?) :
    ∃ M', fnK (datF n) L e_term_text [x] M = .ok (.str (txt (.tup vs))) M' ∧ Le M M' := by
  obtain ⟨k, rfl⟩ : ∃ k, L = k + 3 := ⟨L - 3, by omega⟩
  rw [b_term_text]
  unfold c_term_text
  generalize hτ : startM 3 [x] = τ
  have a0 : τ[0]? = some (.va x) := by rw [← hτ]; rfl
  have t1 := ty_ok (M := M) (s := "int") (b := false) a0 hi
  have t2 := ty_ok (M := M) (s := "str") (b := false) a0 hs
  have tn := isn_ok (M := M) a0
  rw [hx] at tn
  obtain ⟨M', q, f1, f2, f3⟩ := lc_map (n := n) (it := mWalk (mVar 0)) (g := gSet 2) (te := mCall 1 (fnK (datF n) (k + 2) e_term_text) (mCons (mVar 2) mNil)) (cs := [2]) (τ := τ) (M := M) (M1 := M) (w := w) (vs := vs) (fun v => .str (txt v))
    (by unfold mWalk; rw [var_ok a0]; show (match wkOf M x with
      | some w => Res.ok w M
      | none => .stuck) = _; rw [hw]) hnx
    (by
      intro v hv M2 _
      obtain ⟨M3, c1, c2⟩ := ih (h2 v hv) (L := k + 2) (M := M2) (by omega)
      refine ⟨_, M3, rfl, ?_, c2⟩
      refine (call_ok (n := 1) (xs := [v]) (args1 (var_ok ?_)) rfl).trans c1
      rw [← hτ]
      rfl) (by omega) (by omega)
  refine ⟨M', run_rt ?_, f3⟩
  rw [hτ]
  rw [txt]
  exact (seq_nx ((if_f tn).trans next_nx)).trans ((seq_nx ((if_f t1).trans next_nx)).trans ((seq_nx ((if_f t2).trans next_nx)).trans (seq_rt (ret_ok (wrap_ok f1 f2 h1 h2 hm)))))
theorem ttext_step {m : Nat} (hm : m ≤ 5) (hn : 4000 < n) (ih : ∀ m', m = m' + 1 → TTP n m') : TTP n m := by
  intro v h L M hL
  cases v with
  | non =>
    obtain ⟨k, rfl⟩ : ∃ k, L = k + 3 := ⟨L - 3, by omega⟩
    rw [b_term_text]
    unfold c_term_text
    exact ⟨M, run_rt (seq_rt ((if_t (isn_ok (v := .non) rfl)).trans (seq_rt (ret_ok rfl)))), Le.refl M⟩
  | int i =>
    have hi : i.natAbs < 10 ^ 20 := by cases m <;> exact h
    rw [term_int (by omega) hn (Nat.lt_of_lt_of_le hi (Nat.pow_le_pow_right (by decide) (by decide))), if_pos (Nat.lt_of_lt_of_le hi (Nat.pow_le_pow_right (by decide) (by decide))), txt]
    exact ⟨M, rfl, Le.refl M⟩
  | str w =>
    have hw : (∀ c ∈ w, c ∈ SML) ∧ w ≠ NON ∧ w.length ≤ 21 := by cases m <;> exact h
    obtain ⟨M', e, l⟩ := term_str (n := n) (w := w) (M := M) (L := L) (by omega) hn (by omega)
    refine ⟨M', ?_, l⟩
    rw [e, if_pos]
    unfold strOk
    rw [decide_eq_false hw.2.1, Bool.not_false, Bool.true_and, List.all_eq_true]
    exact fun c hc => decide_eq_true (hw.1 c hc)
  | tup vs =>
    cases m with
    | zero => exact h.elim
    | succ m =>
      obtain ⟨h1, h2⟩ := h
      exact term_seq (x := .tup vs) (w := .fix vs) (by omega) hn (by omega) (@ih m rfl) h1 h2 rfl rfl rfl rfl fun i M2 _ => rfl
  | _ => cases m <;> exact h.elim
theorem term_text_ok (hn : 4000 < n) : ∀ {m : Nat}, m ≤ 5 → TTP n m := by
  intro m
  induction m with
  | zero => intro hm; exact ttext_step hm hn fun m' e => nomatch e
  | succ m ih => intro hm; exact ttext_step hm hn fun m' e => by cases e; exact ih (by omega)
/-- the list of a tuple -/
theorem term_list {q m : Nat} {vs : List MV} {M : MH} {L : Nat} (hm : m ≤ 4) (hn : 4000 < n) (hL : m + 7 ≤ L) (h1 : vs.length ≤ 3) (h2 : ∀ v ∈ vs, Tm m v) (hq : M.get q = some (.lst vs)) : ∃ M', fnK (datF n) L e_term_text [.ref q] M = .ok (.str (txt (.tup vs))) M' ∧ Le M M' := by
  have ty : tyOf M (.ref q) = some "list" := by
    unfold tyOf
    dsimp only
    rw [hq]
  refine term_seq (x := .ref q) (w := .lst q) hm hn hL (term_text_ok hn (by omega)) h1 h2 rfl ?_ ?_ ?_ fun i M2 l => ?_
  · unfold fIsi; dsimp only; rw [ty]; rfl
  · unfold fIsi; dsimp only; rw [ty]; rfl
  · unfold wkOf; dsimp only; rw [hq]
  · unfold nextM; dsimp only; rw [l.get hq]
end
end Mine
end
section
set_option Elab.async false
set_option linter.all false
set_option maxRecDepth 100000
set_option maxHeartbeats 4000000
/-! KF19: what is written is read back. -/
namespace Mine
open PySem PySem.Spec MX L2 TL
theorem isAt_dr {T : List Nat} {a : Nat} {S : List Nat} {c : Nat} {r : List Nat} (h : T.drop a = c :: r) : isAt T a S = decide (c ∈ S) := by
  have e : T[a]? = some c := by
    rw [← List.head?_drop, h]
    rfl
  unfold isAt
  rw [e]
/-- what may stand behind a term -/
def EndR (R : List Nat) : Prop := ∀ c r, R = c :: r → c = 32 ∨ c = 41
theorem tw_app {R S : List Nat} (hR : EndR R) (hS : 32 ∉ S ∧ 41 ∉ S) : ∀ w : List Nat, (∀ c ∈ w, c ∈ S) → (w ++ R).takeWhile (fun c => decide (c ∈ S)) = w
  | [], _ => by
    cases R with
    | nil => rfl
    | cons c r =>
      have : c ∉ S := by
        rcases hR c r rfl with e | e
        · rw [e]; exact hS.1
        · rw [e]; exact hS.2
      show (c :: r).takeWhile _ = []
      rw [List.takeWhile_cons, if_neg (by rw [decide_eq_false this]; decide)]
  | x :: w, h => by
    show (x :: (w ++ R)).takeWhile _ = x :: w
    rw [List.takeWhile_cons, if_pos (decide_eq_true (h x (List.mem_cons_self ..))), tw_app hR hS w fun c hc => h c (List.mem_cons_of_mem _ hc)]
theorem run_app {T w R : List Nat} {a : Nat} {S : List Nat} (h : T.drop a = w ++ R) (hw : ∀ c ∈ w, c ∈ S) (hR : EndR R) (hS : 32 ∉ S ∧ 41 ∉ S) : (T.drop a).takeWhile (fun c => decide (c ∈ S)) = w := by
  rw [h]
  exact tw_app hR hS w hw
theorem fig_of {c : Nat} (h : 48 ≤ c ∧ c ≤ 57) : c ∈ FIG := by
  simp only [List.mem_cons, List.mem_nil_iff, or_false]
  omega
theorem numL_head (m : Nat) : ∃ c r, numL m = c :: r ∧ 48 ≤ c ∧ c ≤ 57 := by
  cases e : numL m with
  | nil => exact absurd e (numL_ne m)
  | cons c r => exact ⟨c, r, rfl, numL_digits m c (by rw [e]; exact List.mem_cons_self ..)⟩
theorem numL_zero {m : Nat} {r : List Nat} (h : numL m = 48 :: r) : m = 0 := by
  induction m using Nat.strongRecOn generalizing r with
  | _ m ih =>
    by_cases c : m < 10
    · rw [numL_lt c] at h
      injection h with h
      omega
    · rw [numL_step (by omega)] at h
      obtain ⟨x, s, e, _, _⟩ := numL_head (m / 10)
      rw [e] at h
      injection h with h h2
      subst h
      have := ih (m / 10) (by omega) e
      omega
/-- figures read -/
theorem rdInt_num {T R : List Nat} {a s m : Nat} {neg : Bool} (hs : (if isAt T a [45] = true then a + 1 else a) = s) (hneg : isAt T a [45] = neg) (h : T.drop s = numL m ++ R) (hR : EndR R) (hm : m < 10 ^ 20) (hz : neg = true → 0 < m) :
    rdInt T a = .ok (.int (if neg = true then -(m : Int) else m), s + (numL m).length) := by
  obtain ⟨c, r, e, c1, c2⟩ := numL_head m
  have h' : T.drop s = c :: (r ++ R) := by rw [h, e]; rfl
  have rn : (T.drop s).takeWhile (fun c => decide (c ∈ FIG)) = numL m := run_app h (fun c hc => fig_of (numL_digits m c hc)) hR (by decide)
  have rl : runL T s FIG = (numL m).length := by unfold runL; rw [rn]
  have tk : (T.drop s).take (runL T s FIG) = numL m := by rw [take_run, rn]
  have f1 : isAt T s FIG = true := by rw [isAt_dr h']; exact decide_eq_true (fig_of ⟨c1, c2⟩)
  have f2 : isAt T s [48] = decide (c = 48) := by rw [isAt_dr h']; exact decide_eq_decide.mpr (by simp)
  have nl := numL_len (n := m) (k := 20) (by decide) hm
  have g1 : ¬ (!isAt T s FIG || (isAt T a [45] && isAt T s [48])) = true := by
    rw [f1, f2, hneg]
    intro q
    simp only [Bool.not_true, Bool.false_or, Bool.and_eq_true, decide_eq_true_eq] at q
    have z := hz q.1
    rw [q.2] at e
    have := numL_zero e
    omega
  have g2 : ¬ (isAt T s [48] && decide (1 < runL T s FIG)) = true := by
    rw [f2, rl]
    intro q
    rw [Bool.and_eq_true, decide_eq_true_eq, decide_eq_true_eq] at q
    have e' := e
    rw [q.1] at e'
    have z := numL_zero e'
    rw [z, numL_lt (by decide)] at q
    exact absurd q.2 (by decide)
  unfold rdInt
  dsimp only
  rw [hs, if_neg g1, if_neg g2, if_neg (by rw [rl]; omega), hneg, tk, rl]
  unfold worth
  rw [numL_val]
theorem Tm.head {m : Nat} {v : MV} (h : Tm m v) : ∃ c r, txt v = c :: r ∧ c ≠ 41 := by
  cases v with
  | non => exact ⟨_, _, by rw [txt], by decide⟩
  | int i =>
    rw [txt]
    cases i with
    | ofNat k =>
      rw [show showInt (Int.ofNat k) = numL k from show_nat k]
      obtain ⟨c, r, e, c1, _⟩ := numL_head k
      exact ⟨c, r, e, by omega⟩
    | negSucc k =>
      rw [show showInt (Int.negSucc k) = 45 :: numL (k + 1) from show_neg k]
      exact ⟨_, _, rfl, by decide⟩
  | str w =>
    have hw : (∀ c ∈ w, c ∈ SML) ∧ w ≠ NON ∧ w.length ≤ 21 := by cases m <;> exact h
    rw [txt]
    cases w with
    | nil => exact ⟨_, _, if_pos rfl, by decide⟩
    | cons c r =>
      refine ⟨c, r, if_neg (by simp), fun e => ?_⟩
      have := hw.1 c (List.mem_cons_self ..)
      rw [e] at this
      exact absurd this (by decide)
  | tup vs => exact ⟨_, _, by rw [txt], by decide⟩
  | _ => cases m <;> exact h.elim
def TermR (m : Nat) : Prop := ∀ {v : MV}, Tm m v → ∀ {T R : List Nat} {a d f : Nat}, T.drop a = txt v ++ R → EndR R → d + m ≤ 60 → 2 * (txt v).length + 1 ≤ f → rdTerm f T a d = some (.ok (v, a + (txt v).length))
/-- the rest of a tuple's text -/
def rest (vs : List MV) : List Nat := (vs.map fun v => 32 :: txt v).flatten
theorem join_rest (x : List Nat) : ∀ ts : List (List Nat), joinM [32] (x :: ts) = x ++ (ts.map (32 :: ·)).flatten
  | [] => by simp [joinM]
  | y :: ts => by
    show x ++ ([32] ++ joinM [32] (y :: ts)) = _
    rw [join_rest y ts]
    simp
theorem join_txts (v : MV) (vs : List MV) : joinM [32] (txts (v :: vs)) = txt v ++ rest vs := by
  rw [txts_map, List.map_cons, join_rest, List.map_map]
  rfl
theorem drop_add {T X Y : List Nat} {a : Nat} (h : T.drop a = X ++ Y) : T.drop (a + X.length) = Y := by
  rw [← List.drop_drop, h, List.drop_left]
theorem rest_end (vs : List MV) (R : List Nat) : EndR (rest vs ++ 41 :: R) := by
  intro c r e
  cases vs with
  | nil =>
    injection e with e _
    exact .inr e.symm
  | cons v vs =>
    injection e with e _
    exact .inl e.symm
theorem ents_rest {m : Nat} (ih : TermR m) {T R : List Nat} {d : Nat} (hd : d + m ≤ 60) : ∀ (vs : List MV), (∀ v ∈ vs, Tm m v) → ∀ {acc : List MV} {a f : Nat}, acc ≠ [] → T.drop a = rest vs ++ 41 :: R → 2 * (rest vs).length + 1 ≤ f →
    rdEnts f T a d acc = some (.ok (.tup (acc ++ vs), a + (rest vs).length + 1)) := by
  intro vs
  induction vs with
  | nil =>
    intro _ acc a f ha h hf
    obtain ⟨f, rfl⟩ : ∃ f', f = f' + 1 := ⟨f - 1, by omega⟩
    have h' : T.drop a = 41 :: R := h
    unfold rdEnts
    rw [if_pos (by rw [isAt_dr h']; decide), List.append_nil]
    rfl
  | cons v vs ihv =>
    intro hv acc a f ha h hf
    obtain ⟨f, rfl⟩ : ∃ f', f = f' + 1 := ⟨f - 1, by omega⟩
    have e0 : rest (v :: vs) = 32 :: (txt v ++ rest vs) := rfl
    have h' : T.drop a = 32 :: (txt v ++ (rest vs ++ 41 :: R)) := by
      rw [h, e0]
      simp
    have hl : (rest (v :: vs)).length = 1 + (txt v).length + (rest vs).length := by
      rw [e0, List.length_cons, List.length_append]
      omega
    have hne : acc.isEmpty = false := by
      cases acc with
      | nil => exact absurd rfl ha
      | cons _ _ => rfl
    have h1 : T.drop (a + 1) = txt v ++ (rest vs ++ 41 :: R) := drop_add (X := [32]) h'
    have z := ih (hv v (List.mem_cons_self ..)) h1 (rest_end vs R) hd (f := f) (by omega)
    have h2 := drop_add h1
    have y := ihv (fun u hu => hv u (List.mem_cons_of_mem _ hu)) (acc := acc ++ [v]) (a := a + 1 + (txt v).length) (f := f) (by simp) h2 (by omega)
    unfold rdEnts
    rw [if_neg (by rw [isAt_dr h']; decide), if_neg (by rw [isAt_dr h', hne]; decide), if_neg (by rw [hne]; decide), z]
    dsimp only
    rw [y, hl, List.append_assoc]
    congr 3
    show a + 1 + (txt v).length + (rest vs).length + 1 = a + (1 + (txt v).length + (rest vs).length) + 1
    omega
theorem back_step {m : Nat} (ih : ∀ m', m = m' + 1 → TermR m') : TermR m := by
  intro v hv T R a d f h hR hd hf
  obtain ⟨f, rfl⟩ : ∃ f', f = f' + 1 := ⟨f - 1, by omega⟩
  have lett : ∀ w : List Nat, w ≠ [] → (∀ c ∈ w, c ∈ SML) → T.drop a = w ++ R → rdTerm (f + 1) T a d = some (.ok (if w = NON then .non else .str w, a + w.length)) := by
    intro w hw hs h
    obtain ⟨c, r, rfl⟩ : ∃ c r, w = c :: r := by
      cases w with
      | nil => exact absurd rfl hw
      | cons c r => exact ⟨c, r, rfl⟩
    have h' : T.drop a = c :: (r ++ R) := h
    have hc := hs c (List.mem_cons_self ..)
    have n40 : c ≠ 40 := fun e => absurd hc (by rw [e]; decide)
    have n46 : c ≠ 46 := fun e => absurd hc (by rw [e]; decide)
    have rn := run_app h hs hR (by decide)
    have rl : runL T a SML = (c :: r).length := by unfold runL; rw [rn]
    have tk : (T.drop a).take (runL T a SML) = c :: r := by rw [take_run, rn]
    unfold rdTerm
    rw [if_neg (by rw [isAt_dr h']; simpa using n40), if_neg (by rw [isAt_dr h']; simpa using n46), if_pos (by rw [isAt_dr h']; exact decide_eq_true hc), tk, rl]
  have intt : ∀ c r i l, txt v = c :: r → c ≠ 40 → c ≠ 46 → c ∉ SML → rdInt T a = .ok (.int i, l) → rdTerm (f + 1) T a d = some (.ok (.int i, l)) := by
    intro c r i l e n40 n46 ns hi
    have h' : T.drop a = c :: (r ++ R) := by rw [h, e]; rfl
    unfold rdTerm
    rw [if_neg (by rw [isAt_dr h']; simpa using n40), if_neg (by rw [isAt_dr h']; simpa using n46), if_neg (by rw [isAt_dr h', decide_eq_false ns]; decide), hi]
  cases v with
  | non =>
    rw [txt] at h ⊢
    exact lett NON (by decide) (by decide) h
  | int i =>
    have hi : i.natAbs < 10 ^ 20 := by cases m <;> exact hv
    cases i with
    | ofNat k =>
      have e : txt (.int (Int.ofNat k)) = numL k := by rw [txt]; exact show_nat k
      obtain ⟨c, r, e2, c1, c2⟩ := numL_head k
      rw [e] at h
      have h' : T.drop a = c :: (r ++ R) := by rw [h, e2]; rfl
      have n45 : isAt T a [45] = false := by
        rw [isAt_dr h']
        exact decide_eq_false (by simp; omega)
      have z := rdInt_num (T := T) (a := a) (s := a) (m := k) (neg := false) (by rw [n45]; rfl) n45 h hR hi (fun q => nomatch q)
      rw [e]
      exact intt c r _ _ (e.trans e2) (by omega) (by omega) (by simp only [List.mem_cons, List.mem_nil_iff, or_false]; omega) z
    | negSucc k =>
      have e : txt (.int (Int.negSucc k)) = 45 :: numL (k + 1) := by rw [txt]; exact show_neg k
      rw [e] at h
      have h' : T.drop a = 45 :: (numL (k + 1) ++ R) := h
      have n45 : isAt T a [45] = true := by
        rw [isAt_dr h']
        decide
      have h1 : T.drop (a + 1) = numL (k + 1) ++ R := drop_add (X := [45]) h'
      have z := rdInt_num (T := T) (a := a) (s := a + 1) (m := k + 1) (neg := true) (by rw [n45]; rfl) n45 h1 hR hi (fun _ => by omega)
      rw [e]
      have y := intt 45 (numL (k + 1)) _ _ e (by decide) (by decide) (by decide) z
      rw [y, List.length_cons]
      congr 3
      omega
  | str w =>
    have hw : (∀ c ∈ w, c ∈ SML) ∧ w ≠ NON ∧ w.length ≤ 21 := by cases m <;> exact hv
    rw [txt] at h ⊢
    by_cases z : w = []
    · rw [if_pos z] at h ⊢
      have h' : T.drop a = 46 :: R := h
      unfold rdTerm
      rw [if_neg (by rw [isAt_dr h']; decide), if_pos (by rw [isAt_dr h']; decide), z]
      rfl
    · rw [if_neg z] at h ⊢
      rw [lett w z hw.1 h, if_neg hw.2.1]
  | tup vs =>
    cases m with
    | zero => exact hv.elim
    | succ m =>
      obtain ⟨h1, h2⟩ := hv
      have ih : TermR m := @ih m rfl
      have e : txt (.tup vs) = 40 :: (joinM [32] (txts vs) ++ [41]) := by rw [txt]
      have h' : T.drop a = 40 :: (joinM [32] (txts vs) ++ 41 :: R) := by
        rw [h, e]
        simp
      have h1' : T.drop (a + 1) = joinM [32] (txts vs) ++ 41 :: R := drop_add (X := [40]) h'
      have hl : (txt (.tup vs)).length = (joinM [32] (txts vs)).length + 2 := by
        rw [e, List.length_cons, List.length_append]
        rfl
      unfold rdTerm
      rw [if_pos (by rw [isAt_dr h']; decide), if_neg (by omega)]
      obtain ⟨f, rfl⟩ : ∃ f', f = f' + 1 := ⟨f - 1, by omega⟩
      cases vs with
      | nil =>
        have h2' : T.drop (a + 1) = 41 :: R := h1'
        unfold rdEnts
        rw [if_pos (by rw [isAt_dr h2']; decide), hl]
        rfl
      | cons v vs =>
        rw [join_txts] at h1' hl
        rw [List.append_assoc] at h1'
        rw [List.length_append] at hl
        obtain ⟨c, r, ec, c41⟩ := (h2 v (List.mem_cons_self ..)).head
        have h3 : T.drop (a + 1) = c :: (r ++ (rest vs ++ 41 :: R)) := by rw [h1', ec]; rfl
        have z := ih (h2 v (List.mem_cons_self ..)) h1' (rest_end vs R) (d := d + 1) (f := f) (by omega) (by omega)
        have y := ents_rest ih (T := T) (R := R) (d := d + 1) (by omega) vs (fun u hu => h2 u (List.mem_cons_of_mem _ hu)) (acc := [v]) (a := a + 1 + (txt v).length) (f := f) (by simp) (drop_add h1') (by omega)
        unfold rdEnts
        rw [if_neg (by rw [isAt_dr h3]; simpa using c41), if_neg (show ¬ (!([] : List MV).isEmpty && !isAt T (a + 1) [32]) = true from fun q => nomatch (show false = true from q)), if_pos (show ([] : List MV).isEmpty = true from rfl), z]
        dsimp only
        rw [List.nil_append, y, hl]
        congr 3
        omega
  | _ => cases m <;> exact hv.elim
theorem back_ok (m : Nat) : TermR m := by
  induction m with
  | zero => exact back_step (m := 0) fun m' e => absurd e (by omega)
  | succ m ih => exact back_step (m := m + 1) fun m' e => by cases e; exact ih
end Mine
end
section
set_option Elab.async false
set_option linter.all false
set_option maxRecDepth 100000
set_option maxHeartbeats 4000000
/-! KF20: no bad word; a term told. -/
namespace Mine
open PySem PySem.Spec MX L2 TL
theorem nobad_of {T : List Nat} (h : inText BAD T = false) : NoBad T := by
  intro a e
  have key : (!(Builtin.Str.occurrences ⟨T.toArray⟩ ⟨BAD.toArray⟩ 0 (⟨T.toArray⟩ : Str).length 1).isEmpty) = true := by
    rw [StrLaws.found_iff]
    have hl : a + 3 ≤ T.length := by
      have z := congrArg List.length e
      rw [List.length_take, List.length_drop] at z
      have : (BAD : List Nat).length = 3 := rfl
      omega
    refine ⟨a, ?_, ?_⟩
    · rw [str_len, str_len]
      exact hl
    · rw [StrLaws.subAt_eq]
      show ((T.drop a).take 3 == BAD) = true
      rw [e]
      rfl
  rw [str_len] at key
  have : inText BAD T = true := key
  rw [h] at this
  cases this
theorem drop_all {T : List Nat} : T.drop 0 = T ++ [] := by simp
theorem Tm.mono {m : Nat} {v : MV} (h : Tm m v) : Tm (m + 1) v := by
  induction m generalizing v with
  | zero =>
    cases v with
    | tup vs => exact h.elim
    | non => exact h
    | int i => exact h
    | str w => exact h
    | _ => exact h.elim
  | succ m ih =>
    cases v with
    | tup vs => exact ⟨h.1, fun v hv => ih (h.2 v hv)⟩
    | non => exact h
    | int i => exact h
    | str w => exact h
    | _ => exact h.elim
/-- the whole text of a term read -/
theorem whole_txt {m : Nat} {v : MV} (h : Tm m v) (hm : m ≤ 60) : ∃ f, rdTerm f (txt v) 0 0 = some (.ok (v, (txt v).length)) ∧ whole (txt v) (.ok (v, (txt v).length)) = .ok v := by
  refine ⟨2 * (txt v).length + 1, ?_, ?_⟩
  · rw [back_ok m h drop_all (fun c r e => nomatch e) (by omega) (Nat.le_refl _), Nat.zero_add]
  · exact if_neg (Nat.lt_irrefl _)
/-- told and the term itself, in words -/
theorem repr_term {n L m : Nat} {v : MV} {M : MH} (h : Tm m v) (hm : m ≤ 4) (hn : 4000 < n) (hL : 145 ≤ L) {a b : ME} {τ : MX.Loc}
    (ha : ∀ M, a τ M = fnK (datF n) L e__law_told [.str (txt v)] M) (hb : ∀ M, b τ M = .ok (.ref M.n) (M.push (.lst [.str [116, 101, 114, 109], v]))) :
    ∃ M', m2 fNe (mApp fRepr (mCons a mNil)) (mApp fRepr (mCons b mNil)) τ M = .ok (.bl false) M' ∧ Le M M' := by
  obtain ⟨f, hr, hw⟩ := whole_txt h (by omega)
  have lb : LB m ≤ 2021 := by
    have : ∀ m ≤ 4, LB m ≤ 2021 := by decide
    exact this m hm
  have len := h.len
  obtain ⟨M1, q1, e1, g1, l1⟩ := told_ok (n := n) (M := M) (L := L) hr hL (by omega) (by omega)
  rw [hw] at g1
  have dt := rdTerm_dat f (by decide) hr
  obtain ⟨x, hx⟩ := repr_two (m := 60) (w := 68 * ((txt v).length - 0) - 1) (w0 := [116, 101, 114, 109]) (v := v) (by decide) (by decide) dt (by decide) (by omega)
  refine ⟨M1.push (.lst [.str [116, 101, 114, 109], v]), ?_, l1.trans (Le.push _ _)⟩
  rw [op_ok ((app_ok (args1 ((ha M).trans e1))).trans (hx M1 q1 g1)) ((app_ok (args1 (hb M1))).trans (hx _ _ (MH.get_push_same _))), fNe_str]
  simp
end Mine
end
section
set_option Elab.async false
set_option linter.all false
set_option maxRecDepth 100000
set_option maxHeartbeats 4000000
/-! KF21: draws: the next one, more of them. -/
namespace Mine
open PySem PySem.Spec MX L2 TL
abbrev numV (xs : List Nat) : List MV := xs.map fun x : Nat => MV.int ((x : Nat) : Int)
/-- draws: numbers below a thousand -/
def Dr (N p : Nat) (M : MH) : Prop := ∃ xs : List Nat, M.get p = some (.lst (numV xs)) ∧ (∀ x ∈ xs, x < 1000) ∧ xs.length ≤ N
section
variable {n : Nat}
theorem for_gen {w : Wk} {y k : Nat} {b : MS} (v : Nat → MV) (I : Nat → MX.Loc → MH → Prop) (J : MX.Loc → MH → Prop)
    (item : ∀ i τ M, i < k → I i τ M → nextM w i M = some (some (v i))) (stop : ∀ τ M, I k τ M → nextM w k M = some none ∧ J τ M)
    (step : ∀ i τ M, i < k → I i τ M → ∃ τ' M', (b (τ.set y (.va (v i))) M = .nx τ' M' ∧ I (i + 1) τ' M') ∨ (b (τ.set y (.va (v i))) M = .bk τ' M' ∧ J τ' M')) :
    ∀ (m i fuel : Nat) (τ : MX.Loc) (M : MH), i + m = k → m < fuel → I i τ M → ∃ τ' M', forGo w (gSet y) b fuel i τ M = .nx τ' M' ∧ J τ' M' := by
  intro m
  induction m with
  | zero =>
    intro i fuel τ M him hf hI
    obtain rfl : i = k := by omega
    exact ⟨τ, M, for_stop hf (stop τ M hI).1, (stop τ M hI).2⟩
  | succ m ih =>
    intro i fuel τ M him hf hI
    obtain ⟨fuel, rfl⟩ : ∃ f', fuel = f' + 1 := ⟨fuel - 1, by omega⟩
    have nx := item i τ M (by omega) hI
    have gs : gSet y (v i) τ M = .ok (τ.set y (.va (v i))) M := rfl
    obtain ⟨τ1, M1, ⟨e1, e2⟩ | ⟨e1, e2⟩⟩ := step i τ M (by omega) hI
    · obtain ⟨τ2, M2, f1, f2⟩ := ih (i + 1) fuel τ1 M1 (by omega) (by omega) e2
      exact ⟨τ2, M2, (for_nx nx gs e1).trans f1, f2⟩
    · exact ⟨τ1, M1, for_bk nx gs e1, e2⟩
theorem next_ok {N p L : Nat} {M : MH} (h : Dr N p M) (hL : 3 ≤ L) (hN : N ≤ 16777216) : ∃ x M', fnK (datF n) L e__law_next [.ref p] M = .ok (.int ((x : Nat) : Int)) M' ∧ x < 1000 ∧ Dr N p M' ∧ LeX p M M' := by
  obtain ⟨k, rfl⟩ : ∃ k, L = k + 3 := ⟨L - 3, by omega⟩
  obtain ⟨xs, h1, h2, h3⟩ := h
  rw [b__law_next]
  unfold c__law_next
  have v0 : mVar 0 (startM 1 [.ref p]) M = .ok (.ref p) M := var_ok rfl
  have t : mTru (mVar 0) (startM 1 [.ref p]) M = .ok (!(numV xs).isEmpty) M := tru_ok2 v0 (by unfold truM; dsimp only; rw [h1])
  by_cases c : xs = []
  · subst c
    exact ⟨0, M, run_rt ((seq_nx ((if_f t).trans next_nx)).trans (seq_rt (ret_ok rfl))), by decide, ⟨[], h1, h2, h3⟩, LeX.refl p M⟩
  · have hne : (numV xs).isEmpty = false := by
      cases xs with
      | nil => exact absurd rfl c
      | cons _ _ => rfl
    rw [hne] at t
    have hl : 0 < xs.length := List.length_pos_iff.mpr c
    have hx : xs.length - 1 < xs.length := by omega
    refine ⟨xs[xs.length - 1], M.set p (.lst (numV xs.dropLast)), run_rt (seq_rt ((if_t t).trans (seq_rt (ret_ok ?_)))), h2 _ (List.getElem_mem _), ⟨xs.dropLast, MH.get_set_same (MH.lt h1), fun x hx => h2 x (List.dropLast_subset _ hx), by rw [List.length_dropLast]; omega⟩, LeX.set p M _⟩
    rw [bm_ok v0 (isLst_of h1) (xs := []) (M2 := M) rfl]
    unfold fPop
    dsimp only
    rw [h1]
    dsimp only
    have e : (numV xs)[(numV xs).length - 1]? = some (.int ((xs[xs.length - 1] : Nat) : Int)) := by
      rw [List.length_map, List.getElem?_map, List.getElem?_eq_getElem hx]
      rfl
    rw [e]
    dsimp only
    rw [show (numV xs).dropLast = numV xs.dropLast from (List.map_dropLast ..).symm]
theorem next_call {N p L i : Nat} {M : MH} {τ : MX.Loc} (h : Dr N p M) (hL : 3 ≤ L) (hN : N ≤ 16777216) (hi : τ[i]? = some (.va (.ref p))) : ∃ x M', mCall 1 (fnK (datF n) L e__law_next) (mCons (mVar i) mNil) τ M = .ok (.int ((x : Nat) : Int)) M' ∧ x < 1000 ∧ Dr N p M' ∧ LeX p M M' := by
  obtain ⟨x, M', e, r⟩ := next_ok (n := n) h hL hN
  exact ⟨x, M', (call_ok (args1 (var_ok hi)) rfl).trans e, r⟩
theorem fmod_nat (i : Int) {m : Nat} (hm : 0 < m) : ∃ x : Nat, i.fmod (m : Int) = (x : Int) ∧ x < m := by
  have h1 : 0 ≤ i.fmod (m : Int) := Int.fmod_nonneg_of_pos i (by omega)
  have h2 : i.fmod (m : Int) < (m : Int) := Int.fmod_lt_of_pos i (by omega)
  exact ⟨(i.fmod m).toNat, by omega, by omega⟩
/-- int(e) % m -/
theorem mod_ok {e : ME} {τ : MX.Loc} {M M' : MH} {i : Int} {m : Nat} (h : e τ M = .ok (.int i) M') (hm : 0 < m) : ∃ x : Nat, x < m ∧ i.fmod (m : Int) = (x : Int) ∧ m2 fMod (mApp fIntC (mCons e mNil)) (mK (.int (m : Int))) τ M = .ok (.int (x : Int)) M' := by
  obtain ⟨x, e1, e2⟩ := fmod_nat i hm
  refine ⟨x, e2, e1, ?_⟩
  rw [op_ok ((app_ok (args1 h)).trans rfl) (w := .int (m : Int)) rfl]
  unfold fMod fInt
  dsimp only
  rw [if_pos (bne_iff_ne.mpr (by omega)), e1]
end
end Mine
end
section
set_option Elab.async false
set_option linter.all false
set_option maxRecDepth 100000
set_option maxHeartbeats 4000000
/-! KF22: more draws. -/
namespace Mine
open PySem PySem.Spec MX L2 TL
section
variable {n : Nat}
theorem times_ok (i : Int) (j : Int) (M : MH) (h : -18446744073709551616 < j) (h2 : j < 18446744073709551616) : fTimes (.int i) (.int j) M = .ok (.int (i * j)) M := by
  unfold fTimes
  dsimp only
  have hm : mulOk i j = true := by
    unfold mulOk
    rw [decide_eq_true h, decide_eq_true h2]
    simp
  rw [if_pos hm]
theorem times_ok' (i : Int) (j : Int) (M : MH) (h : -18446744073709551616 < i) (h2 : i < 18446744073709551616) : fTimes (.int i) (.int j) M = .ok (.int (i * j)) M := by
  unfold fTimes
  dsimp only
  have hm : mulOk i j = true := by
    unfold mulOk
    rw [decide_eq_true h, decide_eq_true h2]
    simp
  rw [if_pos hm]
theorem fdiv_ok (i j : Int) (M : MH) (h : j ≠ 0) (h2 : j.natAbs < 1073741824) : fFdiv (.int i) (.int j) M = .ok (.int (i.fdiv j)) M := by
  unfold fFdiv fInt
  dsimp only
  rw [if_pos]
  rw [bne_iff_ne.mpr h, decide_eq_true h2]
  rfl
/-- one number more at the end -/
theorem app_num {q : Nat} {xs : List Nat} {M : MH} {x : Nat} (h : M.get q = some (.lst (numV xs))) (hl : xs.length < 16777216) : fApp (.ref q) [.int (x : Int)] M = .ok .non (M.set q (.lst (numV (xs ++ [x])))) := by
  rw [fApp_ok h (by rw [List.length_map]; exact hl)]
  rw [show numV (xs ++ [x]) = numV xs ++ [.int ((x : Nat) : Int)] from by unfold numV; rw [List.map_append]; rfl]
structure MoreI (p q N : Nat) (i : Nat) (τ : MX.Loc) (M : MH) : Prop where
  l : τ.length = 5
  t0 : τ[0]? = some (.va (.ref p))
  t2 : ∃ v : Int, τ[2]? = some (.va (.int v))
  t3 : τ[3]? = some (.va (.ref q))
  g : ∃ xs : List Nat, M.get q = some (.lst (numV xs)) ∧ (∀ x ∈ xs, x < 1000) ∧ xs.length = i
  d : Dr N p M
theorem more_ok {N p L k : Nat} {M : MH} (h : Dr N p M) (hL : 10 ≤ L) (hN : N ≤ 100000) (hk : k ≤ 100000) (hn : 100000 < n) : ∃ r M', fnK (datF n) L e__law_more [.ref p, .int k] M = .ok (.ref r) M' ∧ Dr (k + N) r M' := by
  obtain ⟨L, rfl⟩ : ∃ k, L = k + 3 := ⟨L - 3, by omega⟩
  rw [b__law_more]
  unfold c__law_more
  generalize hτ : startM 5 [.ref p, .int k] = τ
  have a0 : τ[0]? = some (.va (.ref p)) := by rw [← hτ]; rfl
  have a1 : τ[1]? = some (.va (.int k)) := by rw [← hτ]; rfl
  have al : τ.length = 5 := by rw [← hτ]; rfl
  obtain ⟨x, M1, e1, _, d1, _⟩ := next_call (n := n) (L := L + 2) (i := 0) (τ := τ) h (by omega) (by omega) a0
  obtain ⟨y, M2, e2, _, d2, _⟩ := next_call (n := n) (L := L + 2) (i := 0) (τ := τ) d1 (by omega) (by omega) a0
  have v0 : m2 fPlus (m2 fPlus (m2 fTimes (mK (.int 1000)) (mCall 1 (fnK (datF n) (L + 2) e__law_next) (mCons (mVar 0) mNil))) (mCall 1 (fnK (datF n) (L + 2) e__law_next) (mCons (mVar 0) mNil))) (mK (.int 1)) τ M = .ok (.int (1000 * (x : Int) + y + 1)) M2 := by
    refine (op_ok ((op_ok ((op_ok (v := .int 1000) rfl e1).trans (times_ok' 1000 x M1 (by decide) (by decide))) e2).trans rfl) (w := .int 1) rfl).trans rfl
  have mk : mApp mkLst mNil (τ.set 2 (.va (.int (1000 * (x : Int) + y + 1)))) M2 = .ok (.ref M2.n) (M2.push (.lst [])) := (app_ok rfl).trans rfl
  have pq : p ≠ M2.n := by
    obtain ⟨xs, g, _⟩ := d2
    exact Nat.ne_of_lt (MH.lt g)
  obtain ⟨τ', M', f1, f2⟩ := for_gen (w := .rng 0 k) (y := 4) (k := k) (b := mSeq (mAsg (m2 fMod (mApp fIntC (mCons (m2 fPlus (m2 fTimes (mVar 2) (mK (.int (48271)))) (mK (.int (12345)))) mNil)) (mK (.int (2147483647)))) (gSet 2)) (mSeq (mDrop (mBM isLstM fApp (mVar 3) (mCons (m2 fMod (mApp fIntC (mCons (m2 fFdiv (mVar 2) (mK (.int (7)))) mNil)) (mK (.int (1000)))) mNil))) mNext))
    (fun i => .int i) (MoreI p M2.n N) (MoreI p M2.n N k)
    (fun i τ M hi _ => next_rng hi) (fun τ M hI => ⟨end_rng (Nat.le_refl _), hI⟩)
    (by
      intro i σ M3 hi hI
      obtain ⟨hl, h0, ⟨v, h2⟩, h3, ⟨xs, g1, g2, g3⟩, hd⟩ := hI
      generalize hσ : σ.set 4 (.va (.int i)) = σ1
      have b0 : σ1[0]? = some (.va (.ref p)) := by rw [← hσ]; simp [List.getElem?_set, h0]
      have b2 : σ1[2]? = some (.va (.int v)) := by rw [← hσ]; simp [List.getElem?_set, h2]
      have b3 : σ1[3]? = some (.va (.ref M2.n)) := by rw [← hσ]; simp [List.getElem?_set, h3]
      have bl : σ1.length = 5 := by rw [← hσ]; simp [hl]
      have m1 : m2 fPlus (m2 fTimes (mVar 2) (mK (.int 48271))) (mK (.int 12345)) σ1 M3 = .ok (.int (v * 48271 + 12345)) M3 := (op_ok ((op_ok (var_ok b2) (w := .int 48271) rfl).trans (times_ok v 48271 M3 (by decide) (by decide))) (w := .int 12345) rfl).trans rfl
      obtain ⟨z, _, _, ez⟩ := mod_ok (m := 2147483647) m1 (by decide)
      generalize hσ2 : σ1.set 2 (.va (.int (z : Int))) = σ2
      have c0 : σ2[0]? = some (.va (.ref p)) := by rw [← hσ2]; simp [List.getElem?_set, b0]
      have c2 : σ2[2]? = some (.va (.int (z : Int))) := by rw [← hσ2]; simp [List.getElem?_set, bl]
      have c3 : σ2[3]? = some (.va (.ref M2.n)) := by rw [← hσ2]; simp [List.getElem?_set, b3]
      have cl : σ2.length = 5 := by rw [← hσ2]; simp [bl]
      have m2' : m2 fFdiv (mVar 2) (mK (.int 7)) σ2 M3 = .ok (.int ((z : Int).fdiv 7)) M3 := (op_ok (var_ok c2) (w := .int 7) rfl).trans (fdiv_ok _ 7 M3 (by decide) (by decide))
      obtain ⟨u, hu, _, eu⟩ := mod_ok (m := 1000) m2' (by decide)
      have ap := bm_ok (ty := isLstM) (g := fApp) (var_ok c3) (isLst_of g1) (args1 eu)
      rw [app_num g1 (by omega)] at ap
      refine ⟨σ2, _, .inl ⟨(seq_nx ((asg_ok2 ez).trans (by rw [hσ2]))).trans ((seq_nx (drop_ok ap)).trans next_nx), ⟨cl, c0, ⟨_, c2⟩, c3, ⟨xs ++ [u], MH.get_set_same (MH.lt g1), ?_, by rw [List.length_append, g3]; rfl⟩, ?_⟩⟩⟩
      · intro x hx
        rcases List.mem_append.mp hx with hx | hx
        · exact g2 x hx
        · rw [List.mem_singleton.mp hx]; exact hu
      · obtain ⟨ys, y1, y2⟩ := hd
        exact ⟨ys, (MH.get_set_other pq).trans y1, y2⟩)
    k 0 n ((τ.set 2 (.va (.int (1000 * (x : Int) + y + 1)))).set 3 (.va (.ref M2.n))) (M2.push (.lst [])) (by omega) (by omega)
    ⟨by simp [al], by simp [List.getElem?_set, a0], ⟨1000 * (x : Int) + y + 1, by simp [List.getElem?_set, al]⟩, by simp [List.getElem?_set, al], ⟨[], MH.get_push_same _, by simp, rfl⟩, by
      obtain ⟨ys, y1, y2⟩ := d2
      exact ⟨ys, (MH.get_push_other pq).trans y1, y2⟩⟩
  obtain ⟨hl, h0, _, h3, ⟨xs, g1, g2, g3⟩, ⟨ys, y1, y2, y3⟩⟩ := f2
  have rt : m2 fPlus (mVar 3) (mVar 0) τ' M' = .ok (.ref M'.n) (M'.push (.lst (numV (xs ++ ys)))) := by
    rw [op_ok (var_ok h3) (var_ok h0)]
    unfold fPlus
    dsimp only
    rw [g1, y1]
    dsimp only
    unfold mkLst
    rw [if_pos (by rw [List.length_append, List.length_map, List.length_map]; omega)]
    rw [show numV (xs ++ ys) = numV xs ++ numV ys from List.map_append]
  refine ⟨M'.n, M'.push (.lst (numV (xs ++ ys))), run_rt ?_, ⟨xs ++ ys, MH.get_push_same _, ?_, by rw [List.length_append]; omega⟩⟩
  · rw [hτ]
    refine (seq_nx (asg_ok2 v0)).trans ((seq_nx (asg_ok2 mk)).trans ((seq_nx ((for_ok (rng1_ok (j := (k : Int)) (args1 (var_ok ?_)) ?_)).trans f1)).trans (seq_rt (ret_ok rt))))
    · simp [List.getElem?_set, a1]
    · unfold i62; rw [decide_eq_true (by omega), decide_eq_true (by omega)]; rfl
  · intro x hx
    rcases List.mem_append.mp hx with hx | hx
    · exact g2 x hx
    · exact y2 x hx
end
end Mine
end
section
set_option Elab.async false
set_option linter.all false
set_option maxRecDepth 100000
set_option maxHeartbeats 4000000
/-! KF23: the draws of a script. -/
namespace Mine
open PySem PySem.Spec MX L2 TL
section
variable {n : Nat}
theorem number_ok {i : Int} {M : MH} {L : Nat} (hL : 3 ≤ L) : ∃ v : Int, fnK (datF n) L e__law_number [.int i] M = .ok (.int v) M := by
  obtain ⟨L, rfl⟩ : ∃ k, L = k + 3 := ⟨L - 3, by omega⟩
  rw [b__law_number]
  unfold c__law_number
  have v0 : mVar 0 (startM 1 [.int i]) M = .ok (.int i) M := var_ok rfl
  have t : mTest (m2 fLt (mVar 0) (mK (.int 0))) (startM 1 [.int i]) M = .ok (decide (i < 0)) M := test_ok ((op_ok v0 (w := .int 0) rfl).trans (lt_int2 ..))
  by_cases c : i < 0
  · rw [decide_eq_true c] at t
    exact ⟨_, run_rt (seq_rt ((if_t t).trans (seq_rt (ret_ok ((op_ok (v := .int 0) rfl v0).trans rfl)))))⟩
  · rw [decide_eq_false c] at t
    exact ⟨_, run_rt ((seq_nx ((if_f t).trans next_nx)).trans (seq_rt (ret_ok v0)))⟩
structure DI (q N : Nat) (τ : MX.Loc) (M : MH) : Prop where
  l : τ.length = 7
  t1 : τ[1]? = some (.va (.ref q))
  t3 : ∃ v : Int, τ[3]? = some (.va (.int v))
  d : Dr N q M
theorem Dr.more {N N' p : Nat} {M : MH} (h : Dr N p M) (hN : N ≤ N') : Dr N' p M := by
  obtain ⟨xs, h1, h2, h3⟩ := h
  exact ⟨xs, h1, h2, by omega⟩
theorem Dr.app {N q x : Nat} {M : MH} (h : Dr N q M) (hx : x < 1000) (hN : N < 16777216) : ∃ M', fApp (.ref q) [.int (x : Int)] M = .ok .non M' ∧ Dr (N + 1) q M' := by
  obtain ⟨xs, h1, h2, h3⟩ := h
  refine ⟨_, app_num h1 (by omega), ⟨xs ++ [x], MH.get_set_same (MH.lt h1), fun y hy => ?_, by rw [List.length_append]; show _ + 1 ≤ _; omega⟩⟩
  rcases List.mem_append.mp hy with hy | hy
  · exact h2 y hy
  · rw [List.mem_singleton.mp hy]; exact hx
theorem Dr.isl {N q : Nat} {M : MH} (h : Dr N q M) : isLstM M (.ref q) = true := by
  obtain ⟨xs, h1, _⟩ := h
  exact isLst_of h1
abbrev INNER : MS := (mSeq (mIfS (mTest (m2 fEq (mVar 3) (mK (.int (0))))) (mSeq mBreak mNext) mNext) (mSeq (mDrop (mBM isLstM fApp (mVar 1) (mCons (m2 fMod (mApp fIntC (mCons (mVar 3) mNil)) (mK (.int (1000)))) mNil))) (mSeq (mAsg (m2 fFdiv (mVar 3) (mK (.int (1000)))) (gSet 3)) mNext)))
theorem inner_ok {q N : Nat} {τ : MX.Loc} {M : MH} (h : DI q N τ M) (hN : N ≤ 100000) (hn : 100000 < n) : ∃ τ' M', mFor n (rng1 (mCons (mK (.int 60)) mNil)) (gSet 4) INNER τ M = .nx τ' M' ∧ DI q (N + 60) τ' M' := by
  obtain ⟨τ', M', f1, f2⟩ := for_gen (w := .rng 0 60) (y := 4) (k := 60) (b := INNER) (fun i => .int i) (fun i τ M => DI q (N + i) τ M) (DI q (N + 60))
    (fun i τ M hi _ => next_rng hi) (fun τ M hI => ⟨end_rng (Nat.le_refl _), hI⟩)
    (by
      intro i σ M3 hi hI
      obtain ⟨hl, h1, ⟨v, h3⟩, hd⟩ := hI
      generalize hσ : σ.set 4 (.va (.int i)) = σ1
      have b1 : σ1[1]? = some (.va (.ref q)) := by rw [← hσ]; simp [List.getElem?_set, h1]
      have b3 : σ1[3]? = some (.va (.int v)) := by rw [← hσ]; simp [List.getElem?_set, h3]
      have bl : σ1.length = 7 := by rw [← hσ]; simp [hl]
      have t : mTest (m2 fEq (mVar 3) (mK (.int 0))) σ1 M3 = .ok (decide (v = 0)) M3 := test_ok ((op_ok (var_ok b3) (w := .int 0) rfl).trans (fEq_int ..))
      by_cases c : v = 0
      · rw [decide_eq_true c] at t
        exact ⟨σ1, M3, .inr ⟨seq_bk ((if_t t).trans (seq_bk rfl)), ⟨bl, b1, ⟨v, b3⟩, hd.more (by omega)⟩⟩⟩
      · rw [decide_eq_false c] at t
        obtain ⟨u, hu, _, eu⟩ := mod_ok (m := 1000) (var_ok (M := M3) b3) (by decide)
        obtain ⟨M4, ea, d4⟩ := hd.app hu (by omega)
        have ap := (bm_ok (ty := isLstM) (g := fApp) (var_ok b1) hd.isl (args1 eu)).trans ea
        have dv : m2 fFdiv (mVar 3) (mK (.int 1000)) σ1 M4 = .ok (.int (v.fdiv 1000)) M4 := (op_ok (var_ok b3) (w := .int 1000) rfl).trans (fdiv_ok _ 1000 M4 (by decide) (by decide))
        exact ⟨σ1.set 3 (.va (.int (v.fdiv 1000))), M4, .inl ⟨(seq_nx ((if_f t).trans next_nx)).trans ((seq_nx (drop_ok ap)).trans ((seq_nx (asg_ok2 dv)).trans next_nx)), ⟨by simp [bl], by simp [List.getElem?_set, b1], ⟨v.fdiv 1000, by simp [List.getElem?_set, bl]⟩, d4⟩⟩⟩)
    60 0 n τ M (by omega) (by omega) h
  exact ⟨τ', M', (for_ok (rng1_ok (j := 60) rfl (by decide))).trans f1, f2⟩
abbrev DBODY (n k : Nat) : MS := (mSeq (mAsg (mCall 1 (fnK (datF n) (k + 2) e__law_number) (mCons (mVar 2) mNil)) (gSet 3)) (mSeq (mIfS (mTest (m2 fGe (mVar 3) (mK (.int (1000000000000000000))))) (mSeq (mFor n (rng1 (mCons (mK (.int (60))) mNil)) (gSet 4) INNER) mNext) (mSeq (mAsg (m2 fMod (mApp fIntC (mCons (m2 fPlus (m2 fTimes (mVar 3) (mK (.int (48271)))) (mK (.int (11)))) mNil)) (mK (.int (2147483647)))) (gSet 5)) (mSeq (mAsg (m2 fMod (mApp fIntC (mCons (m2 fPlus (m2 fTimes (mVar 5) (mK (.int (69621)))) (mVar 3)) mNil)) (mK (.int (2147483629)))) (gSet 6)) (mSeq (mDrop (mBM isLstM fExt (mVar 1) (mCons (mApp mkLst (mCons (m2 fMod (mApp fIntC (mCons (mVar 3) mNil)) (mK (.int (1000)))) (mCons (m2 fMod (mApp fIntC (mCons (mVar 5) mNil)) (mK (.int (1000)))) (mCons (m2 fMod (mApp fIntC (mCons (mVar 6) mNil)) (mK (.int (1000)))) mNil)))) mNil))) mNext)))) mNext))
theorem dbody_ok {q N k : Nat} {τ : MX.Loc} {M : MH} {i : Int} (hl : τ.length = 7) (h1 : τ[1]? = some (.va (.ref q))) (h2 : τ[2]? = some (.va (.int i))) (hd : Dr N q M) (hN : N ≤ 90000) (hn : 100000 < n) (hk : 1 ≤ k) :
    ∃ τ' M', DBODY n k τ M = .nx τ' M' ∧ DI q (N + 63) τ' M' := by
  obtain ⟨v, ev⟩ := number_ok (n := n) (i := i) (M := M) (L := k + 2) (by omega)
  have cl : mCall 1 (fnK (datF n) (k + 2) e__law_number) (mCons (mVar 2) mNil) τ M = .ok (.int v) M := (call_ok (args1 (var_ok h2)) rfl).trans ev
  generalize hσ : τ.set 3 (.va (.int v)) = σ
  have b1 : σ[1]? = some (.va (.ref q)) := by rw [← hσ]; simp [List.getElem?_set, h1]
  have b3 : σ[3]? = some (.va (.int v)) := by rw [← hσ]; simp [List.getElem?_set, hl]
  have bl : σ.length = 7 := by rw [← hσ]; simp [hl]
  have t : mTest (m2 fGe (mVar 3) (mK (.int 1000000000000000000))) σ M = .ok (decide ((1000000000000000000 : Int) ≤ v)) M := test_ok ((op_ok (var_ok b3) (w := .int 1000000000000000000) rfl).trans rfl)
  by_cases c : (1000000000000000000 : Int) ≤ v
  · rw [decide_eq_true c] at t
    obtain ⟨τ1, M1, e, d⟩ := inner_ok (n := n) ⟨bl, b1, ⟨v, b3⟩, hd⟩ (by omega) hn
    exact ⟨τ1, M1, (seq_nx ((asg_ok2 cl).trans (by rw [hσ]))).trans ((seq_nx ((if_t t).trans ((seq_nx e).trans next_nx))).trans next_nx), ⟨d.l, d.t1, d.t3, d.d.more (by omega)⟩⟩
  rw [decide_eq_false c] at t
  obtain ⟨τ1, M1, rfl, rfl, cl1, c1, ⟨v1, c3⟩, d1⟩ : ∃ τ1 M1, τ1 = σ ∧ M1 = M ∧ DI q (N + 60) τ1 M1 := ⟨σ, M, rfl, rfl, ⟨bl, b1, ⟨v, b3⟩, hd.more (by omega)⟩⟩
  have m5 : m2 fPlus (m2 fTimes (mVar 3) (mK (.int 48271))) (mK (.int 11)) τ1 M1 = .ok (.int (v1 * 48271 + 11)) M1 := (op_ok ((op_ok (var_ok c3) (w := .int 48271) rfl).trans (times_ok v1 48271 M1 (by decide) (by decide))) (w := .int 11) rfl).trans rfl
  obtain ⟨z, _, _, ez⟩ := mod_ok (m := 2147483647) m5 (by decide)
  generalize hτ2 : τ1.set 5 (.va (.int (z : Int))) = τ2
  have f1 : τ2[1]? = some (.va (.ref q)) := by rw [← hτ2]; simp [List.getElem?_set, c1]
  have f3 : τ2[3]? = some (.va (.int v1)) := by rw [← hτ2]; simp [List.getElem?_set, c3]
  have f5 : τ2[5]? = some (.va (.int (z : Int))) := by rw [← hτ2]; simp [List.getElem?_set, cl1]
  have fl : τ2.length = 7 := by rw [← hτ2]; simp [cl1]
  have m6 : m2 fPlus (m2 fTimes (mVar 5) (mK (.int 69621))) (mVar 3) τ2 M1 = .ok (.int ((z : Int) * 69621 + v1)) M1 := (op_ok ((op_ok (var_ok f5) (w := .int 69621) rfl).trans (times_ok z 69621 M1 (by decide) (by decide))) (var_ok f3)).trans rfl
  obtain ⟨y, _, _, ey⟩ := mod_ok (m := 2147483629) m6 (by decide)
  generalize hτ3 : τ2.set 6 (.va (.int (y : Int))) = τ3
  have g1 : τ3[1]? = some (.va (.ref q)) := by rw [← hτ3]; simp [List.getElem?_set, f1]
  have g3 : τ3[3]? = some (.va (.int v1)) := by rw [← hτ3]; simp [List.getElem?_set, f3]
  have g5 : τ3[5]? = some (.va (.int (z : Int))) := by rw [← hτ3]; simp [List.getElem?_set, f5]
  have g6 : τ3[6]? = some (.va (.int (y : Int))) := by rw [← hτ3]; simp [List.getElem?_set, fl]
  have gl : τ3.length = 7 := by rw [← hτ3]; simp [fl]
  obtain ⟨u1, k1, _, x1⟩ := mod_ok (m := 1000) (var_ok (M := M1) g3) (by decide)
  obtain ⟨u2, k2, _, x2⟩ := mod_ok (m := 1000) (var_ok (M := M1) g5) (by decide)
  obtain ⟨u3, k3, _, x3⟩ := mod_ok (m := 1000) (var_ok (M := M1) g6) (by decide)
  have mk : mApp mkLst (mCons (m2 fMod (mApp fIntC (mCons (mVar 3) mNil)) (mK (.int (1000)))) (mCons (m2 fMod (mApp fIntC (mCons (mVar 5) mNil)) (mK (.int (1000)))) (mCons (m2 fMod (mApp fIntC (mCons (mVar 6) mNil)) (mK (.int (1000)))) mNil))) τ3 M1 = .ok (.ref M1.n) (M1.push (.lst (numV [u1, u2, u3]))) := (app_ok (argsC x1 (argsC x2 (args1 x3)))).trans rfl
  obtain ⟨xs, y1, y2, y3⟩ := d1
  have gq : (M1.push (.lst (numV [u1, u2, u3]))).get q = some (.lst (numV xs)) := (MH.get_push_other (Nat.ne_of_lt (MH.lt y1))).trans y1
  have ex : mBM isLstM fExt (mVar 1) (mCons (mApp mkLst (mCons (m2 fMod (mApp fIntC (mCons (mVar 3) mNil)) (mK (.int (1000)))) (mCons (m2 fMod (mApp fIntC (mCons (mVar 5) mNil)) (mK (.int (1000)))) (mCons (m2 fMod (mApp fIntC (mCons (mVar 6) mNil)) (mK (.int (1000)))) mNil)))) mNil) τ3 M1 = .ok .non ((M1.push (.lst (numV [u1, u2, u3]))).set q (.lst (numV (xs ++ [u1, u2, u3])))) := by
    rw [bm_ok (var_ok g1) (isLst_of y1) (args1 mk)]
    unfold fExt
    dsimp only
    rw [gq, MH.get_push_same]
    dsimp only
    rw [if_pos (by rw [List.length_map, List.length_map]; show _ + 3 ≤ _; omega)]
    rw [show numV (xs ++ [u1, u2, u3]) = numV xs ++ numV [u1, u2, u3] from List.map_append]
  refine ⟨τ3, _, (seq_nx ((asg_ok2 cl).trans (by rw [hσ]))).trans ((seq_nx ((if_f t).trans ((seq_nx ((asg_ok2 ez).trans (by rw [hτ2]))).trans ((seq_nx ((asg_ok2 ey).trans (by rw [hτ3]))).trans ((seq_nx (drop_ok ex)).trans next_nx))))).trans next_nx), ⟨gl, g1, ⟨v1, g3⟩, ⟨xs ++ [u1, u2, u3], MH.get_set_same (MH.lt gq), fun x hx => ?_, by rw [List.length_append]; show _ + 3 ≤ _; omega⟩⟩⟩
  rcases List.mem_append.mp hx with hx | hx
  · exact y2 x hx
  · simp only [List.mem_cons, List.mem_nil_iff, or_false] at hx
    omega
theorem draws_ok {ns : List Int} {M : MH} {L : Nat} (hns : ns.length ≤ 63) (hL : 10 ≤ L) (hn : 100000 < n) : ∃ q M', fnK (datF n) L e__law_draws [.fro (ns.map .int)] M = .ok (.ref q) M' ∧ Dr 4000 q M' := by
  obtain ⟨k, rfl⟩ : ∃ k, L = k + 3 := ⟨L - 3, by omega⟩
  rw [b__law_draws]
  unfold c__law_draws
  generalize hτ : startM 7 [.fro (ns.map .int)] = τ
  have a0 : τ[0]? = some (.va (.fro (ns.map .int))) := by rw [← hτ]; rfl
  have al : τ.length = 7 := by rw [← hτ]; rfl
  have mk : mApp mkLst mNil τ M = .ok (.ref M.n) (M.push (.lst [])) := (app_ok rfl).trans rfl
  generalize hτ1 : τ.set 1 (.va (.ref M.n)) = τ1
  have b0 : τ1[0]? = some (.va (.fro (ns.map .int))) := by rw [← hτ1]; simp [List.getElem?_set, a0]
  have b1 : τ1[1]? = some (.va (.ref M.n)) := by rw [← hτ1]; simp [List.getElem?_set, al]
  have bl : τ1.length = 7 := by rw [← hτ1]; simp [al]
  obtain ⟨τ', M', f1, f2⟩ := for_gen (w := .fix (ns.map .int)) (y := 2) (k := ns.length) (b := DBODY n k) (fun i => .int (ns.getD i 0)) (fun i τ M' => τ.length = 7 ∧ τ[1]? = some (.va (.ref M.n)) ∧ Dr (63 * i) M.n M') (fun τ M' => τ.length = 7 ∧ τ[1]? = some (.va (.ref M.n)) ∧ Dr (63 * ns.length) M.n M')
    (by
      intro i τ M' hi _
      show some ((ns.map MV.int)[i]?) = _
      rw [List.getElem?_map, List.getElem?_eq_getElem hi, List.getD_eq_getElem?_getD, List.getElem?_eq_getElem hi]
      rfl)
    (by
      intro τ M' hI
      refine ⟨?_, hI⟩
      show some ((ns.map MV.int)[ns.length]?) = _
      rw [List.getElem?_map, List.getElem?_eq_none_iff.mpr (Nat.le_refl _)]
      rfl)
    (by
      intro i σ M' hi hI
      obtain ⟨hl, h1, hd⟩ := hI
      obtain ⟨τ2, M2, e, d⟩ := dbody_ok (n := n) (k := k) (τ := σ.set 2 (.va (.int (ns.getD i 0)))) (i := ns.getD i 0) (by simp [hl]) (by simp [List.getElem?_set, h1]) (by simp [List.getElem?_set, hl]) hd (by omega) hn (by omega)
      exact ⟨τ2, M2, .inl ⟨e, d.l, d.t1, d.d.more (by omega)⟩⟩)
    ns.length 0 n τ1 (M.push (.lst [])) (by omega) (by omega) ⟨bl, b1, ⟨[], MH.get_push_same _, by simp, Nat.zero_le _⟩⟩
  obtain ⟨hl, h1, xs, y1, y2, y3⟩ := f2
  have rv : mBM isLstM fRev (mVar 1) mNil τ' M' = .ok .non (M'.set M.n (.lst (numV xs.reverse))) := by
    rw [bm_ok (var_ok h1) (isLst_of y1) (xs := []) (M2 := M') rfl]
    unfold fRev
    dsimp only
    rw [y1]
    dsimp only
    rw [show numV xs.reverse = (numV xs).reverse from List.map_reverse]
  refine ⟨M.n, M'.set M.n (.lst (numV xs.reverse)), run_rt ?_, ⟨xs.reverse, MH.get_set_same (MH.lt y1), fun x hx => y2 x (List.mem_reverse.mp hx), by rw [List.length_reverse]; omega⟩⟩
  rw [hτ]
  have wk : mWalk (mVar 0) τ1 (M.push (.lst [])) = .ok (.fix (ns.map .int)) (M.push (.lst [])) := by
    unfold mWalk
    rw [var_ok b0]
    rfl
  have lp : mFor n (mWalk (mVar 0)) (gSet 2) (DBODY n k) τ1 (M.push (.lst [])) = .nx τ' M' := (for_ok wk).trans f1
  refine (seq_nx ((asg_ok2 mk).trans (by rw [hτ1]))).trans ?_
  refine (seq_nx lp).trans ?_
  exact (seq_nx (drop_ok rv)).trans (seq_rt (ret_ok (var_ok h1)))
end
end Mine
end
section
set_option Elab.async false
set_option linter.all false
set_option maxRecDepth 100000
set_option maxHeartbeats 4000000
/-! KF24: a pick; a drawn term. -/
namespace Mine
open PySem PySem.Spec MX L2 TL
section
variable {n : Nat}
theorem pick_ok {N p q L : Nat} {vs : List MV} {M : MH} (h : Dr N p M) (hq : M.get q = some (.lst vs)) (ne : q ≠ p) (hv : vs ≠ []) (hL : 6 ≤ L) (hN : N ≤ 16777216) :
    ∃ v M', fnK (datF n) L e__law_pick [.ref p, .ref q] M = .ok v M' ∧ v ∈ vs ∧ Dr N p M' ∧ LeX p M M' := by
  obtain ⟨L, rfl⟩ : ∃ k, L = k + 3 := ⟨L - 3, by omega⟩
  rw [b__law_pick]
  unfold c__law_pick
  have a0 : (startM 2 [.ref p, .ref q])[0]? = some (.va (.ref p)) := rfl
  obtain ⟨x, M1, e1, _, d1, l1⟩ := next_call (n := n) (L := L + 2) (i := 0) (τ := startM 2 [.ref p, .ref q]) h (by omega) hN a0
  have hq1 : M1.get q = some (.lst vs) := l1.get hq ne
  have hl : 0 < vs.length := List.length_pos_iff.mpr hv
  obtain ⟨j, ej, hj⟩ := fmod_nat (x : Int) hl
  have ln : mApp fLen (mCons (mVar 1) mNil) (startM 2 [.ref p, .ref q]) M1 = .ok (.int (vs.length : Int)) M1 := by
    rw [app_ok (args1 (var_ok (v := .ref q) rfl))]
    unfold fLen
    dsimp only
    rw [hq1]
  have md : m2 fMod (mApp fIntC (mCons (mCall 1 (fnK (datF n) (L + 2) e__law_next) (mCons (mVar 0) mNil)) mNil)) (mApp fLen (mCons (mVar 1) mNil)) (startM 2 [.ref p, .ref q]) M = .ok (.int (j : Int)) M1 := by
    rw [op_ok ((app_ok (args1 e1)).trans rfl) ln]
    unfold fMod fInt
    dsimp only
    rw [if_pos (bne_iff_ne.mpr (by omega)), ej]
  refine ⟨vs[j], M1, run_rt (seq_rt (ret_ok ?_)), List.getElem_mem hj, d1, l1⟩
  rw [op_ok (var_ok (v := .ref q) rfl) md]
  unfold fIx
  dsimp only
  rw [hq1]
  dsimp only
  rw [L2.atI_nat (List.getElem?_eq_getElem hj)]
end
end Mine
end
section
set_option Elab.async false
set_option linter.all false
set_option maxRecDepth 100000
set_option maxHeartbeats 4000000
/-! KF25: a drawn term. -/
namespace Mine
open PySem PySem.Spec MX L2 TL
section
variable {n : Nat}
theorem LeX.skip {p r : Nat} {A B : MH} {o : MO} (h : LeX p A B) (hr : A.n ≤ r) : LeX p A (B.set r o) := ⟨by rw [MH.set_n]; exact h.n, fun i hi e => by rw [MH.get_set_other (by omega)]; exact h.g i hi e⟩
theorem Dr.set {N p r : Nat} {M : MH} {o : MO} (h : Dr N p M) (ne : p ≠ r) : Dr N p (M.set r o) := by
  obtain ⟨xs, h1, h2⟩ := h
  exact ⟨xs, (MH.get_set_other ne).trans h1, h2⟩
theorem Dr.push {N p : Nat} {M : MH} {o : MO} (h : Dr N p M) : Dr N p (M.push o) := by
  obtain ⟨xs, h1, h2⟩ := h
  exact ⟨xs, (MH.get_push_other (Nat.ne_of_lt (MH.lt h1))).trans h1, h2⟩
theorem Dr.lt {N p : Nat} {M : MH} (h : Dr N p M) : p < M.n := by
  obtain ⟨xs, h1, _⟩ := h
  exact MH.lt h1
theorem lc_draw {N p k : Nat} {e te : ME} {cs : List Nat} {τ : MX.Loc} {M M1 : MH} (P : MV → Prop) (he : e τ M = .ok (.int (k : Int)) M1) (hk : k ≤ 100) (hn : 100000 < n) (hd : Dr N p M1) (hx : LeX p M M1)
    (hel : ∀ i M2, i < k → Dr N p M2 → ∃ y M3, te ((wipeL τ cs).set 4 (.va (.int ((i : Nat) : Int)))) M2 = .ok y M3 ∧ P y ∧ Dr N p M3 ∧ LeX p M2 M3) :
    ∃ r M' acc, mLc n (rng1 (mCons e mNil)) (gSet 4) mYes te cs τ M = .ok (.ref r) M' ∧ M'.get r = some (.lst acc) ∧ (∀ y ∈ acc, P y) ∧ acc.length = k ∧ Dr N p M' ∧ LeX p M M' := by
  have pr : p ≠ M1.n := Nat.ne_of_lt hd.lt
  obtain ⟨acc, M', e1, e2, ⟨e3, e4, e5⟩, e6⟩ := lc_gen (w := .rng 0 k) (g := gSet 4) (te := te) (τ := wipeL τ cs) (r := M1.n) (k := k) (fun i acc M2 => (∀ y ∈ acc, P y) ∧ Dr N p M2 ∧ LeX p M1 M2) (by omega)
    (by
      intro i acc M2 hi hacc hI hr
      obtain ⟨i1, i2, i3⟩ := hI
      obtain ⟨y, M3, g1, g2, g3, g4⟩ := hel i M2 hi i2
      refine ⟨.int i, _, M2, y, M3, next_rng hi, rfl, g1, g4.get hr (Ne.symm pr), fun z hz => ?_, g3.set pr, (i3.trans g4).skip (Nat.le_refl _)⟩
      rcases List.mem_append.mp hz with hz | hz
      · exact i1 z hz
      · rw [List.mem_singleton.mp hz]; exact g2)
    (fun acc M2 _ _ _ => end_rng (Nat.le_refl _)) k 0 [] (M1.push (.lst [])) n (by omega) (by omega) rfl ⟨by simp, hd.push, LeX.of (Le.push _ _)⟩ (MH.get_push_same _)
  refine ⟨M1.n, M', acc, ?_, e6, e3, e2, e4, hx.trans e5⟩
  unfold mLc
  rw [rng1_ok (args1 he) (by unfold i62; rw [decide_eq_true (by omega), decide_eq_true (by omega)]; rfl)]
  exact e1
theorem nextmod_ok {N p L m : Nat} {M : MH} {τ : MX.Loc} (h : Dr N p M) (hL : 3 ≤ L) (hN : N ≤ 16777216) (h0 : τ[0]? = some (.va (.ref p))) (hm : 0 < m) :
    ∃ (x : Nat) (M' : MH), m2 fMod (mApp fIntC (mCons (mCall 1 (fnK (datF n) L e__law_next) (mCons (mVar 0) mNil)) mNil)) (mK (.int (m : Int))) τ M = .ok (.int (x : Int)) M' ∧ x < m ∧ Dr N p M' ∧ LeX p M M' := by
  obtain ⟨x, M1, e1, _, d1, l1⟩ := next_call (n := n) (L := L) (i := 0) (τ := τ) h hL hN h0
  obtain ⟨y, hy, _, ey⟩ := mod_ok (m := m) e1 hm
  exact ⟨y, M1, ey, hy, d1, l1⟩
theorem join_one : ∀ cs : List Nat, joinM [] (cs.map fun c => [c]) = cs
  | [] => rfl
  | [c] => rfl
  | c :: d :: r => by
    show [c] ++ ([] ++ joinM [] ((d :: r).map fun c => [c])) = _
    rw [join_one (d :: r)]
    rfl
theorem acc_str : ∀ acc : List MV, (∀ y ∈ acc, ∃ c ∈ [97, 98, 99, 110, 111, 122, 101], y = .str [c]) → ∃ cs : List Nat, acc = cs.map (fun c => .str [c]) ∧ ∀ c ∈ cs, c ∈ [97, 98, 99, 110, 111, 122, 101]
  | [], _ => ⟨[], rfl, by simp⟩
  | y :: acc, h => by
    obtain ⟨c, hc, rfl⟩ := h y (List.mem_cons_self ..)
    obtain ⟨cs, rfl, hcs⟩ := acc_str acc fun z hz => h z (List.mem_cons_of_mem _ hz)
    exact ⟨c :: cs, rfl, fun d hd => by
      rcases List.mem_cons.mp hd with e | e
      · rw [e]; exact hc
      · exact hcs d e⟩
def DrawP (n N p m : Nat) : Prop := ∀ {d L : Nat} {M : MH}, d + m = 4 → Dr N p M → 10 + m ≤ L → ∃ v M', fnK (datF n) L e__law_term [.ref p, .int (d : Int)] M = .ok v M' ∧ Tm m v ∧ Dr N p M' ∧ LeX p M M'
abbrev ABC : List Nat := [97, 98, 99, 110, 111, 122, 101]
theorem draw_step {N p m : Nat} (hN : N ≤ 100000) (hn : 100000 < n) (ih : ∀ m', m = m' + 1 → DrawP n N p m') : DrawP n N p m := by
  intro d L M hd h hL
  obtain ⟨L, rfl⟩ : ∃ k, L = k + 3 := ⟨L - 3, by omega⟩
  rw [b__law_term]
  unfold c__law_term
  generalize hτ : startM 5 [.ref p, .int (d : Int)] = τ
  have a0 : τ[0]? = some (.va (.ref p)) := by rw [← hτ]; rfl
  have a1 : τ[1]? = some (.va (.int (d : Int))) := by rw [← hτ]; rfl
  have al : τ.length = 5 := by rw [← hτ]; rfl
  -- the kind
  have kind : ∃ (x : Nat) (M1 : MH), m2 fMod (mApp fIntC (mCons (mCall 1 (fnK (datF n) (L + 2) e__law_next) (mCons (mVar 0) mNil)) mNil)) (mIf (mTest (m2 fLt (mVar 1) (mK (.int 4)))) (mK (.int 8)) (mK (.int 5))) τ M = .ok (.int (x : Int)) M1 ∧ (m = 0 → x < 5) ∧ Dr N p M1 ∧ LeX p M M1 := by
    obtain ⟨x, M1, e1, _, d1, l1⟩ := next_call (n := n) (L := L + 2) (i := 0) (τ := τ) h (by omega) (by omega) a0
    have t : mTest (m2 fLt (mVar 1) (mK (.int 4))) τ M1 = .ok (decide ((d : Int) < 4)) M1 := test_ok ((op_ok (var_ok a1) (w := .int 4) rfl).trans (lt_int2 ..))
    by_cases c : (d : Int) < 4
    · rw [decide_eq_true c] at t
      obtain ⟨y, ey, hy⟩ := fmod_nat (x : Int) (m := 8) (by decide)
      refine ⟨y, M1, ?_, fun e => by omega, d1, l1⟩
      rw [op_ok ((app_ok (args1 e1)).trans rfl) (w := .int 8) (by rw [ife_b t]; rfl)]
      exact congrArg (fun z => Res.ok (MV.int z) M1) ey
    · rw [decide_eq_false c] at t
      obtain ⟨y, ey, hy⟩ := fmod_nat (x : Int) (m := 5) (by decide)
      refine ⟨y, M1, ?_, fun e => hy, d1, l1⟩
      rw [op_ok ((app_ok (args1 e1)).trans rfl) (w := .int 5) (by rw [ife_b t]; rfl)]
      exact congrArg (fun z => Res.ok (MV.int z) M1) ey
  obtain ⟨x, M1, e1, hx, d1, l1⟩ := kind
  generalize hσ : τ.set 2 (.va (.int (x : Int))) = σ
  have b0 : σ[0]? = some (.va (.ref p)) := by rw [← hσ]; simp [List.getElem?_set, a0]
  have b1 : σ[1]? = some (.va (.int (d : Int))) := by rw [← hσ]; simp [List.getElem?_set, a1]
  have b2 : σ[2]? = some (.va (.int (x : Int))) := by rw [← hσ]; simp [List.getElem?_set, al]
  have bl : σ.length = 5 := by rw [← hσ]; simp [al]
  have s0 : ∀ R : MS, mSeq (mAsg (m2 fMod (mApp fIntC (mCons (mCall 1 (fnK (datF n) (L + 2) e__law_next) (mCons (mVar 0) mNil)) mNil)) (mIf (mTest (m2 fLt (mVar 1) (mK (.int 4)))) (mK (.int 8)) (mK (.int 5)))) (gSet 2)) R τ M = R σ M1 := fun R => (seq_nx (asg_ok2 e1)).trans (by rw [hσ])
  have w0 : (wipeL σ [4])[0]? = some (.va (.ref p)) := by show (σ.set 4 .un)[0]? = _; simp [List.getElem?_set, b0]
  have t0 : mTest (m2 fEq (mVar 2) (mK (.int 0))) σ M1 = .ok (decide ((x : Int) = 0)) M1 := test_ok ((op_ok (var_ok b2) (w := .int 0) rfl).trans (fEq_int ..))
  have t1 : mTest (m2 fEq (mVar 2) (mK (.int 1))) σ M1 = .ok (decide ((x : Int) = 1)) M1 := test_ok ((op_ok (var_ok b2) (w := .int 1) rfl).trans (fEq_int ..))
  have t5 : mTest (m2 fLt (mVar 2) (mK (.int 5))) σ M1 = .ok (decide ((x : Int) < 5)) M1 := test_ok ((op_ok (var_ok b2) (w := .int 5) rfl).trans (lt_int2 ..))
  by_cases c0 : (x : Int) = 0
  · rw [decide_eq_true c0] at t0
    obtain ⟨k, M2, e2, hk, d2, l2⟩ := nextmod_ok (n := n) (L := L + 2) (m := 6) d1 (by omega) (by omega) b0 (by decide)
    obtain ⟨r, M3, acc, f1, f2, f3, f4, f5, f6⟩ := lc_draw (n := n) (N := N) (p := p) (k := k) (te := m2 fIx (mK (.str ABC)) (m2 fMod (mApp fIntC (mCons (mCall 1 (fnK (datF n) (L + 2) e__law_next) (mCons (mVar 0) mNil)) mNil)) (mK (.int 7)))) (cs := [4]) (fun y => ∃ c ∈ ABC, y = .str [c]) e2 (by omega) hn d2 l2
      (by
        intro i Ma hi da
        obtain ⟨j, Mb, g1, g2, g3, g4⟩ := nextmod_ok (n := n) (L := L + 2) (m := 7) (τ := (wipeL σ [4]).set 4 (.va (.int ((i : Nat) : Int)))) da (by omega) (by omega) (by rw [List.getElem?_set_ne (by decide)]; exact w0) (by decide)
        have hj : j < ABC.length := g2
        refine ⟨.str [ABC[j]], Mb, ?_, ⟨_, List.getElem_mem hj, rfl⟩, g3, g4⟩
        refine (op_ok (v := .str ABC) (M' := Ma) rfl g1).trans ?_
        unfold fIx
        dsimp only
        rw [if_pos (by decide), L2.atI_nat (List.getElem?_eq_getElem hj)])
    obtain ⟨cs, rfl, hcs⟩ := acc_str acc f3
    rw [List.length_map] at f4
    have jn : mBM isStrM fJoin (mK (.str [])) (mCons (mLc n (rng1 (mCons (m2 fMod (mApp fIntC (mCons (mCall 1 (fnK (datF n) (L + 2) e__law_next) (mCons (mVar 0) mNil)) mNil)) (mK (.int 6))) mNil)) (gSet 4) mYes (m2 fIx (mK (.str ABC)) (m2 fMod (mApp fIntC (mCons (mCall 1 (fnK (datF n) (L + 2) e__law_next) (mCons (mVar 0) mNil)) mNil)) (mK (.int 7)))) [4]) mNil) σ M1 = .ok (.str cs) M3 := by
      refine (bm_ok (x := .str []) (M1 := M1) rfl rfl (args1 f1)).trans ?_
      unfold fJoin
      dsimp only
      rw [f2]
      dsimp only
      unfold joinRes
      have tm : texts (cs.map fun c => MV.str [c]) = some (cs.map fun c => [c]) := by
        clear f1 f2 f3 f4 hcs
        induction cs with
        | nil => rfl
        | cons c cs ih =>
          show (texts (cs.map fun c => MV.str [c])).map ([c] :: ·) = _
          rw [ih]
          rfl
      rw [tm]
      dsimp only
      rw [join_one, if_pos]
      rw [List.map_map, List.length_map]
      have := sum_le (fun _ : Nat => 1) 1 cs fun _ _ => Nat.le_refl _
      show (cs.map fun _ => 1).sum + cs.length * 0 ≤ _
      omega
    have v3 : (σ.set 3 (.va (.str cs)))[3]? = some (.va (.str cs)) := List.getElem?_set_self (by omega)
    have te : mTest (m2 fEq (mVar 3) (mK (.str NON))) (σ.set 3 (.va (.str cs))) M3 = .ok (decide (cs = NON)) M3 := test_ok ((op_ok (var_ok v3) rfl).trans (fEq_str ..))
    refine ⟨if decide (cs = NON) = true then .str [122, 111, 110, 101] else .str cs, M3, run_rt ?_, ?_, f5, l1.trans f6⟩
    · rw [hτ]
      refine (s0 _).trans (seq_rt ((if_t t0).trans ((seq_nx (asg_ok2 jn)).trans (seq_rt (ret_ok ?_)))))
      rw [ife_b te]
      split
      · rfl
      · exact var_ok v3
    · by_cases z : cs = NON
      · rw [if_pos (decide_eq_true z)]
        have q : (∀ c ∈ ([122, 111, 110, 101] : List Nat), c ∈ SML) ∧ [122, 111, 110, 101] ≠ NON ∧ ([122, 111, 110, 101] : List Nat).length ≤ 21 := by decide
        cases m <;> exact q
      · rw [if_neg (by rw [decide_eq_false z]; decide)]
        have q : (∀ c ∈ cs, c ∈ SML) ∧ cs ≠ NON ∧ cs.length ≤ 21 := by
          refine ⟨fun c hc => ?_, z, by omega⟩
          have : ∀ c ∈ ABC, c ∈ SML := by decide
          exact this c (hcs c hc)
        cases m <;> exact q
  · rw [decide_eq_false c0] at t0
    have s1 : ∀ A R : MS, mSeq (mIfS (mTest (m2 fEq (mVar 2) (mK (.int 0)))) A mNext) R σ M1 = R σ M1 := fun A R => seq_nx ((if_f t0).trans next_nx)
    by_cases c1 : (x : Int) = 1
    · rw [decide_eq_true c1] at t1
      have mk : mApp mkLst (mCons (mK .non) (mCons (mK (.int (0))) (mCons (m1 fNeg (mK (.int (1)))) (mCons (m2 fPow (mK (.int (10))) (mK (.int (19)))) (mCons (m2 fPlus (m2 fMinus (mK (.int (0))) (m2 fPow (mK (.int (10))) (mK (.int (20))))) (mK (.int (1)))) mNil))))) σ M1 = .ok (.ref M1.n) (M1.push (.lst [.non, .int 0, .int (-1), .int (10 ^ 19), .int (0 - 10 ^ 20 + 1)])) := rfl
      obtain ⟨v, M2, e2, hv, d2, l2⟩ := pick_ok (n := n) (N := N) (p := p) (q := M1.n) (L := L + 2) d1.push (MH.get_push_same _) (Ne.symm (Nat.ne_of_lt d1.lt)) (List.cons_ne_nil _ _) (by omega) (by omega)
      refine ⟨v, M2, run_rt ?_, ?_, d2, (l1.trans (LeX.of (Le.push _ _))).trans l2⟩
      · rw [hτ]
        exact (s0 _).trans ((s1 _ _).trans (seq_rt ((if_t t1).trans (seq_rt (ret_ok ((call_ok (argsC (var_ok b0) (args1 mk)) rfl).trans e2))))))
      · simp only [List.mem_cons, List.mem_nil_iff, or_false] at hv
        rcases hv with rfl | rfl | rfl | rfl | rfl
        · cases m <;> trivial
        · have q : (0 : Int).natAbs < 10 ^ 20 := by decide
          cases m <;> exact q
        · have q : (-1 : Int).natAbs < 10 ^ 20 := by decide
          cases m <;> exact q
        · have q : (10 ^ 19 : Int).natAbs < 10 ^ 20 := by decide
          cases m <;> exact q
        · have q : (0 - 10 ^ 20 + 1 : Int).natAbs < 10 ^ 20 := by decide
          cases m <;> exact q
    · rw [decide_eq_false c1] at t1
      have s2 : ∀ A R : MS, mSeq (mIfS (mTest (m2 fEq (mVar 2) (mK (.int 1)))) A mNext) R σ M1 = R σ M1 := fun A R => seq_nx ((if_f t1).trans next_nx)
      by_cases c5 : (x : Int) < 5
      · rw [decide_eq_true c5] at t5
        obtain ⟨y, M2, e2, hy, d2, l2⟩ := next_call (n := n) (L := L + 2) (i := 0) (τ := σ) d1 (by omega) (by omega) b0
        obtain ⟨z, M3, e3, hz, d3, l3⟩ := nextmod_ok (n := n) (L := L + 2) (m := 7) d2 (by omega) (by omega) b0 (by decide)
        refine ⟨.int ((y : Int) - 100 * (z : Int)), M3, run_rt ?_, ?_, d3, (l1.trans l2).trans l3⟩
        · rw [hτ]
          refine (s0 _).trans ((s1 _ _).trans ((s2 _ _).trans (seq_rt ((if_t t5).trans (seq_rt (ret_ok ?_))))))
          exact (op_ok ((app_ok (args1 e2)).trans rfl) ((op_ok (v := .int 100) rfl e3).trans (times_ok' 100 z M3 (by decide) (by decide)))).trans rfl
        · have q : ((y : Int) - 100 * (z : Int)).natAbs < 10 ^ 20 := Nat.lt_of_lt_of_le (show _ < 2000 by omega) (by decide)
          cases m <;> exact q
      · rw [decide_eq_false c5] at t5
        have s3 : ∀ A R : MS, mSeq (mIfS (mTest (m2 fLt (mVar 2) (mK (.int 5)))) A mNext) R σ M1 = R σ M1 := fun A R => seq_nx ((if_f t5).trans next_nx)
        cases m with
        | zero => exact absurd (hx rfl) (by omega)
        | succ m =>
          have ih : DrawP n N p m := @ih m rfl
          obtain ⟨k, M2, e2, hk, d2, l2⟩ := nextmod_ok (n := n) (L := L + 2) (m := 4) d1 (by omega) (by omega) b0 (by decide)
          obtain ⟨r, M3, acc, f1, f2, f3, f4, f5, f6⟩ := lc_draw (n := n) (N := N) (p := p) (k := k) (te := mCall 2 (fnK (datF n) (L + 2) e__law_term) (mCons (mVar 0) (mCons (m2 fPlus (mVar 1) (mK (.int 1))) mNil))) (cs := [4]) (Tm m) e2 (by omega) hn d2 l2
            (by
              intro i Ma hi da
              obtain ⟨v, Mb, g1, g2, g3, g4⟩ := ih (d := d + 1) (L := L + 2) (M := Ma) (by omega) da (by omega)
              refine ⟨v, Mb, (call_ok (n := 2) (xs := [.ref p, .int ((d + 1 : Nat) : Int)]) (argsC (var_ok ?_) (args1 ((op_ok (var_ok (v := .int (d : Int)) ?_) (w := .int 1) rfl).trans rfl))) rfl).trans g1, g2, g3, g4⟩
              · rw [List.getElem?_set_ne (by decide)]; exact w0
              · show ((σ.set 4 .un).set 4 _)[1]? = _
                simp [List.getElem?_set, b1])
          refine ⟨.tup acc, M3, run_rt ?_, ⟨by omega, f3⟩, f5, l1.trans f6⟩
          rw [hτ]
          refine (s0 _).trans ((s1 _ _).trans ((s2 _ _).trans ((s3 _ _).trans (seq_rt (ret_ok ?_)))))
          refine (app_ok (args1 f1)).trans ?_
          unfold fTupC
          dsimp only
          rw [f2]
          exact if_pos (by omega)
theorem draw_ok {N p : Nat} (hN : N ≤ 100000) (hn : 100000 < n) (m : Nat) : DrawP n N p m := by
  induction m with
  | zero => exact draw_step (m := 0) hN hn fun m' e => absurd e (by omega)
  | succ m ih => exact draw_step (m := m + 1) hN hn fun m' e => by cases e; exact ih
end
end Mine
end
section
set_option Elab.async false
set_option linter.all false
set_option maxRecDepth 100000
set_option maxHeartbeats 4000000
/-! KF26: refused; nines. -/
namespace Mine
open PySem PySem.Spec MX L2 TL
section
variable {n : Nat}
/-- _law_refused of what term_text refuses -/
theorem refused_ok {v : MV} {M M' : MH} {L : Nat} (hL : 3 ≤ L) (h : fnK (datF n) (L - 1) e_term_text [v] M = .ex "BadNumber" [] M') : fnK (datF n) L e__law_refused [v] M = .ok (.bl true) M' := by
  obtain ⟨L, rfl⟩ : ∃ k, L = k + 3 := ⟨L - 3, by omega⟩
  rw [b__law_refused]
  unfold c__law_refused
  have h : fnK (datF n) (L + 2) e_term_text [v] M = .ex "BadNumber" [] M' := h
  have cl : mCall 1 (fnK (datF n) (L + 2) e_term_text) (mCons (mVar 0) mNil) (startM 1 [v]) M = .ex "BadNumber" [] M' := (call_ok (args1 (var_ok rfl)) rfl).trans h
  have b : mSeq (mDrop (mCall 1 (fnK (datF n) (L + 2) e_term_text) (mCons (mVar 0) mNil))) (mSeq (mRet (mK (.bl false))) mNext) (startM 1 [v]) M = .ex "BadNumber" [] (startM 1 [v]) M' := seq_ex (drop_ex cl)
  have t : mTryOnly CTD "BadNumber" (mSeq (mDrop (mCall 1 (fnK (datF n) (L + 2) e_term_text) (mCons (mVar 0) mNil))) (mSeq (mRet (mK (.bl false))) mNext)) (mSeq (mRet (mK (.bl true))) mNext) (startM 1 [v]) M = .rt (.bl true) M' := by
    unfold mTryOnly
    rw [b]
    dsimp only
    rw [show CTD "BadNumber" "BadNumber" = some true by rfl]
    rfl
  exact run_rt (seq_rt t)
theorem nines : ∀ k : Nat, 0 < k → numL (10 ^ k - 1) = List.replicate k 57
  | 0, h => absurd h (by decide)
  | 1, _ => by rw [show 10 ^ 1 - 1 = 9 from rfl, numL_lt (by decide)]; rfl
  | k + 2, _ => by
    have ih := nines (k + 1) (by omega)
    have hp : 10 ^ (k + 2) = 10 * 10 ^ (k + 1) := by rw [Nat.pow_succ, Nat.mul_comm]
    have h1 : 10 ≤ 10 ^ (k + 1) := by
      rw [Nat.pow_succ]
      have := Nat.pow_pos (n := k) (show 0 < 10 by decide)
      omega
    rw [numL_step (by omega)]
    have e1 : (10 ^ (k + 2) - 1) / 10 = 10 ^ (k + 1) - 1 := by omega
    have e2 : (10 ^ (k + 2) - 1) % 10 = 9 := by omega
    rw [e1, e2, ih, List.replicate_succ' (n := k + 1)]
theorem flat_rep (c : Nat) : ∀ k : Nat, (List.replicate k [c]).flatten = List.replicate k c
  | 0 => rfl
  | k + 1 => by rw [List.replicate_succ, List.flatten_cons, flat_rep c k]; rfl
end
end Mine
end
section
set_option Elab.async false
set_option linter.all false
set_option maxRecDepth 100000
set_option maxHeartbeats 4000000
/-! KF27: the refused terms. -/
namespace Mine
open PySem PySem.Spec MX L2 TL
section
variable {n : Nat}
/-- term_text raises -/
def Bad (n L : Nat) (v : MV) : Prop := ∀ M, ∃ M', fnK (datF n) L e_term_text [v] M = .ex "BadNumber" [] M' ∧ Le M M'
theorem tup_bad {x : MV} {us ws : List MV} {v : MV} {L : Nat} (hn : 100000 < n) (hL : 10 ≤ L) (hu : us.length ≤ 3) (h1 : ∀ u ∈ us, Tm 0 u) (h2 : Bad n (L - 1) v) : Bad n L (.tup (us ++ v :: ws)) := by
  intro M
  obtain ⟨k, rfl⟩ : ∃ k, L = k + 3 := ⟨L - 3, by omega⟩
  rw [b_term_text]
  unfold c_term_text
  generalize hvs : us ++ v :: ws = vs
  generalize hτ : startM 3 [.tup vs] = τ
  have a0 : τ[0]? = some (.va (.tup vs)) := by rw [← hτ]; rfl
  have t1 := ty_ok (M := M) (s := "int") (b := false) a0 rfl
  have t2 := ty_ok (M := M) (s := "str") (b := false) a0 rfl
  have tn := isn_ok (M := M) a0
  -- the loop
  have loop : ∀ (m i : Nat) (acc : List MV) (M2 : MH) (fuel : Nat), i + m = us.length → m < fuel → acc.length = i → Le M M2 → M2.get M.n = some (.lst acc) → ∃ M', lcGo (.fix vs) (gSet 2) mYes (mCall 1 (fnK (datF n) (k + 2) e_term_text) (mCons (mVar 2) mNil)) (wipeL τ [2]) M.n fuel i M2 = .ex "BadNumber" [] M' ∧ Le M M' := by
    intro m
    induction m with
    | zero =>
      intro i acc M2 fuel him hf hacc hl hr
      obtain ⟨fuel, rfl⟩ : ∃ f', fuel = f' + 1 := ⟨fuel - 1, by omega⟩
      obtain ⟨M3, c1, c2⟩ := h2 M2
      refine ⟨M3, lc_raise (v := v) (τ2 := (wipeL τ [2]).set 2 (.va v)) (M2 := M2) ?_ rfl ?_, hl.trans c2⟩
      · show some (vs[i]?) = _
        rw [← hvs, show i = us.length by omega, List.getElem?_append_right (Nat.le_refl _), Nat.sub_self]
        rfl
      · refine (call_ok (n := 1) (xs := [v]) (args1 (var_ok ?_)) rfl).trans c1
        rw [← hτ]
        rfl
    | succ m ih =>
      intro i acc M2 fuel him hf hacc hl hr
      obtain ⟨fuel, rfl⟩ : ∃ f', fuel = f' + 1 := ⟨fuel - 1, by omega⟩
      have hi : i < us.length := by omega
      obtain ⟨M3, c1, c2⟩ := term_text_ok (n := n) (by omega) (m := 0) (by omega) (h1 us[i] (List.getElem_mem hi)) (L := k + 2) (M := M2) (by omega)
      obtain ⟨M4, d1, d2⟩ := ih (i + 1) (acc ++ [.str (txt us[i])]) (M3.set M.n (.lst (acc ++ [.str (txt us[i])]))) fuel (by omega) (by omega) (by rw [List.length_append, hacc]; rfl) (LeX.le (hl.trans c2) (LeX.set M.n M3 _) (Nat.le_refl _)) (MH.get_set_same (MH.lt (c2.get hr)))
      refine ⟨M4, (lc_next (v := us[i]) (τ2 := (wipeL τ [2]).set 2 (.va us[i])) (M2 := M2) ?_ rfl ?_ (c2.get hr) (by omega)).trans d1, d2⟩
      · show some (vs[i]?) = _
        rw [← hvs, List.getElem?_append_left hi, List.getElem?_eq_getElem hi]
      · refine (call_ok (n := 1) (xs := [us[i]]) (args1 (var_ok ?_)) rfl).trans c1
        rw [← hτ]
        rfl
  obtain ⟨M', l1, l2⟩ := loop us.length 0 [] (M.push (.lst [])) n (by omega) (by omega) rfl (Le.push _ _) (MH.get_push_same _)
  have lc : mLc n (mWalk (mVar 0)) (gSet 2) mYes (mCall 1 (fnK (datF n) (k + 2) e_term_text) (mCons (mVar 2) mNil)) [2] τ M = .ex "BadNumber" [] M' := by
    unfold mLc mWalk
    rw [var_ok a0]
    exact l1
  refine ⟨M', run_ex (τ' := τ) ?_, l2⟩
  rw [hτ]
  refine (seq_nx ((if_f tn).trans next_nx)).trans ((seq_nx ((if_f t1).trans next_nx)).trans ((seq_nx ((if_f t2).trans next_nx)).trans (seq_ex (ret_ex ?_))))
  have jn : mBM isStrM fJoin (mK (.str [32])) (mCons (mLc n (mWalk (mVar 0)) (gSet 2) mYes (mCall 1 (fnK (datF n) (k + 2) e_term_text) (mCons (mVar 2) mNil)) [2]) mNil) τ M = .ex "BadNumber" [] M' := bm_ex (x := .str [32]) rfl rfl (args1_ex lc)
  unfold m2
  show ((mBM isStrM fJoin (mK (.str [32])) (mCons (mLc n (mWalk (mVar 0)) (gSet 2) mYes (mCall 1 (fnK (datF n) (k + 2) e_term_text) (mCons (mVar 2) mNil)) [2]) mNil) τ M).bind _).bind _ = _
  rw [jn]
  rfl
theorem str_bad {w : List Nat} {L : Nat} (hL : 6 ≤ L) (hn : 100000 < n) (hl : w.length ≤ 1000) (h : strOk w = false) : Bad n L (.str w) := by
  intro M
  obtain ⟨M', e, l⟩ := term_str (n := n) (w := w) (M := M) (L := L) hL (by omega) hl
  rw [h, if_neg (by decide)] at e
  exact ⟨M', e, l⟩
end
end Mine
end
section
set_option Elab.async false
set_option linter.all false
set_option maxRecDepth 100000
set_option maxHeartbeats 4000000
/-! KF28: the end of the law: the refused ones. -/
namespace Mine
open PySem PySem.Spec MX L2 TL
section
variable {n : Nat}
abbrev FIVE : List MV := [.str NON, .str [65], .str [97, 32, 98], .tup [.str [111, 107], .str [120, 49]], .tup [.tup [.str NON]]]
theorem five_bad {L : Nat} (hL : 20 ≤ L) (hn : 100000 < n) : ∀ v ∈ FIVE, Bad n L v := by
  intro v hv
  simp only [List.mem_cons, List.mem_nil_iff, or_false] at hv
  rcases hv with rfl | rfl | rfl | rfl | rfl
  · exact str_bad (by omega) hn (by decide) (by decide)
  · exact str_bad (by omega) hn (by decide) (by decide)
  · exact str_bad (by omega) hn (by decide) (by decide)
  · exact tup_bad (x := .non) (us := [.str [111, 107]]) (ws := []) hn (by omega) (by decide) (by
      intro u hu
      rw [List.mem_singleton.mp hu]
      show (∀ c ∈ ([111, 107] : List Nat), c ∈ SML) ∧ [111, 107] ≠ NON ∧ ([111, 107] : List Nat).length ≤ 21
      decide) (str_bad (by omega) hn (by decide) (by decide))
  · exact tup_bad (x := .non) (us := []) (ws := []) hn (by omega) (by decide) (by intro u hu; cases hu) (tup_bad (x := .non) (us := []) (ws := []) hn (by omega) (by decide) (by intro u hu; cases hu) (str_bad (by omega) hn (by decide) (by decide)))
theorem snap_bools {M : MH} {q : Nat} {bs : List Bool} (h : M.get q = some (.lst (bs.map .bl))) : snap 200 M (.ref q) = some (.list (bs.map .bool)) := by
  show (match M.get q with
    | some (.lst xs) => (allO (snap 199 M) xs).map PyData.list
    | _ => none) = _
  rw [h]
  dsimp only
  have : ∀ bs : List Bool, allO (snap 199 M) (bs.map .bl) = some (bs.map .bool) := by
    intro bs
    induction bs with
    | nil => rfl
    | cons b bs ih =>
      show (allO (snap 199 M) (bs.map .bl)).map (PyData.bool b :: ·) = _
      rw [ih]
      rfl
  rw [this]
  rfl
theorem last_ok {k : Nat} {τ : MX.Loc} {M : MH} (hk : 30 ≤ k) (hn : 100000 < n) (hl : 4 < τ.length) : ∃ M', m2 fEq (mLc n (mWalk (mApp mkLst (mCons (mK (.str NON)) (mCons (mK (.str [65])) (mCons (mK (.str [97, 32, 98])) (mCons (mApp mkTup (mCons (mK (.str [111, 107])) (mCons (mK (.str [120, 49])) mNil))) (mCons (mApp mkTup (mCons (mApp mkTup (mCons (mK (.str NON)) mNil)) mNil)) mNil))))))) (gSet 4) mYes (mCall 1 (fnK (datF n) (k + 2) e__law_refused) (mCons (mVar 4) mNil)) [4]) (m2 fTimes (mApp mkLst (mCons (mK (.bl true)) mNil)) (mK (.int (5)))) τ M = .ok (.bl true) M' := by
  have mk : mApp mkLst (mCons (mK (.str NON)) (mCons (mK (.str [65])) (mCons (mK (.str [97, 32, 98])) (mCons (mApp mkTup (mCons (mK (.str [111, 107])) (mCons (mK (.str [120, 49])) mNil))) (mCons (mApp mkTup (mCons (mApp mkTup (mCons (mK (.str NON)) mNil)) mNil)) mNil))))) τ M = .ok (.ref M.n) (M.push (.lst FIVE)) := rfl
  obtain ⟨M', q, f1, f2, f3⟩ := lc_map (n := n) (g := gSet 4) (te := mCall 1 (fnK (datF n) (k + 2) e__law_refused) (mCons (mVar 4) mNil)) (cs := [4]) (τ := τ) (M := M) (M1 := M.push (.lst FIVE)) (w := .lst M.n) (vs := FIVE) (fun _ => .bl true)
    (it := mWalk (mApp mkLst (mCons (mK (.str NON)) (mCons (mK (.str [65])) (mCons (mK (.str [97, 32, 98])) (mCons (mApp mkTup (mCons (mK (.str [111, 107])) (mCons (mK (.str [120, 49])) mNil))) (mCons (mApp mkTup (mCons (mApp mkTup (mCons (mK (.str NON)) mNil)) mNil)) mNil)))))))
    (by
      unfold mWalk
      rw [mk]
      show (match wkOf (M.push (.lst FIVE)) (.ref M.n) with
        | some w => Res.ok w (M.push (.lst FIVE))
        | none => .stuck) = _
      unfold wkOf
      dsimp only
      rw [MH.get_push_same])
    (fun i M2 l => by unfold nextM; dsimp only; rw [l.get (MH.get_push_same _)])
    (by
      intro v hv M2 _
      obtain ⟨M3, c1, c2⟩ := five_bad (n := n) (L := k + 2 - 1) (by omega) hn v hv M2
      refine ⟨(wipeL τ [4]).set 4 (.va v), M3, rfl, ?_, c2⟩
      refine (call_ok (n := 1) (xs := [v]) (args1 (var_ok ?_)) rfl).trans (refused_ok (by omega) c1)
      refine List.getElem?_set_self ?_
      show 4 < (τ.set 4 .un).length
      rw [List.length_set]
      exact hl) (by show 5 < n; omega) (by decide)
  have r : m2 fTimes (mApp mkLst (mCons (mK (.bl true)) mNil)) (mK (.int (5))) τ M' = .ok (.ref (M'.n + 1)) ((M'.push (.lst [.bl true])).push (.lst [.bl true, .bl true, .bl true, .bl true, .bl true])) := by
    have e : mApp mkLst (mCons (mK (.bl true)) mNil) τ M' = .ok (.ref M'.n) (M'.push (.lst [.bl true])) := rfl
    rw [op_ok e (w := .int 5) rfl]
    unfold fTimes
    dsimp only
    rw [if_pos (by decide), MH.get_push_same]
    rfl
  refine ⟨((M'.push (.lst [.bl true])).push (.lst [.bl true, .bl true, .bl true, .bl true, .bl true])), (op_ok f1 r).trans ?_⟩
  have g1 : ((M'.push (.lst [.bl true])).push (.lst [.bl true, .bl true, .bl true, .bl true, .bl true])).get q = some (.lst ([true, true, true, true, true].map .bl)) := ((Le.push M' _).trans (Le.push _ _)).get f2
  have g2 : ((M'.push (.lst [.bl true])).push (.lst [.bl true, .bl true, .bl true, .bl true, .bl true])).get (M'.n + 1) = some (.lst ([true, true, true, true, true].map .bl)) := MH.get_push_same _
  unfold fEq fEqV
  dsimp only
  unfold fEqB
  rw [snap_bools g1, snap_bools g2]
  rfl
end
end Mine
end
section
set_option Elab.async false
set_option linter.all false
set_option maxRecDepth 100000
set_option maxHeartbeats 4000000
/-! KF29: the great number. -/
namespace Mine
open PySem PySem.Spec MX L2 TL
section
variable {n : Nat}
theorem show_nines : showInt ((10 ^ 4000 - 1 : Nat) : Int) = List.replicate 4000 57 := by rw [show_nat, nines 4000 (by decide)]
theorem ten_pos : 0 < 10 ^ 4000 := Nat.pow_pos (by decide)
theorem ten_lt : 10 ^ 4000 < 10 ^ 4300 := Nat.pow_lt_pow_right (by decide) (by decide)
theorem ten_big : 1 < 10 ^ 4000 := Nat.one_lt_pow (by decide) (by decide)
theorem two_less {m : Nat} (h : 1 < m) : m - 1 = (m - 2) + 1 := by omega
theorem term_great {M : MH} {L : Nat} (hL : 6 ≤ L) (hn : 4000 < n) : fnK (datF n) L e_term_text [.int (((10 ^ 4000 : Nat) : Int) - 1)] M = .ok (.str (List.replicate 4000 57)) M := by
  have e : (((10 ^ 4000 : Nat) : Int) - 1) = ((10 ^ 4000 - 1 : Nat) : Int) := (Int.ofNat_sub (Nat.le_of_lt ten_big)).symm
  have a : (((10 ^ 4000 - 1 : Nat) : Int)).natAbs < 10 ^ 4000 := by
    rw [Int.natAbs_natCast]
    exact Nat.sub_lt ten_pos (by decide)
  rw [e, term_int hL hn (Nat.lt_trans a ten_lt), if_pos a, show_nines]
theorem term_small {M : MH} {L : Nat} (hL : 6 ≤ L) (hn : 4000 < n) : fnK (datF n) L e_term_text [.int (1 - ((10 ^ 4000 : Nat) : Int))] M = .ok (.str (45 :: List.replicate 4000 57)) M := by
  have e : (1 - ((10 ^ 4000 : Nat) : Int)) = -((10 ^ 4000 - 1 : Nat) : Int) := by
    rw [show ((10 ^ 4000 - 1 : Nat) : Int) = ((10 ^ 4000 : Nat) : Int) - 1 from Int.ofNat_sub (Nat.le_of_lt ten_big), Int.neg_sub]
  have a : (-((10 ^ 4000 - 1 : Nat) : Int)).natAbs < 10 ^ 4000 := by
    rw [Int.natAbs_neg, Int.natAbs_natCast]
    exact Nat.sub_lt ten_pos (by decide)
  have s : showInt (-((10 ^ 4000 - 1 : Nat) : Int)) = 45 :: List.replicate 4000 57 := by
    have e2 : 10 ^ 4000 - 1 = (10 ^ 4000 - 2) + 1 := two_less ten_big
    have e3 := show_neg (10 ^ 4000 - 2)
    rw [← e2] at e3
    rw [e3, nines 4000 (by decide)]
  rw [e, term_int hL hn (Nat.lt_trans a ten_lt), if_pos a, s]
theorem term_over {M : MH} {L : Nat} (hL : 6 ≤ L) (hn : 4000 < n) : fnK (datF n) L e_term_text [.int ((10 ^ 4000 : Nat) : Int)] M = .ex "BadNumber" [] M := by
  have a : ¬ (((10 ^ 4000 : Nat) : Int)).natAbs < 10 ^ 4000 := by
    rw [Int.natAbs_natCast]
    exact Nat.lt_irrefl _
  rw [term_int hL hn (by rw [Int.natAbs_natCast]; exact ten_lt), if_neg a]
end
end Mine
end
section
set_option Elab.async false
set_option linter.all false
set_option maxRecDepth 100000
set_option maxHeartbeats 4000000
/-! KF30: the signs of what is shown. -/
namespace Mine
open PySem PySem.Spec MX L2 TL
open PySem.StrLaws (foldl_repr_len)
def LtS (x : Str) : Prop := ∀ c ∈ x.cps.toList, c < 1114112
theorem LtS.of (s : String) : LtS (Str.ofString s) := by
  intro c hc
  rw [PyProof.Rows.signs_ofString] at hc
  obtain ⟨ch, _, rfl⟩ := List.mem_map.mp hc
  have := ch.valid
  rcases this with h | ⟨_, h⟩
  · exact Nat.lt_trans h (by decide)
  · exact h
theorem LtS.app {x y : Str} (h : LtS x) (h2 : LtS y) : LtS (x ++ y) := by
  intro c hc
  rw [PyProof.Rows.cps_toList_append] at hc
  rcases List.mem_append.mp hc with hc | hc
  · exact h c hc
  · exact h2 c hc
theorem reprChar_lt {q c : Nat} (hc : c < 1114112) : ∀ d ∈ Builtin.Str.reprChar q c, d < 1114112 := by
  have hx : ∀ (w : Nat), ∀ d ∈ List.replicate (w - ((Nat.toDigits 16 c).map Char.toNat).length) 48 ++ (Nat.toDigits 16 c).map Char.toNat, d < 1114112 := by
    intro w d hd
    rcases List.mem_append.mp hd with hd | hd
    · rw [(List.mem_replicate.mp hd).2]; decide
    · obtain ⟨ch, _, rfl⟩ := List.mem_map.mp hd
      rcases ch.valid with h | ⟨_, h⟩
      · exact Nat.lt_trans h (by decide)
      · exact h
  intro d hd
  unfold Builtin.Str.reprChar at hd
  dsimp only at hd
  repeat' split at hd
  all_goals first
    | (simp only [List.mem_cons, List.mem_nil_iff, or_false] at hd; omega)
    | (rcases List.mem_append.mp hd with hd | hd
       · simp only [List.mem_cons, List.mem_nil_iff, or_false] at hd; omega
       · exact hx _ d hd)
end Mine
end
section
set_option Elab.async false
set_option linter.all false
set_option maxRecDepth 100000
set_option maxHeartbeats 4000000
/-! KF31: the signs of what is shown: below 0x110000. -/
namespace Mine
open PySem PySem.Spec MX L2 TL PyProof
theorem fold_lt (q : Nat) : ∀ (l : List Nat) (acc : Array Nat), (∀ c ∈ l, c < 1114112) → (∀ c ∈ acc.toList, c < 1114112) → ∀ c ∈ (l.foldl (fun out c => out ++ (Builtin.Str.reprChar q c).toArray) acc).toList, c < 1114112
  | [], acc, _, h => h
  | d :: r, acc, hl, h => by
    refine fold_lt q r _ (fun c hc => hl c (List.mem_cons_of_mem _ hc)) ?_
    intro c hc
    simp only [Array.toList_append] at hc
    rcases List.mem_append.mp hc with hc | hc
    · exact h c hc
    · exact reprChar_lt (hl d (List.mem_cons_self ..)) c hc
theorem quote_lt (x : Str) : reprQuote x < 1114112 := by
  unfold reprQuote
  split <;> decide
theorem repr_lt {x : Str} (h : LtS x) : LtS (reprText x) := by
  intro c hc
  unfold reprText at hc
  dsimp only at hc
  rw [Array.toList_push, ← Array.foldl_toList] at hc
  rcases List.mem_append.mp hc with hc | hc
  · refine fold_lt _ _ _ h ?_ c hc
    intro d hd
    rw [List.mem_singleton.mp hd]
    exact quote_lt x
  · rw [List.mem_singleton.mp hc]
    exact quote_lt x
theorem textFrom_lt : ∀ (ts : List Str) (k : Nat) (acc : Str), (∀ t ∈ ts, LtS t) → LtS acc → LtS (textFrom k acc ts)
  | [], _, _, _, h => h
  | t :: r, k, acc, ht, h => by
    refine textFrom_lt r (k + 1) _ (fun u hu => ht u (List.mem_cons_of_mem _ hu)) (LtS.app (LtS.app h ?_) (ht t (List.mem_cons_self ..)))
    split <;> exact LtS.of _
theorem join_lt {s : Str} (hs : LtS s) : ∀ ts : List Str, (∀ t ∈ ts, LtS t) → LtS (Str.join s ts)
  | [], _ => fun c hc => by cases hc
  | [x], h => h x (List.mem_singleton.mpr rfl)
  | x :: y :: r, h => LtS.app (LtS.app (h x (List.mem_cons_self ..)) hs) (join_lt hs (y :: r) fun t ht => h t (List.mem_cons_of_mem _ ht))
mutual
theorem shown_lt : ∀ d : PyData, d.canLay0 = true → LtS d.shown
  | .none, _ => LtS.of _
  | .bool b, _ => by cases b <;> exact LtS.of _
  | .int i, _ => LtS.of _
  | .str x, h => by
    have h' : (x.cps.all (· < 0x110000)) = true := by simpa only [PyData.canLay0, PyData.strOk] using h
    simp only [PyData.shown]
    refine repr_lt fun c hc => ?_
    rw [← Array.all_toList, List.all_eq_true] at h'
    simpa using h' c hc
  | .list xs, h => by
    simp only [PyData.shown]
    unfold listText
    exact LtS.app (textFrom_lt _ _ _ (shownAll_lt xs (by simpa only [PyData.canLay0] using h)) (LtS.of _)) (LtS.of _)
  | .tuple xs, h => by
    simp only [PyData.shown]
    unfold tupleText
    refine LtS.app (LtS.app (LtS.of _) (join_lt (LtS.of _) _ (shownAll_lt xs (by simpa only [PyData.canLay0] using h)))) ?_
    split <;> exact LtS.of _
  | .dict kvs, h => by simp [PyData.canLay0] at h
theorem shownAll_lt : ∀ xs : List PyData, PyData.canLayAll0 xs = true → ∀ t ∈ PyData.shownAll xs, LtS t
  | [], _ => fun t ht => by simp [PyData.shownAll] at ht
  | x :: xs, h => by
    have h' : x.canLay0 = true ∧ PyData.canLayAll0 xs = true := by simpa only [PyData.canLayAll0, Bool.and_eq_true] using h
    intro t ht
    simp only [PyData.shownAll] at ht
    rcases List.mem_cons.mp ht with rfl | ht
    · exact shown_lt x h'.1
    · exact shownAll_lt xs h'.2 t ht
end
end Mine
end
section
set_option Elab.async false
set_option linter.all false
set_option maxRecDepth 100000
set_option maxHeartbeats 4000000
/-! KF32: lists of texts told and due. -/
namespace Mine
open PySem PySem.Spec MX L2 TL
section
variable {n : Nat}
/-- the words of an answer's list, and their signs -/
theorem repr_two' {w0 : List Nat} {v : MV} {m w : Nat} (hw0 : ∀ c ∈ w0, c < 1114112) (hl : w0.length ≤ 8) (h : Dat m w v) (hm : m ≤ 60) (hw : w ≤ 700000) : ∃ x, (∀ c ∈ x, c < 1114112) ∧ ∀ (M : MH) (q : Nat), M.get q = some (.lst [.str w0, v]) → fRepr [.ref q] M = .ok (.str x) M := by
  obtain ⟨ds, e, b1, b2, b3, b4, b5⟩ := Dats.cons (Dat.str (m := m) (w := 8) hw0 hl) (Dats.cons h (Dats.nil m 0))
  refine ⟨(PyData.list ds).shown.cps.toList, shown_lt (.list ds) (by simpa only [PyData.canLay0] using b1), fun M q hq => ?_⟩
  have sn : snap 200 M (.ref q) = some (.list ds) := by
    show (match M.get q with
      | some (.lst xs) => (allO (snap 199 M) xs).map PyData.list
      | _ => none) = _
    rw [hq]
    dsimp only
    rw [e 199 M (by omega)]
    rfl
  unfold fRepr
  dsimp only
  rw [sn]
  dsimp only
  have s1 : (PyData.list ds).showable = true := b4
  have s2 : (PyData.list ds).hasDict = false := PyData.hasDict_of_canLay _ b1
  have s3 : (PyData.list ds).depth ≤ 100 := by
    show PyData.depthAll ds + 1 ≤ 100
    omega
  have s4 : (PyData.list ds).shown.length ≤ 16777216 := by
    have z := PyData.shown_le 21 (by decide) (.list ds) b3
    have wz : (PyData.list ds).weight = PyData.weightAll ds := rfl
    rw [wz] at z
    omega
  rw [s1, s2, decide_eq_true s3, decide_eq_true s4]
  rfl
theorem repr_ans' {f : Nat} {T : List Nat} {r : Rv} (hr : rdTerm f T 0 0 = some r) (hT : T.length ≤ 10000) : ∃ x, (∀ c ∈ x, c < 1114112) ∧ ∀ (M : MH) (q : Nat), M.get q = some (.lst (ansV (whole T r))) → fRepr [.ref q] M = .ok (.str x) M := by
  have err : ∀ b : Nat, b ≤ 10000 → ∃ x, (∀ c ∈ x, c < 1114112) ∧ ∀ (M : MH) (q : Nat), M.get q = some (.lst (ansV (.error b))) → fRepr [.ref q] M = .ok (.str x) M := fun b hb =>
    repr_two' (m := 0) (w := 67) (w0 := BAD) (v := .int b) (by decide) (by decide) (Dat.int (Nat.lt_of_le_of_lt (show (b : Int).natAbs ≤ 10000 from hb) (by decide)) (Nat.le_refl _)) (by decide) (by decide)
  cases r with
  | error b => exact err b (Nat.le_trans (rdTerm_err f (Nat.zero_le _) hr) hT)
  | ok vb =>
    obtain ⟨v, b⟩ := vb
    have l := rdTerm_lt f hr
    show ∃ x, (∀ c ∈ x, c < 1114112) ∧ ∀ (M : MH) (q : Nat), M.get q = some (.lst (ansV (if b < T.length then .error b else .ok v))) → _
    by_cases hb : b < T.length
    · rw [if_pos hb]
      exact err b (by omega)
    · rw [if_neg hb]
      have z := rdTerm_dat f (by decide) hr
      exact repr_two' (m := 60) (w := 68 * (b - 0) - 1) (w0 := [116, 101, 114, 109]) (by decide) (by decide) z (by decide) (by omega)
/-- both ways say x of T -/
def Both (n L : Nat) (T x : List Nat) : Prop := (∀ c ∈ x, c < 1114112) ∧
  (∀ (e : ME) τ M, e τ M = fnK (datF n) L e__law_told [.str T] M → ∃ M', mApp fRepr (mCons e mNil) τ M = .ok (.str x) M' ∧ Le M M') ∧
  (∀ (e : ME) τ M, e τ M = fnK (datF n) L e__law_due [.str T] M → ∃ M', mApp fRepr (mCons e mNil) τ M = .ok (.str x) M' ∧ Le M M')
theorem both_says {L : Nat} {T : List Nat} (hb : inText BAD T = false) (hT : T.length ≤ 10000) (hn : 10002 < n) (hL : 145 ≤ L) : ∃ x, Both n L T x := by
  obtain ⟨r, hr⟩ := rdTerm_some (T := T) (a := 0) (d := 0) (2 * T.length + 1) (by omega)
  obtain ⟨x, h1, h2⟩ := repr_ans' hr hT
  refine ⟨x, h1, fun e τ M h => ?_, fun e τ M h => ?_⟩
  · obtain ⟨M1, q1, e1, g1, l1⟩ := told_ok (M := M) (n := n) (L := L) hr hL (by omega) (by omega : T.length < n)
    exact ⟨M1, (app_ok (args1 (h.trans e1))).trans (h2 M1 q1 g1), l1⟩
  · obtain ⟨M2, q2, e2, g2, l2⟩ := due_ok (M := M) (n := n) (L := L) hr (by omega) (nobad_of hb) (by omega) (by omega)
    exact ⟨M2, (app_ok (args1 (h.trans e2))).trans (h2 M2 q2 g2), l2⟩
theorem snap_strs {M : MH} {q : Nat} {xs : List (List Nat)} (h : M.get q = some (.lst (xs.map .str))) : snap 200 M (.ref q) = some (.list (xs.map fun x => .str ⟨x.toArray⟩)) := by
  show (match M.get q with
    | some (.lst xs) => (allO (snap 199 M) xs).map PyData.list
    | _ => none) = _
  rw [h]
  dsimp only
  have : ∀ xs : List (List Nat), allO (snap 199 M) (xs.map .str) = some (xs.map fun x => .str ⟨x.toArray⟩) := by
    intro xs
    induction xs with
    | nil => rfl
    | cons b bs ih =>
      show (allO (snap 199 M) (bs.map .str)).map (PyData.str ⟨b.toArray⟩ :: ·) = _
      rw [ih]
      rfl
  rw [this]
  rfl
theorem strs_lay : ∀ xs : List (List Nat), (∀ x ∈ xs, ∀ c ∈ x, c < 1114112) → PyData.canLayAll0 (xs.map fun x => PyData.str ⟨x.toArray⟩) = true ∧ PyData.depthAll (xs.map fun x => PyData.str ⟨x.toArray⟩) = 0
  | [], _ => ⟨rfl, rfl⟩
  | x :: xs, h => by
    obtain ⟨h1, h2⟩ := strs_lay xs fun y hy => h y (List.mem_cons_of_mem _ hy)
    constructor
    · show (PyData.strOk ⟨x.toArray⟩ && PyData.canLayAll0 (xs.map fun x => PyData.str ⟨x.toArray⟩)) = true
      rw [h1, Bool.and_true]
      unfold PyData.strOk
      rw [Array.all_eq_true]
      intro i hi
      have hi' : i < x.length := by simpa using hi
      have : x[i] < 1114112 := h x (List.mem_cons_self ..) _ (List.getElem_mem hi')
      simpa using this
    · show max 0 (PyData.depthAll (xs.map fun x => PyData.str ⟨x.toArray⟩)) = 0
      rw [h2]
      rfl
/-- two lists of the same texts -/
theorem ne_strs {M : MH} {p q : Nat} {xs : List (List Nat)} (h1 : M.get p = some (.lst (xs.map .str))) (h2 : M.get q = some (.lst (xs.map .str))) (h : ∀ x ∈ xs, ∀ c ∈ x, c < 1114112) : fNe (.ref p) (.ref q) M = .ok (.bl false) M := by
  unfold fNe fEqV
  dsimp only
  unfold fEqB
  rw [snap_strs h1, snap_strs h2]
  dsimp only
  obtain ⟨a1, a2⟩ := strs_lay xs h
  have hl : PyData.canLay0 (.list (xs.map fun x => PyData.str ⟨x.toArray⟩)) = true := by simpa only [PyData.canLay0] using a1
  have sh : SeqAt.shaped (.list (xs.map fun x => PyData.str ⟨x.toArray⟩)) = true := by
    unfold SeqAt.shaped
    rw [hl, Bool.true_and]
    refine decide_eq_true ?_
    show PyData.depthAll (xs.map fun x => PyData.str ⟨x.toArray⟩) + 1 ≤ 64
    omega
  rw [sh, if_pos (show (true && true) = true from rfl), SeqAt.eqv_refl _ hl]
  rfl
theorem some_map {P : List Nat → List Nat → Prop} {Ts : List (List Nat)} (h : ∀ T ∈ Ts, ∃ x, P T x) : ∃ g : List Nat → List Nat, ∀ T ∈ Ts, P T (g T) := by
  classical
  exact ⟨fun T => if hT : T ∈ Ts then (h T hT).choose else [], fun T hT => by
    show P T (if hT : T ∈ Ts then (h T hT).choose else [])
    rw [dif_pos hT]
    exact (h T hT).choose_spec⟩
theorem told_list {k p : Nat} {g : List Nat → List Nat} {Ts : List (List Nat)} {τ : MX.Loc} {M : MH} {e : List MV → MH → Res MV} (w : ∀ T ∈ Ts, ∀ (a : ME) τ M, a τ M = e [.str T] M → ∃ M', mApp fRepr (mCons a mNil) τ M = .ok (.str (g T)) M' ∧ Le M M')
    (hp : M.get p = some (.lst (Ts.map .str))) (h12 : τ[12]? = some (.va (.ref p))) (h5 : 12 < τ.length) (hn : Ts.length < n) (hl : Ts.length ≤ 1000) :
    ∃ M' q, mLc n (mWalk (mVar 12)) (gSet 5) mYes (mApp fRepr (mCons (mCall 1 e (mCons (mVar 5) mNil)) mNil)) [5] τ M = .ok (.ref q) M' ∧ M'.get q = some (.lst ((Ts.map g).map .str)) ∧ Le M M' := by
  obtain ⟨M', q, f1, f2, f3⟩ := lc_map (n := n) (it := mWalk (mVar 12)) (g := gSet 5) (te := mApp fRepr (mCons (mCall 1 e (mCons (mVar 5) mNil)) mNil)) (cs := [5]) (τ := τ) (M := M) (M1 := M) (w := .lst p) (vs := Ts.map .str) (fun v => match v with
      | .str T => .str (g T)
      | _ => .non)
    (by
      unfold mWalk
      rw [var_ok h12]
      show (match wkOf M (.ref p) with
        | some w => Res.ok w M
        | none => .stuck) = _
      unfold wkOf
      dsimp only
      rw [hp])
    (fun i M2 l => by unfold nextM; dsimp only; rw [l.get hp])
    (by
      intro v hv M2 _
      obtain ⟨T, hT, rfl⟩ := List.mem_map.mp hv
      obtain ⟨M3, c1, c2⟩ := w T hT (mCall 1 e (mCons (mVar 5) mNil)) ((wipeL τ [5]).set 5 (.va (.str T))) M2 (by
        refine call_ok (n := 1) (xs := [.str T]) (args1 (var_ok ?_)) rfl
        refine List.getElem?_set_self ?_
        show 5 < (τ.set 5 .un).length
        rw [List.length_set]
        omega)
      exact ⟨(wipeL τ [5]).set 5 (.va (.str T)), M3, rfl, c1, c2⟩)
    (by rw [List.length_map]; exact hn) (by rw [List.length_map]; omega)
  refine ⟨M', q, f1, ?_, f3⟩
  rw [f2, List.map_map, List.map_map]
  rfl
/-- the two comprehensions say the same -/
theorem lists_ok {k p : Nat} {Ts : List (List Nat)} {τ : MX.Loc} {M : MH} (hT : ∀ T ∈ Ts, inText BAD T = false ∧ T.length ≤ 10000) (hk : 145 ≤ k) (hn : 10002 < n)
    (hp : M.get p = some (.lst (Ts.map .str))) (h12 : τ[12]? = some (.va (.ref p))) (hl : Ts.length ≤ 1000) :
    ∃ M', m2 fNe (mLc n (mWalk (mVar 12)) (gSet 5) mYes (mApp fRepr (mCons (mCall 1 (fnK (datF n) k e__law_told) (mCons (mVar 5) mNil)) mNil)) [5]) (mLc n (mWalk (mVar 12)) (gSet 5) mYes (mApp fRepr (mCons (mCall 1 (fnK (datF n) k e__law_due) (mCons (mVar 5) mNil)) mNil)) [5]) τ M = .ok (.bl false) M' ∧ Le M M' := by
  have hlen : 12 < τ.length := (List.getElem?_eq_some_iff.mp h12).1
  obtain ⟨g, hg⟩ := some_map (P := Both n k) fun T h => both_says (n := n) (L := k) (hT T h).1 (hT T h).2 hn hk
  obtain ⟨M1, q1, e1, g1, l1⟩ := told_list (n := n) (k := k) (g := g) (e := fnK (datF n) k e__law_told) (fun T h => (hg T h).2.1) hp h12 hlen (by omega) hl
  obtain ⟨M2, q2, e2, g2, l2⟩ := told_list (n := n) (k := k) (g := g) (e := fnK (datF n) k e__law_due) (fun T h => (hg T h).2.2) (l1.get hp) h12 hlen (by omega) hl
  refine ⟨M2, (op_ok e1 e2).trans (ne_strs (l2.get g1) g2 ?_), l1.trans l2⟩
  intro x hx c hc
  obtain ⟨T, hT', rfl⟩ := List.mem_map.mp hx
  exact (hg T hT').1 c hc
end
end Mine
end
section
set_option Elab.async false
set_option linter.all false
set_option maxRecDepth 100000
set_option maxHeartbeats 4000000
/-! KF33: texts spoilt at one place. -/
namespace Mine
open PySem PySem.Spec MX L2 TL
section
variable {n : Nat}
abbrev SPB (n k : Nat) : MS := (mSeq (mAsg (m2 fMod (mApp fIntC (mCons (mCall 1 (fnK (datF n) (k + 2) e__law_next) (mCons (mVar 1) mNil)) mNil)) (m2 fPlus (mApp fLen (mCons (mVar 5) mNil)) (mK (.int (1))))) (gSet 7)) (mSeq (mAsg (m2 fMod (mApp fIntC (mCons (mCall 1 (fnK (datF n) (k + 2) e__law_next) (mCons (mVar 1) mNil)) mNil)) (mK (.int (2)))) (gSet 8)) (mSeq (mAsg (mCall 2 (fnK (datF n) (k + 2) e__law_pick) (mCons (mVar 1) (mCons (mApp mkLst (mCons (mK (.str [])) (mCons (mK (.str [32])) (mCons (mK (.str [40])) (mCons (mK (.str [41])) (mCons (mK (.str [45])) (mCons (mK (.str [48])) (mCons (mK (.str [55])) (mCons (mK (.str [97])) (mCons (mK (.str [46])) (mCons (mK (.str [65])) (mCons (mK (.str [95])) (mCons (mK (.str [9])) mNil))))))))))))) mNil))) (gSet 9)) (mSeq (mAsg (m2 fPlus (m2 fPlus (mSl (mVar 5) mNoPart (mPart (mVar 7))) (mVar 9)) (mSl (mVar 5) (mPart (m2 fPlus (mVar 7) (mVar 8))) mNoPart)) (gSet 10)) (mSeq (mIfS (mAnd (mTest (m2 fNotIn (mK (.str [98, 97, 100])) (mVar 10))) (mTest (m2 fNe (mApp fRepr (mCons (mCall 1 (fnK (datF n) (k + 2) e__law_told) (mCons (mVar 10) mNil)) mNil)) (mApp fRepr (mCons (mCall 1 (fnK (datF n) (k + 2) e__law_due) (mCons (mVar 10) mNil)) mNil))))) (mSeq (mRet (mK (.bl false))) mNext) mNext) mNext)))))
abbrev PICKS : List (List Nat) := [[], [32], [40], [41], [45], [48], [55], [97], [46], [65], [95], [9]]
structure SI (p : Nat) (X : List Nat) (τ : MX.Loc) (M : MH) : Prop where
  len : τ.length = 14
  d1 : τ[1]? = some (.va (.ref p))
  t5 : τ[5]? = some (.va (.str X))
  dr : Dr 4120 p M
theorem Dr.le {N p : Nat} {M M' : MH} (h : Dr N p M) (l : Le M M') : Dr N p M' := by
  obtain ⟨xs, h1, h2⟩ := h
  exact ⟨xs, l.get h1, h2⟩
theorem ne_self (M : MH) (x : List Nat) : fNe (.str x) (.str x) M = .ok (.bl false) M := by
  rw [fNe_str, decide_eq_true rfl]
  rfl
theorem plus_str {x y : List Nat} (M : MH) (h : x.length + y.length ≤ 16777216) : fPlus (.str x) (.str y) M = .ok (.str (x ++ y)) M := if_pos h
theorem plus_nat (a b : Nat) (M : MH) : fPlus (.int (a : Int)) (.int (b : Int)) M = .ok (.int ((a + b : Nat) : Int)) M := by
  show Res.ok (MV.int ((a : Int) + (b : Int))) M = _
  push_cast
  rfl
theorem spoil_ok {p k : Nat} {X : List Nat} {τ : MX.Loc} {M : MH} (h : SI p X τ M) (hX : X.length ≤ 2100) (hk : 143 ≤ k) (hn : 100000 < n) : ∃ τ' M', SPB n k τ M = .nx τ' M' ∧ SI p X τ' M' := by
  obtain ⟨hl, h1, h5, hd⟩ := h
  obtain ⟨x, M1, e1, _, d1, l1⟩ := next_call (n := n) (L := k + 2) (i := 1) (τ := τ) hd (by omega) (by decide) h1
  have ln : mApp fLen (mCons (mVar 5) mNil) τ M1 = .ok (.int (X.length : Int)) M1 := (app_ok (args1 (var_ok h5))).trans (if_pos (by omega))
  have pl : m2 fPlus (mApp fLen (mCons (mVar 5) mNil)) (mK (.int (1))) τ M1 = .ok (.int ((X.length + 1 : Nat) : Int)) M1 := (op_ok ln (w := .int ((1 : Nat) : Int)) rfl).trans (plus_nat _ _ _)
  obtain ⟨a, ea, ha⟩ := fmod_nat (x : Int) (m := X.length + 1) (by omega)
  have md : m2 fMod (mApp fIntC (mCons (mCall 1 (fnK (datF n) (k + 2) e__law_next) (mCons (mVar 1) mNil)) mNil)) (m2 fPlus (mApp fLen (mCons (mVar 5) mNil)) (mK (.int (1)))) τ M = .ok (.int (a : Int)) M1 := by
    rw [op_ok ((app_ok (args1 e1)).trans rfl) pl]
    unfold fMod fInt
    dsimp only
    rw [if_pos (bne_iff_ne.mpr (by omega)), ea]
  have g1 : (τ.set 7 (.va (.int (a : Int))))[1]? = some (.va (.ref p)) := by rw [List.getElem?_set_ne (by decide)]; exact h1
  obtain ⟨y, M2, e2, _, d2, l2⟩ := next_call (n := n) (L := k + 2) (i := 1) (τ := τ.set 7 (.va (.int (a : Int)))) d1 (by omega) (by decide) g1
  obtain ⟨b, hb, _, eb⟩ := mod_ok (m := 2) e2 (by decide)
  generalize hτ2 : (τ.set 7 (.va (.int (a : Int)))).set 8 (.va (.int (b : Int))) = τ2
  have g2 : τ2[1]? = some (.va (.ref p)) := by rw [← hτ2, List.getElem?_set_ne (by decide)]; exact g1
  have mk : mApp mkLst (mCons (mK (.str [])) (mCons (mK (.str [32])) (mCons (mK (.str [40])) (mCons (mK (.str [41])) (mCons (mK (.str [45])) (mCons (mK (.str [48])) (mCons (mK (.str [55])) (mCons (mK (.str [97])) (mCons (mK (.str [46])) (mCons (mK (.str [65])) (mCons (mK (.str [95])) (mCons (mK (.str [9])) mNil)))))))))))) τ2 M2 = .ok (.ref M2.n) (M2.push (.lst (PICKS.map .str))) := rfl
  obtain ⟨v, M3, e3, hv, d3, l3⟩ := pick_ok (n := n) (p := p) (q := M2.n) (L := k + 2) (vs := PICKS.map .str) d2.push (MH.get_push_same _) (Ne.symm (Nat.ne_of_lt d2.lt)) (List.cons_ne_nil _ _) (by omega) (by decide)
  obtain ⟨z, hz, rfl⟩ : ∃ z : List Nat, z.length ≤ 1 ∧ v = .str z := by
    obtain ⟨z, hz, rfl⟩ := List.mem_map.mp (show v ∈ PICKS.map MV.str from hv)
    refine ⟨z, ?_, rfl⟩
    have : ∀ z ∈ PICKS, z.length ≤ 1 := by decide
    exact this z hz
  have pk : mCall 2 (fnK (datF n) (k + 2) e__law_pick) (mCons (mVar 1) (mCons (mApp mkLst (mCons (mK (.str [])) (mCons (mK (.str [32])) (mCons (mK (.str [40])) (mCons (mK (.str [41])) (mCons (mK (.str [45])) (mCons (mK (.str [48])) (mCons (mK (.str [55])) (mCons (mK (.str [97])) (mCons (mK (.str [46])) (mCons (mK (.str [65])) (mCons (mK (.str [95])) (mCons (mK (.str [9])) mNil))))))))))))) mNil)) τ2 M2 = .ok (.str z) M3 := (call_ok (argsC (var_ok g2) (args1 mk)) rfl).trans e3
  generalize hτ3 : τ2.set 9 (.va (.str z)) = τ3
  have q5 : τ3[5]? = some (.va (.str X)) := by
    rw [← hτ3, ← hτ2, List.getElem?_set_ne (by decide), List.getElem?_set_ne (by decide), List.getElem?_set_ne (by decide)]; exact h5
  have q7 : τ3[7]? = some (.va (.int (a : Int))) := by
    rw [← hτ3, ← hτ2, List.getElem?_set_ne (by decide), List.getElem?_set_ne (by decide)]
    exact List.getElem?_set_self (by omega)
  have q8 : τ3[8]? = some (.va (.int (b : Int))) := by
    rw [← hτ3, ← hτ2, List.getElem?_set_ne (by decide)]
    exact List.getElem?_set_self (by rw [List.length_set]; omega)
  have l2' : τ2.length = 14 := by rw [← hτ2, List.length_set, List.length_set]; exact hl
  have q9 : τ3[9]? = some (.va (.str z)) := by
    rw [← hτ3]
    exact List.getElem?_set_self (by omega)
  have q1 : τ3[1]? = some (.va (.ref p)) := by rw [← hτ3, List.getElem?_set_ne (by decide)]; exact g2
  have l3' : τ3.length = 14 := by rw [← hτ3, List.length_set]; exact l2'
  generalize hY : (X.take a ++ z) ++ X.drop (a + b) = Y
  have lY : Y.length ≤ 5000 := by
    rw [← hY, List.length_append, List.length_append, List.length_take, List.length_drop]
    omega
  have sp : m2 fPlus (m2 fPlus (mSl (mVar 5) mNoPart (mPart (mVar 7))) (mVar 9)) (mSl (mVar 5) (mPart (m2 fPlus (mVar 7) (mVar 8))) mNoPart) τ3 M3 = .ok (.str Y) M3 := by
    have s1 : mSl (mVar 5) mNoPart (mPart (mVar 7)) τ3 M3 = .ok (.str (X.take a)) M3 := by
      rw [sl_ok (p := none) (q := some (a : Int)) (M2 := M3) (M3 := M3) (var_ok q5) rfl (part_ok (var_ok q7))]
      unfold fSl
      dsimp only
      rw [if_pos (by omega), cut_to]
    have s2 : mSl (mVar 5) (mPart (m2 fPlus (mVar 7) (mVar 8))) mNoPart τ3 M3 = .ok (.str (X.drop (a + b))) M3 := by
      rw [sl_ok (p := some ((a + b : Nat) : Int)) (q := none) (M2 := M3) (M3 := M3) (var_ok q5) (part_ok ((op_ok (var_ok q7) (var_ok q8)).trans (plus_nat _ _ _))) rfl]
      unfold fSl
      dsimp only
      rw [if_pos (by omega), cut_n]
    rw [op_ok ((op_ok s1 (var_ok q9)).trans (plus_str M3 (by rw [List.length_take]; omega))) s2, plus_str M3 (by rw [List.length_append, List.length_take, List.length_drop]; omega), hY]
  generalize hτ4 : τ3.set 10 (.va (.str Y)) = τ4
  have w10 : τ4[10]? = some (.va (.str Y)) := by
    rw [← hτ4]
    exact List.getElem?_set_self (by omega)
  have si : ∀ {M'}, Le M3 M' → SI p X τ4 M' := fun l => ⟨by rw [← hτ4, List.length_set]; exact l3', by rw [← hτ4, List.getElem?_set_ne (by decide)]; exact q1, by rw [← hτ4, List.getElem?_set_ne (by decide)]; exact q5, d3.le l⟩
  have run : ∀ R : MS, ∀ {M' : MH}, mAnd (mTest (m2 fNotIn (mK (.str [98, 97, 100])) (mVar 10))) (mTest (m2 fNe (mApp fRepr (mCons (mCall 1 (fnK (datF n) (k + 2) e__law_told) (mCons (mVar 10) mNil)) mNil)) (mApp fRepr (mCons (mCall 1 (fnK (datF n) (k + 2) e__law_due) (mCons (mVar 10) mNil)) mNil)))) τ4 M3 = .ok false M' → SPB n k τ M = .nx τ4 M' := by
    intro R M' hc
    refine (seq_nx (asg_ok2 md)).trans ((seq_nx (asg_ok2 eb)).trans ?_)
    rw [hτ2]
    refine (seq_nx (asg_ok2 pk)).trans ?_
    rw [hτ3]
    refine (seq_nx (asg_ok2 sp)).trans ?_
    rw [hτ4]
    exact (seq_nx ((if_f hc).trans next_nx)).trans next_nx
  have ti : mTest (m2 fNotIn (mK (.str [98, 97, 100])) (mVar 10)) τ4 M3 = .ok (!inText BAD Y) M3 := test_ok ((op_ok (v := .str BAD) rfl (var_ok w10)).trans rfl)
  cases hb : inText BAD Y with
  | true =>
    rw [hb] at ti
    exact ⟨τ4, M3, run mNext (and_f ti), si (Le.refl _)⟩
  | false =>
    rw [hb] at ti
    obtain ⟨r, hr⟩ := rdTerm_some (2 * Y.length + 1) Y 0 0 (by omega)
    obtain ⟨M4, e4, l4⟩ := repr_same (n := n) (L := k + 2) (T := Y) (M := M3) hr (nobad_of hb) (by omega) (by omega) (by omega) (a := mCall 1 (fnK (datF n) (k + 2) e__law_told) (mCons (mVar 10) mNil)) (b := mCall 1 (fnK (datF n) (k + 2) e__law_due) (mCons (mVar 10) mNil)) (τ := τ4) (fun M => call_ok (args1 (var_ok w10)) rfl) (fun M => call_ok (args1 (var_ok w10)) rfl)
    exact ⟨τ4, M4, run mNext ((and_t ti).trans (test_ok e4)), si l4⟩
end
end Mine
end
section
set_option Elab.async false
set_option linter.all false
set_option maxRecDepth 100000
set_option maxHeartbeats 4000000
/-! KF34: a drawn term, told and due. -/
namespace Mine
open PySem PySem.Spec MX L2 TL
section
variable {n : Nat}
abbrev OUT (n k : Nat) : MS := (mSeq (mAsg (mCall 2 (fnK (datF n) (k + 2) e__law_term) (mCons (mVar 1) (mCons (mK (.int (0))) mNil))) (gSet 4)) (mSeq (mAsg (mCall 1 (fnK (datF n) (k + 2) e__law_text) (mCons (mVar 4) mNil)) (gSet 5)) (mSeq (mIfS (mOr (mTest (m2 fNe (mCall 1 (fnK (datF n) (k + 2) e_term_text) (mCons (mVar 4) mNil)) (mVar 5))) (mTest (m2 fNe (mApp fRepr (mCons (mCall 1 (fnK (datF n) (k + 2) e__law_told) (mCons (mVar 5) mNil)) mNil)) (mApp fRepr (mCons (mApp mkLst (mCons (mK (.str [116, 101, 114, 109])) (mCons (mVar 4) mNil))) mNil))))) (mSeq (mRet (mK (.bl false))) mNext) mNext) (mSeq (mIfS (mAnd (mTru (mApp fIsi (mCons (mVar 4) (mCons (mK (.ty "tuple")) mNil)))) (mTest (m2 fNe (mCall 1 (fnK (datF n) (k + 2) e_term_text) (mCons (mApp fLstC (mCons (mVar 4) mNil)) mNil)) (mVar 5)))) (mSeq (mRet (mK (.bl false))) mNext) mNext) (mSeq (mFor n (rng1 (mCons (mK (.int (5))) mNil)) (gSet 6) (SPB n k)) mNext)))))
structure OI (p : Nat) (τ : MX.Loc) (M : MH) : Prop where
  len : τ.length = 14
  d1 : τ[1]? = some (.va (.ref p))
  dr : Dr 4120 p M
abbrev RETF : MS := mSeq (mRet (mK (.bl false))) mNext
theorem tup_ok {v : MV} {k : Nat} {τ : MX.Loc} {M : MH} (hv : Tm 4 v) (h4 : τ[4]? = some (.va v)) (h5 : τ[5]? = some (.va (.str (txt v)))) (hk : 143 ≤ k) (hn : 100000 < n) :
    ∃ M', mIfS (mAnd (mTru (mApp fIsi (mCons (mVar 4) (mCons (mK (.ty "tuple")) mNil)))) (mTest (m2 fNe (mCall 1 (fnK (datF n) (k + 2) e_term_text) (mCons (mApp fLstC (mCons (mVar 4) mNil)) mNil)) (mVar 5)))) RETF mNext τ M = .nx τ M' ∧ Le M M' := by
  have no : fIsi [v, .ty "tuple"] M = .ok (.bl false) M → ∃ M', mIfS (mAnd (mTru (mApp fIsi (mCons (mVar 4) (mCons (mK (.ty "tuple")) mNil)))) (mTest (m2 fNe (mCall 1 (fnK (datF n) (k + 2) e_term_text) (mCons (mApp fLstC (mCons (mVar 4) mNil)) mNil)) (mVar 5)))) RETF mNext τ M = .nx τ M' ∧ Le M M' := fun e =>
    ⟨M, (if_f (and_f (tru_b ((app_ok (argsC (var_ok h4) (args1 rfl))).trans e)))).trans next_nx, Le.refl M⟩
  cases v with
  | non => exact no rfl
  | int i => exact no rfl
  | str w => exact no rfl
  | tup vs =>
    obtain ⟨h1, h2⟩ := hv
    have ty : mTru (mApp fIsi (mCons (mVar 4) (mCons (mK (.ty "tuple")) mNil))) τ M = .ok true M := tru_b ((app_ok (argsC (var_ok h4) (args1 rfl))).trans rfl)
    have ls : mApp fLstC (mCons (mVar 4) mNil) τ M = .ok (.ref M.n) (M.push (.lst vs)) := (app_ok (args1 (var_ok h4))).trans (if_pos (by omega))
    obtain ⟨M', e, l⟩ := term_list (n := n) (m := 3) (L := k + 2) (by omega) (by omega) (by omega) h1 h2 (MH.get_push_same (M := M) (.lst vs))
    refine ⟨M', (if_f ((and_t ty).trans (test_ok ((op_ok ((call_ok (args1 ls) rfl).trans e) (var_ok h5)).trans (ne_self _ _))))).trans next_nx, (Le.push _ _).trans l⟩
  | _ => exact hv.elim
theorem out_ok {p k : Nat} {τ : MX.Loc} {M : MH} (h : OI p τ M) (hk : 143 ≤ k) (hn : 100000 < n) : ∃ τ' M', OUT n k τ M = .nx τ' M' ∧ OI p τ' M' := by
  obtain ⟨hl, h1, hd⟩ := h
  obtain ⟨v, M1, e1, hv, d1, l1⟩ := draw_ok (n := n) (p := p) (N := 4120) (by decide) hn 4 (d := 0) (L := k + 2) rfl hd (by omega)
  have c1 : mCall 2 (fnK (datF n) (k + 2) e__law_term) (mCons (mVar 1) (mCons (mK (.int (0))) mNil)) τ M = .ok v M1 := (call_ok (n := 2) (xs := [.ref p, .int ((0 : Nat) : Int)]) (argsC (var_ok h1) (args1 rfl)) rfl).trans e1
  generalize hτ1 : τ.set 4 (.va v) = τ1
  have g4 : τ1[4]? = some (.va v) := by rw [← hτ1]; exact List.getElem?_set_self (by omega)
  obtain ⟨M2, e2, l2⟩ := law_text_ok (n := n) (by omega) (m := 4) (by decide) hv (L := k + 2) (M := M1) (by omega)
  have c2 : mCall 1 (fnK (datF n) (k + 2) e__law_text) (mCons (mVar 4) mNil) τ1 M1 = .ok (.str (txt v)) M2 := (call_ok (args1 (var_ok g4)) rfl).trans e2
  generalize hτ2 : τ1.set 5 (.va (.str (txt v))) = τ2
  have ll : τ2.length = 14 := by rw [← hτ2, ← hτ1, List.length_set, List.length_set]; exact hl
  have q1 : τ2[1]? = some (.va (.ref p)) := by rw [← hτ2, ← hτ1, List.getElem?_set_ne (by decide), List.getElem?_set_ne (by decide)]; exact h1
  have q4 : τ2[4]? = some (.va v) := by rw [← hτ2, List.getElem?_set_ne (by decide)]; exact g4
  have q5 : τ2[5]? = some (.va (.str (txt v))) := by rw [← hτ2]; exact List.getElem?_set_self (by rw [← hτ1, List.length_set]; omega)
  obtain ⟨M3, e3, l3⟩ := term_text_ok (n := n) (by omega) (m := 4) (by decide) hv (L := k + 2) (M := M2) (by omega)
  have c3 : mTest (m2 fNe (mCall 1 (fnK (datF n) (k + 2) e_term_text) (mCons (mVar 4) mNil)) (mVar 5)) τ2 M2 = .ok false M3 := test_ok ((op_ok ((call_ok (args1 (var_ok q4)) rfl).trans e3) (var_ok q5)).trans (ne_self _ _))
  obtain ⟨M4, e4, l4⟩ := repr_term (n := n) (L := k + 2) (m := 4) (M := M3) hv (by decide) (by omega) (by omega) (a := mCall 1 (fnK (datF n) (k + 2) e__law_told) (mCons (mVar 5) mNil)) (b := mApp mkLst (mCons (mK (.str [116, 101, 114, 109])) (mCons (mVar 4) mNil))) (τ := τ2) (fun M => call_ok (args1 (var_ok q5)) rfl) (fun M => lst2 (v := .str [116, 101, 114, 109]) rfl (var_ok q4))
  obtain ⟨M5, e5, l5⟩ := tup_ok (n := n) (k := k) (τ := τ2) (M := M4) hv q4 q5 hk hn
  have d5 : Dr 4120 p M5 := d1.le (l2.trans (l3.trans (l4.trans l5)))
  have lb : (txt v).length ≤ 2100 := by
    have z := hv.len
    have : LB 4 ≤ 2100 := by decide
    omega
  obtain ⟨τ6, M6, e6, s6⟩ := for_rng_ok (n := n) (y := 6) (k := 5) (b := SPB n k) (τ := τ2) (M := M5) (M1 := M5) (A := mCons (mK (.int (5))) mNil) (fun _ τ M => SI p (txt v) τ M) rfl (by decide) (by omega)
    (by
      intro i τ M _ hI
      obtain ⟨i1, i2, i3, i4⟩ := hI
      exact spoil_ok (n := n) (k := k) (p := p) (X := txt v) ⟨by rw [List.length_set]; exact i1, by rw [List.getElem?_set_ne (by decide)]; exact i2, by rw [List.getElem?_set_ne (by decide)]; exact i3, i4⟩ lb hk hn)
    ⟨ll, q1, q5, d5⟩
  refine ⟨τ6, M6, ?_, ⟨s6.len, s6.d1, s6.dr⟩⟩
  refine (seq_nx (asg_ok2 c1)).trans ?_
  rw [hτ1]
  refine (seq_nx (asg_ok2 c2)).trans ?_
  rw [hτ2]
  exact (seq_nx ((if_f ((or_f c3).trans (test_ok e4))).trans next_nx)).trans ((seq_nx e5).trans ((seq_nx e6).trans next_nx))
end
end Mine
end
section
set_option Elab.async false
set_option linter.all false
set_option maxRecDepth 100000
set_option maxHeartbeats 4000000
/-! KF35: the law's single steps. -/
namespace Mine
open PySem PySem.Spec MX L2 TL
section
variable {n : Nat}
abbrev L3 (n k : Nat) : MS := (mIfS (mOr (mTest (m2 fNe (mCall 1 (fnK (datF n) (k + 2) e_term_text) (mCons (mVar 2) mNil)) (mK (.str [40, 40, 49, 32, 50, 41, 32, 40, 49, 32, 49, 41, 41])))) (mTest (m2 fNe (mApp fRepr (mCons (mCall 1 (fnK (datF n) (k + 2) e_read_term) (mCons (mK (.str [40, 46, 32, 110, 111, 110, 101, 32, 40, 45, 53, 41, 41])) mNil)) mNil)) (mApp fRepr (mCons (mApp mkTup (mCons (mK (.str [])) (mCons (mK .non) (mCons (mApp mkTup (mCons (m1 fNeg (mK (.int (5)))) mNil)) mNil)))) mNil))))) (mSeq (mRet (mK (.bl false))) mNext) mNext)
abbrev L5 (n k : Nat) : MS := (mAsg (m2 fPlus (m2 fPlus (m2 fTimes (mK (.str [40])) (mK (.int (60)))) (mK (.str [53]))) (m2 fTimes (mK (.str [41])) (mK (.int (60))))) (gSet 11))
abbrev L6 (n k : Nat) : MS := (mAsg (mApp mkLst (mCons (mK (.str [])) (mCons (mK (.str [40])) (mCons (mK (.str [40, 41])) (mCons (mK (.str [40, 32, 41])) (mCons (mK (.str [40, 49, 32, 41])) (mCons (mK (.str [40, 49, 32, 32, 50, 41])) (mCons (mK (.str [40, 49, 32, 50])) (mCons (mK (.str [49, 32, 50])) (mCons (mK (.str [45, 48])) (mCons (mK (.str [48, 48])) (mCons (mK (.str [48, 49])) (mCons (mK (.str [45])) (mCons (m2 fTimes (mK (.str [49])) (mK (.int (20)))) (mCons (m2 fTimes (mK (.str [49])) (mK (.int (21)))) (mCons (m2 fPlus (mK (.str [45])) (m2 fTimes (mK (.str [57])) (mK (.int (21))))) (mCons (mVar 11) (mCons (m2 fPlus (m2 fPlus (mK (.str [40])) (mVar 11)) (mK (.str [41]))) (mCons (mK (.str [40, 41, 40, 41])) (mCons (mK (.str [40, 97, 46, 41])) (mCons (mK (.str [53, 97])) (mCons (mK (.str [97, 53])) mNil)))))))))))))))))))))) (gSet 12))
abbrev L7 (n k : Nat) : MS := (mAsg (m2 fPlus (mVar 12) (mApp mkLst (mCons (mK (.str [110, 111, 110, 101])) (mCons (mK (.str [46, 46])) (mCons (mK (.str [41])) mNil))))) (gSet 12))
abbrev L8 (n k : Nat) : MS := (mIfS (mTest (m2 fNe (mLc n (mWalk (mVar 12)) (gSet 5) mYes (mApp fRepr (mCons (mCall 1 (fnK (datF n) (k + 2) e__law_told) (mCons (mVar 5) mNil)) mNil)) [5]) (mLc n (mWalk (mVar 12)) (gSet 5) mYes (mApp fRepr (mCons (mCall 1 (fnK (datF n) (k + 2) e__law_due) (mCons (mVar 5) mNil)) mNil)) [5]))) (mSeq (mRet (mK (.bl false))) mNext) mNext)
abbrev L10 (n k : Nat) : MS := (mFor n (rng1 (mCons (mK (.int (4000))) mNil)) (gSet 3) (mSeq (mAsg (m2 fTimes (mK (.int (10))) (mVar 13)) (gSet 13)) mNext))
abbrev L11 (n k : Nat) : MS := (mIfS (mOr (mTest (m2 fNe (mCall 1 (fnK (datF n) (k + 2) e_term_text) (mCons (m2 fMinus (mVar 13) (mK (.int (1)))) mNil)) (m2 fTimes (mK (.str [57])) (mK (.int (4000)))))) (mOr (mTest (m2 fNe (mCall 1 (fnK (datF n) (k + 2) e_term_text) (mCons (m2 fMinus (mK (.int (1))) (mVar 13)) mNil)) (m2 fPlus (mK (.str [45])) (m2 fTimes (mK (.str [57])) (mK (.int (4000))))))) (mNot (mTru (mCall 1 (fnK (datF n) (k + 2) e__law_refused) (mCons (mVar 13) mNil)))))) (mSeq (mRet (mK (.bl false))) mNext) mNext)
theorem rep_ok {τ : MX.Loc} {M : MH} (c k : Nat) (h : k ≤ 10000) : m2 fTimes (mK (.str [c])) (mK (.int (k : Int))) τ M = .ok (.str (List.replicate k c)) M := by
  rw [op_ok (v := .str [c]) (w := .int (k : Int)) rfl rfl]
  unfold fTimes
  dsimp only
  rw [if_pos (by refine ⟨by omega, by omega, ?_⟩; show 1 * (k : Int).toNat ≤ _; omega), Int.toNat_natCast, flat_rep]
abbrev DEEP : List Nat := (List.replicate 60 40 ++ [53]) ++ List.replicate 60 41
theorem l5_ok {k : Nat} {τ : MX.Loc} {M : MH} : L5 n k τ M = .nx (τ.set 11 (.va (.str DEEP))) M :=
  asg_ok2 ((op_ok ((op_ok (rep_ok 40 60 (by decide)) (w := .str [53]) rfl).trans (plus_str M (by decide))) (rep_ok 41 60 (by decide))).trans (plus_str M (by decide)))
abbrev T21 : List (List Nat) := [[], [40], [40, 41], [40, 32, 41], [40, 49, 32, 41], [40, 49, 32, 32, 50, 41], [40, 49, 32, 50], [49, 32, 50], [45, 48], [48, 48], [48, 49], [45], List.replicate 20 49, List.replicate 21 49, [45] ++ List.replicate 21 57, DEEP, ([40] ++ DEEP) ++ [41], [40, 41, 40, 41], [40, 97, 46, 41], [53, 97], [97, 53]]
abbrev T3 : List (List Nat) := [[110, 111, 110, 101], [46, 46], [41]]
theorem l6_ok {k : Nat} {τ : MX.Loc} {M : MH} (h : τ[11]? = some (.va (.str DEEP))) : L6 n k τ M = .nx (τ.set 12 (.va (.ref M.n))) (M.push (.lst (T21.map .str))) :=
  asg_ok2 ((app_ok (argsC rfl (argsC rfl (argsC rfl (argsC rfl (argsC rfl (argsC rfl (argsC rfl (argsC rfl (argsC rfl (argsC rfl (argsC rfl (argsC rfl (argsC (rep_ok 49 20 (by decide)) (argsC (rep_ok 49 21 (by decide)) (argsC ((op_ok (v := .str [45]) rfl (rep_ok 57 21 (by decide))).trans (plus_str M (by decide))) (argsC (var_ok h) (argsC ((op_ok ((op_ok (v := .str [40]) rfl (var_ok h)).trans (plus_str M (by decide))) (w := .str [41]) rfl).trans (plus_str M (by decide))) (argsC rfl (argsC rfl (argsC rfl (args1 rfl)))))))))))))))))))))).trans rfl)
theorem l7_ok {k q : Nat} {τ : MX.Loc} {M : MH} (h : τ[12]? = some (.va (.ref q))) (hq : M.get q = some (.lst (T21.map .str))) : ∃ M', L7 n k τ M = .nx (τ.set 12 (.va (.ref (M.n + 1)))) M' ∧ M'.get (M.n + 1) = some (.lst ((T21 ++ T3).map .str)) ∧ Le M M' := by
  have e : mApp mkLst (mCons (mK (.str [110, 111, 110, 101])) (mCons (mK (.str [46, 46])) (mCons (mK (.str [41])) mNil))) τ M = .ok (.ref M.n) (M.push (.lst (T3.map .str))) := rfl
  have g1 : (M.push (.lst (T3.map .str))).get q = some (.lst (T21.map .str)) := (Le.push M _).get hq
  have g2 : (M.push (.lst (T3.map .str))).get M.n = some (.lst (T3.map .str)) := MH.get_push_same _
  refine ⟨(M.push (.lst (T3.map .str))).push (.lst ((T21 ++ T3).map .str)), asg_ok2 ((op_ok (var_ok h) e).trans ?_), MH.get_push_same _, (Le.push M _).trans (Le.push _ _)⟩
  unfold fPlus
  dsimp only
  rw [g1, g2]
  rfl
theorem texts_fine : ∀ T ∈ T21 ++ T3, inText BAD T = false ∧ T.length ≤ 10000 := by decide +kernel
theorem l8_ok {k q : Nat} {τ : MX.Loc} {M : MH} (h : τ[12]? = some (.va (.ref q))) (hq : M.get q = some (.lst ((T21 ++ T3).map .str))) (hk : 143 ≤ k) (hn : 100000 < n) : ∃ M', L8 n k τ M = .nx τ M' ∧ Le M M' := by
  obtain ⟨M', e, l⟩ := lists_ok (n := n) (k := k + 2) (p := q) (Ts := T21 ++ T3) (τ := τ) (M := M) texts_fine (by omega) (by omega) hq h (by decide)
  exact ⟨M', (if_f (test_ok e)).trans next_nx, l⟩
theorem ten_step (i : Nat) (M : MH) : fTimes (.int 10) (.int ((10 ^ i : Nat) : Int)) M = .ok (.int ((10 ^ (i + 1) : Nat) : Int)) M := by
  rw [times_ok' 10 _ M (by decide) (by decide)]
  congr 2
  rw [Nat.pow_succ, Nat.mul_comm]
  push_cast
  rfl
theorem l10_ok {k : Nat} {τ : MX.Loc} {M : MH} (hl : τ.length = 14) (h : τ[13]? = some (.va (.int 1))) (hn : 100000 < n) : ∃ τ' M', L10 n k τ M = .nx τ' M' ∧ τ'.length = 14 ∧ τ'[13]? = some (.va (.int ((10 ^ 4000 : Nat) : Int))) := by
  obtain ⟨τ', M', e, e1, e2⟩ := for_rng_ok (n := n) (y := 3) (k := 4000) (b := mSeq (mAsg (m2 fTimes (mK (.int (10))) (mVar 13)) (gSet 13)) mNext) (τ := τ) (M := M) (M1 := M) (A := mCons (mK (.int (4000))) mNil)
    (fun i τ _ => τ.length = 14 ∧ τ[13]? = some (.va (.int ((10 ^ i : Nat) : Int)))) rfl (by decide) (by omega)
    (by
      intro i τ M _ ⟨i1, i2⟩
      have g : (τ.set 3 (.va (.int (i : Int))))[13]? = some (.va (.int ((10 ^ i : Nat) : Int))) := by rw [List.getElem?_set_ne (by decide)]; exact i2
      refine ⟨_, M, (seq_nx (asg_ok2 ((op_ok (v := .int 10) rfl (var_ok g)).trans (ten_step i M)))).trans next_nx, by rw [List.length_set, List.length_set]; exact i1, List.getElem?_set_self (by rw [List.length_set]; omega)⟩)
    ⟨hl, h⟩
  exact ⟨τ', M', e, e1, e2⟩
theorem l11_ok {k : Nat} {τ : MX.Loc} {M : MH} (h : τ[13]? = some (.va (.int ((10 ^ 4000 : Nat) : Int)))) (hk : 143 ≤ k) (hn : 100000 < n) : ∃ M', L11 n k τ M = .nx τ M' := by
  have tg : ∀ M, fnK (datF n) (k + 2) e_term_text [.int (((10 ^ 4000 : Nat) : Int) - 1)] M = .ok (.str (List.replicate 4000 57)) M := fun M => term_great (by omega) (by omega)
  have ts : ∀ M, fnK (datF n) (k + 2) e_term_text [.int (1 - ((10 ^ 4000 : Nat) : Int))] M = .ok (.str (45 :: List.replicate 4000 57)) M := fun M => term_small (by omega) (by omega)
  have tr : ∀ M, fnK (datF n) (k + 2) e__law_refused [.int ((10 ^ 4000 : Nat) : Int)] M = .ok (.bl true) M := fun M => refused_ok (by omega) (term_over (by omega) (by omega))
  generalize ((10 ^ 4000 : Nat) : Int) = G at h tg ts tr
  have r9 : ∀ M, m2 fTimes (mK (.str [57])) (mK (.int (4000))) τ M = .ok (.str (List.replicate 4000 57)) M := fun M => rep_ok 57 4000 (by decide)
  have hlen : (List.replicate 4000 57).length = 4000 := List.length_replicate
  generalize List.replicate 4000 57 = N at tg ts r9 hlen
  have c1 : mTest (m2 fNe (mCall 1 (fnK (datF n) (k + 2) e_term_text) (mCons (m2 fMinus (mVar 13) (mK (.int (1)))) mNil)) (m2 fTimes (mK (.str [57])) (mK (.int (4000))))) τ M = .ok false M :=
    test_ok ((op_ok ((call_ok (n := 1) (xs := [.int (G - 1)]) (args1 ((op_ok (var_ok h) (w := .int 1) rfl).trans rfl)) rfl).trans (tg M)) (r9 M)).trans (ne_self _ _))
  have c2 : mTest (m2 fNe (mCall 1 (fnK (datF n) (k + 2) e_term_text) (mCons (m2 fMinus (mK (.int (1))) (mVar 13)) mNil)) (m2 fPlus (mK (.str [45])) (m2 fTimes (mK (.str [57])) (mK (.int (4000)))))) τ M = .ok false M :=
    test_ok ((op_ok ((call_ok (n := 1) (xs := [.int (1 - G)]) (args1 ((op_ok (v := .int 1) rfl (var_ok h)).trans rfl)) rfl).trans (ts M)) ((op_ok (v := .str [45]) rfl (r9 M)).trans (plus_str M (by rw [hlen]; decide)))).trans (ne_self _ _))
  have c3 : mNot (mTru (mCall 1 (fnK (datF n) (k + 2) e__law_refused) (mCons (mVar 13) mNil))) τ M = .ok false M := not_ok (tru_b ((call_ok (args1 (var_ok h)) rfl).trans (tr M)))
  exact ⟨M, (if_f ((or_f c1).trans ((or_f c2).trans c3))).trans next_nx⟩
/-- a tuple's words -/
theorem repr_tup {vs : List MV} {m w : Nat} (h : Dat m w (.tup vs)) (hm : m ≤ 60) (hw : w ≤ 700000) : ∃ x, ∀ (M : MH), fRepr [.tup vs] M = .ok (.str x) M := by
  obtain ⟨d, e, b1, b2, b3, b4, b5⟩ := h
  refine ⟨d.shown.cps.toList, fun M => ?_⟩
  unfold fRepr
  dsimp only
  rw [e 200 M (by omega)]
  dsimp only
  have s4 : d.shown.length ≤ 16777216 := by
    have z := PyData.shown_le 21 (by decide) d b3
    omega
  rw [b4, PyData.hasDict_of_canLay _ b1, decide_eq_true (show d.depth ≤ 100 by omega), decide_eq_true s4]
  rfl
abbrev V2 : MV := .tup [.tup [.int 1, .int 2], .tup [.int 1, .int 1]]
abbrev TX : List Nat := [40, 46, 32, 110, 111, 110, 101, 32, 40, 45, 53, 41, 41]
theorem v2_txt : txt V2 = [40, 40, 49, 32, 50, 41, 32, 40, 49, 32, 49, 41, 41] := by
  simp only [txt, txts]
  decide +kernel
theorem v2_tm : Tm 2 V2 := by
  have q : ∀ i : Int, i.natAbs < 10 ^ 20 → Tm 0 (.int i) := fun i h => h
  refine ⟨by decide, fun v hv => ?_⟩
  simp only [List.mem_cons, List.mem_nil_iff, or_false] at hv
  rcases hv with rfl | rfl
  · refine ⟨by decide, fun v hv => ?_⟩
    simp only [List.mem_cons, List.mem_nil_iff, or_false] at hv
    rcases hv with rfl | rfl
    · exact q 1 (by decide)
    · exact q 2 (by decide)
  · refine ⟨by decide, fun v hv => ?_⟩
    simp only [List.mem_cons, List.mem_nil_iff, or_false] at hv
    rcases hv with rfl | rfl
    · exact q 1 (by decide)
    · exact q 1 (by decide)
theorem tx_rd : rdTerm 40 TX 0 0 = some (.ok (.tup [.str [], .non, .tup [.int (-5)]], 13)) := by rfl
theorem l3_ok {k : Nat} {τ : MX.Loc} {M : MH} (h : τ[2]? = some (.va V2)) (hk : 143 ≤ k) (hn : 100000 < n) : ∃ M', L3 n k τ M = .nx τ M' ∧ Le M M' := by
  obtain ⟨M1, e1, l1⟩ := term_text_ok (n := n) (by omega) (m := 2) (by decide) v2_tm (L := k + 2) (M := M) (by omega)
  rw [v2_txt] at e1
  have c1 : mTest (m2 fNe (mCall 1 (fnK (datF n) (k + 2) e_term_text) (mCons (mVar 2) mNil)) (mK (.str [40, 40, 49, 32, 50, 41, 32, 40, 49, 32, 49, 41, 41]))) τ M = .ok false M1 :=
    test_ok ((op_ok ((call_ok (args1 (var_ok h)) rfl).trans e1) (w := .str [40, 40, 49, 32, 50, 41, 32, 40, 49, 32, 49, 41, 41]) rfl).trans (ne_self _ _))
  have rd := read_ok (n := n) (M := M1) (L := k + 2) tx_rd (by omega) (by decide) (show 13 < n by omega)
  rw [show whole TX (.ok (.tup [.str [], .non, .tup [.int (-5)]], 13)) = .ok (.tup [.str [], .non, .tup [.int (-5)]]) from rfl] at rd
  obtain ⟨M2, e2, l2⟩ := rd
  obtain ⟨x, hx⟩ := repr_tup (rdTerm_dat 40 (by decide) tx_rd) (by decide) (by decide)
  have c2 : mTest (m2 fNe (mApp fRepr (mCons (mCall 1 (fnK (datF n) (k + 2) e_read_term) (mCons (mK (.str [40, 46, 32, 110, 111, 110, 101, 32, 40, 45, 53, 41, 41])) mNil)) mNil)) (mApp fRepr (mCons (mApp mkTup (mCons (mK (.str [])) (mCons (mK .non) (mCons (mApp mkTup (mCons (m1 fNeg (mK (.int (5)))) mNil)) mNil)))) mNil))) τ M1 = .ok false M2 :=
    test_ok ((op_ok ((app_ok (args1 ((call_ok (n := 1) (xs := [.str TX]) (args1 rfl) rfl).trans e2))).trans (hx M2)) ((app_ok (xs := [.tup [.str [], .non, .tup [.int (-5)]]]) (args1 rfl)).trans (hx M2))).trans (ne_self _ _))
  exact ⟨M2, (if_f ((or_f c1).trans c2)).trans next_nx, l1.trans l2⟩
end
end Mine
end
section
set_option Elab.async false
set_option linter.all false
set_option maxRecDepth 100000
set_option maxHeartbeats 4000000
/-! KF36: the law. -/
namespace Mine
open PySem PySem.Spec MX L2 TL
section
variable {n : Nat}
theorem law_ok {k : Nat} {ns : List Int} {M : MH} (hns : ns.length ≤ 63) (hk : 143 ≤ k) (hn : 100000 < n) : ∃ M', runBody 14 (c_law n k) [.fro (ns.map .int)] M = .ok (.bl true) M' := by
  unfold c_law
  generalize hτ : startM 14 [.fro (ns.map .int)] = τ
  have a0 : τ[0]? = some (.va (.fro (ns.map .int))) := by rw [← hτ]; rfl
  have hl : τ.length = 14 := by rw [← hτ]; rfl
  obtain ⟨p, M1, e1, d1⟩ := draws_ok (n := n) (M := M) (L := k + 2) hns (by omega) hn
  have s1 : ∀ (R : MS), mSeq (mAsg (mCall 1 (fnK (datF n) (k + 2) e__law_draws) (mCons (mVar 0) mNil)) (gSet 1)) R τ M = R (τ.set 1 (.va (.ref p))) M1 := fun R => seq_nx (asg_ok2 ((call_ok (args1 (var_ok a0)) rfl).trans e1))
  obtain ⟨r, M2, e2, d2⟩ := more_ok (n := n) (N := 4000) (p := p) (k := 120) (L := k + 2) d1 (by omega) (by decide) (by decide) hn
  generalize hτ1 : τ.set 1 (.va (.ref p)) = τ1 at s1
  have a1 : τ1[1]? = some (.va (.ref p)) := by rw [← hτ1]; exact List.getElem?_set_self (by omega)
  have l1 : τ1.length = 14 := by rw [← hτ1, List.length_set]; exact hl
  have s2 : ∀ (R : MS), mSeq (mAsg (mCall 2 (fnK (datF n) (k + 2) e__law_more) (mCons (mVar 1) (mCons (mK (.int (120))) mNil))) (gSet 1)) R τ1 M1 = R (τ1.set 1 (.va (.ref r))) M2 := fun R => seq_nx (asg_ok2 ((call_ok (n := 2) (xs := [.ref p, .int ((120 : Nat) : Int)]) (argsC (var_ok a1) (args1 rfl)) rfl).trans e2))
  generalize hτ2 : τ1.set 1 (.va (.ref r)) = τ2 at s2
  have a2 : τ2[1]? = some (.va (.ref r)) := by rw [← hτ2]; exact List.getElem?_set_self (by omega)
  have l2 : τ2.length = 14 := by rw [← hτ2, List.length_set]; exact l1
  have s3 : ∀ (R : MS), mSeq (mAsg (mApp mkTup (mCons (mApp mkTup (mCons (mK (.int (1))) (mCons (mK (.int (2))) mNil))) (mCons (mApp mkTup (mCons (mK (.int (1))) (mCons (mK (.int (1))) mNil))) mNil))) (gSet 2)) R τ2 M2 = R (τ2.set 2 (.va V2)) M2 := fun R => seq_nx (asg_ok2 rfl)
  generalize hτ3 : τ2.set 2 (.va V2) = τ3 at s3
  have a3 : τ3[1]? = some (.va (.ref r)) := by rw [← hτ3, List.getElem?_set_ne (by decide)]; exact a2
  have b3 : τ3[2]? = some (.va V2) := by rw [← hτ3]; exact List.getElem?_set_self (by omega)
  have l3 : τ3.length = 14 := by rw [← hτ3, List.length_set]; exact l2
  obtain ⟨M4, e4, le4⟩ := l3_ok (n := n) (k := k) (τ := τ3) (M := M2) b3 hk hn
  obtain ⟨τ5, M5, e5, s5⟩ := for_rng_ok (n := n) (y := 3) (k := 4) (b := OUT n k) (τ := τ3) (M := M4) (M1 := M4) (A := mCons (mK (.int (4))) mNil) (fun _ τ M => OI r τ M) rfl (by decide) (by omega)
    (by
      intro i τ M _ hI
      exact out_ok ⟨by rw [List.length_set]; exact hI.len, by rw [List.getElem?_set_ne (by decide)]; exact hI.d1, hI.dr⟩ hk hn)
    ⟨l3, a3, d2.le le4⟩
  have l5 : τ5.length = 14 := s5.len
  have e6 := l5_ok (n := n) (k := k) (τ := τ5) (M := M5)
  generalize hτ6 : τ5.set 11 (.va (.str DEEP)) = τ6 at e6
  have a6 : τ6[11]? = some (.va (.str DEEP)) := by rw [← hτ6]; exact List.getElem?_set_self (by omega)
  have l6 : τ6.length = 14 := by rw [← hτ6, List.length_set]; exact l5
  have e7 := l6_ok (n := n) (k := k) (τ := τ6) (M := M5) a6
  have g7 : (M5.push (.lst (T21.map .str))).get M5.n = some (.lst (T21.map .str)) := MH.get_push_same _
  generalize M5.push (.lst (T21.map .str)) = M7 at e7 g7
  generalize hτ7 : τ6.set 12 (.va (.ref M5.n)) = τ7 at e7
  have a7 : τ7[12]? = some (.va (.ref M5.n)) := by rw [← hτ7]; exact List.getElem?_set_self (by omega)
  have l7 : τ7.length = 14 := by rw [← hτ7, List.length_set]; exact l6
  obtain ⟨M8, e8, g8, _⟩ := l7_ok (n := n) (k := k) a7 g7
  generalize hτ8 : τ7.set 12 (.va (.ref (M7.n + 1))) = τ8 at e8
  have a8 : τ8[12]? = some (.va (.ref (M7.n + 1))) := by rw [← hτ8]; exact List.getElem?_set_self (by omega)
  have l8 : τ8.length = 14 := by rw [← hτ8, List.length_set]; exact l7
  obtain ⟨M9, e9, _⟩ := l8_ok (n := n) (k := k) a8 g8 hk hn
  have e10 : mAsg (mK (.int (1))) (gSet 13) τ8 M9 = .nx (τ8.set 13 (.va (.int 1))) M9 := asg_ok2 rfl
  generalize hτ10 : τ8.set 13 (.va (.int 1)) = τ10 at e10
  have a10 : τ10[13]? = some (.va (.int 1)) := by rw [← hτ10]; exact List.getElem?_set_self (by omega)
  have l10 : τ10.length = 14 := by rw [← hτ10, List.length_set]; exact l8
  obtain ⟨τ11, M11, e11, l11, a11⟩ := l10_ok (n := n) (k := k) (M := M9) l10 a10 hn
  obtain ⟨M12, e12⟩ := l11_ok (n := n) (k := k) (M := M11) a11 hk hn
  obtain ⟨M13, e13⟩ := last_ok (n := n) (k := k) (τ := τ11) (M := M12) (by omega) hn (by omega)
  refine ⟨M13, run_rt ?_⟩
  rw [hτ]
  refine (s1 _).trans ((s2 _).trans ((s3 _).trans ((seq_nx e4).trans ((seq_nx e5).trans ((seq_nx e6).trans ((seq_nx e7).trans ((seq_nx e8).trans ((seq_nx e9).trans ((seq_nx e10).trans ((seq_nx e11).trans ((seq_nx e12).trans ?_)))))))))))
  exact seq_rt (ret_ok e13)
end
def LEV : Nat := 230
theorem says (ns : List Int) (h : ns.length ≤ 63) : Says (fnK dat LEV e_law) ns := by
  obtain ⟨M', e⟩ := law_ok (n := 1000000) (k := 227) (M := M0) h (by decide) (by decide)
  refine ⟨M', ?_⟩
  show fnK (datF 1000000) (227 + 3) e_law [.fro (ns.map .int)] M0 = _
  rw [b_law]
  exact e
end Mine
end
section
set_option Elab.async false
set_option linter.all false
set_option maxRecDepth 100000
set_option maxHeartbeats 0
open PySem PySem.W PySem.Calls PyProof.Rows
theorem PySem.Challenge.cw_onejudge_k13_texts_of_tuples_holds : PySem.Challenge.rw_onejudge_k13_texts_of_tuples.Holds := by
  w_on; o_law
  refine HandSHeadRun.head_any (r := Mine.R) (q := view Mine.R.prog [31]) (H := Mine.hk) (ob := Mine.ob) (M := 2000) (loose := Mine.names) (d := HandSHeadRun.topDef Mine.R.prog 31) (kwd := []) Mine.ob_eq
    (by kernel_rfl) (fun s => by kernel_rfl) Mine.run (by kernel_rfl) (by kernel_rfl) (by kernel_rfl) (by rfl) (by first | assumption | decide +kernel) (by decide +kernel) ⟨rfl, rfl, rfl, rfl, rfl, by decide +kernel⟩ ?hw ?hc
  case hw => w_witness2
  case hc =>
    refine MX.walk_mx (l := Mine.RL) (n := 63) (k := Mine.LEV) (x := "script") rfl (by decide) (by kernel_rfl) ⟨rfl, by decide, by decide⟩ ?F
    intro w mg fa h Y G hmg0
    obtain ⟨K, KX, c⟩ := Y
    have hmg : mg ("law" : PySem.Str) = some (.ref fa) := by
      have e : (HandSHeadRun.topDef Mine.R.prog 31).name = ("law" : PySem.Str) := by kernel_rfl
      rw [← e]
      exact hmg0
    have df : ∃ fd, L2.FunD K Mine.e_law.d.name Mine.e_law.d.qual Mine.e_law.d.params Mine.e_law.d.body Mine.e_law.d.scope (Mine.e_law.d.dvs K) (Mine.e_law.d.kws K) (He.fAd K Mine.e_law.d.at_) fd := c.d.defs (by unfold Mine.defs; simp only [List.mem_cons, true_or, or_true])
    obtain ⟨fd, F⟩ := df
    have ef : He.fAd K Mine.e_law.d.at_ = fa := by
      have z := He.glo_ok KX G (x := ("law" : PySem.Str)) (Mine.glo_law c)
      rw [hmg] at z
      exact ((Value.ref.inj (Option.some.inj z))).symm
    have hb := L2.FunD.bindsA (ps := [("script" : PySem.Str)]) F fun _ _ _ _ _ _ us hl => match us, hl with | [_], _ => rfl
    refine ⟨K, fd, MX.fnK Mine.dat Mine.LEV Mine.e_law, KX, fun s u => hb s [u] rfl, fun ns h => Mine.says ns h, fun base hB hG nd => ?_⟩
    obtain ⟨st, dl⟩ := Mine.sta (P := Mine.RL.prog) (w := w) hB hG c nd
    have z := MX.fnK_den st 229 F Mine.s_e_law
    unfold MX.fA at z
    rw [ef] at z
    exact z
end
