/- A code with more variables, more constants, more instructions behind: what may be there may be here: plain Lean. -/
import Derived.Test.YtlbcnacfgickcaaGreatDoorTotals2
set_option linter.unusedVariables false
set_option linter.unusedSimpArgs false
namespace Go.Proofs.YtlbcnacfgickcaaGreatDoor.A
open Go.RowKit Go.Proofs.YtlbcnacfgickcaaGreatDoorW.PrintWords Go.Proofs.YtlbcnacfgickcaaGreatDoorW.PrintLast Go.Proofs.YtlbcnacfgickcaaGreatDoorW.PrintMore
def LeT (a b : Option Bool) : Prop := a = some true → b = some true
theorem LeT.refl (a : Option Bool) : LeT a a := id
theorem LeT.no {b : Option Bool} : LeT (some false) b := fun h => by cases h
theorem LeT.none {b : Option Bool} : LeT Option.none b := fun h => by cases h
theorem LeT.ite {c : Prop} [Decidable c] {a b a' b' : Option Bool} (h : c → LeT a a') (k : ¬c → LeT b b') : LeT (if c then a else b) (if c then a' else b') := by
  by_cases hc : c
  · rw [if_pos hc, if_pos hc]; exact h hc
  · rw [if_neg hc, if_neg hc]; exact k hc
theorem LeT.bind_id {a b : Option Bool} (h : LeT a b) : LeT (a.bind fun t => some t) (b.bind fun t => some t) := by
  intro e
  cases a with
  | none => cases e
  | some x => cases e; rw [h rfl]; rfl
theorem LeT.bind {α : Type} {a : Option α} {f g : α → Option Bool} (h : ∀ x, LeT (f x) (g x)) : LeT (a.bind f) (a.bind g) := by
  cases a with
  | none => exact LeT.none
  | some x => exact h x
structure Wide (l0 l0' : List S30) (l1 l1' : List S36) : Prop where
  len : l0'.length = l0.length
  f1 : ∀ i : Int, (R3 l0' i).f1 = (R3 l0 i).f1
  f2 : ∀ i : Int, (R3 l0' i).f2 = (R3 l0 i).f2
  f3 : ∀ i : Int, (R3 l0' i).f3 = (R3 l0 i).f3
  f4 : ∀ i : Int, wrap64 ((R3 l0 i).f4 - 1) ≤ wrap64 ((R3 l0' i).f4 - 1)
  f5 : ∀ i : Int, (R3 l0 i).f5.length ≤ (R3 l0' i).f5.length
  at5 : ∀ i j : Int, 0 ≤ j → j < ((R3 l0 i).f5.length : Int) → R6 (R3 l0' i).f5 j = R6 (R3 l0 i).f5 j
  cs : wrap64 ((l1.length : Int) - 1) ≤ wrap64 ((l1'.length : Int) - 1)
theorem inside_le {v a b : Int} (h : a ≤ b) : LeT (code_inside.f v a) (code_inside.f v b) := by
  rw [inside_eq, inside_eq]
  intro e
  simp only [Option.some.injEq, decide_eq_true_eq] at e ⊢
  omega
section
variable {l0 l0' : List S30} {l1 l1' : List S36} (H : Wide l0 l0' l1 l1')
include H
theorem home_eq (a : Int) : code_program_home.f l0' l1' a = code_program_home.f l0 l1 a := by
  unfold code_program_home.f
  rw [H.len, H.f1]
theorem outl_eq : ∀ (k : Nat) (x n : Int), oU.l0 k x n l0' l1' = oU.l0 k x n l0 l1
  | 0, _, _ => by simp only [oU.l0]
  | k + 1, x, n => by simp only [oU.l0, H.len, H.f2, outl_eq k]
theorem out_eq (k : Nat) (a n : Int) : oU.f k l0' l1' a n = oU.f k l0 l1 a n := by
  unfold oU.f
  simp only [home_eq H, outl_eq H]
theorem param_eq (k : Nat) (a b c : Int) : code_program_param.f k l0' l1' a b c = code_program_param.f k l0 l1 a b c := by
  unfold code_program_param.f
  simp only [out_eq H, H.len, H.f3]
theorem closure_eq (k : Nat) (a b c d : Int) : cO.f k l0' l1' a b c d = cO.f k l0 l1 a b c d := by
  unfold cO.f
  simp only [param_eq H, home_eq H, H.len, H.f1]
theorem calll_eq : ∀ (k : Nat) (a : Int) (rs : List S99) (n i : Int), cL.l0 k a rs n i l0' l1' = cL.l0 k a rs n i l0 l1
  | 0, _, _, _, _ => by simp only [cL.l0]
  | k + 1, a, rs, n, i => by simp only [cL.l0, closure_eq H, calll_eq k]
theorem callj2_eq (k : Nat) (a : Int) (b : Bool) (x0 x1 x2 : Int) (s : ByteArray) (rs : List S99) : cL.j2 k a b l0' l1' x0 x1 x2 s rs = cL.j2 k a b l0 l1 x0 x1 x2 s rs := by
  cases k with
  | zero => simp only [cL.j2]
  | succ k => simp only [cL.j2, calll_eq H]
theorem callj1_eq (k : Nat) (a : Int) (b : Bool) (x0 x1 x2 : Int) (s : ByteArray) (rs : List S99) (g0 g0' : ByteArray) (g1 g2 g3 g4 g4' : Int) (g5 g5' : List S56) : cL.j1 k a b l0' l1' x0 x1 x2 s rs g0' g1 g2 g3 g4' g5' = cL.j1 k a b l0 l1 x0 x1 x2 s rs g0 g1 g2 g3 g4 g5 := by
  cases k with
  | zero => simp only [cL.j1]
  | succ k => simp only [cL.j1, callj2_eq H, out_eq H]
theorem call_eq (k : Nat) (a x0 x1 x2 : Int) (s : ByteArray) (rs : List S99) : cL.f k l0' l1' a x0 x1 x2 s rs = cL.f k l0 l1 a x0 x1 x2 s rs := by
  have j0 : ∀ b, cL.j0 k a b l0' l1' x0 x1 x2 s rs = cL.j0 k a b l0 l1 x0 x1 x2 s rs := by
    intro b
    cases k with
    | zero => simp only [cL.j0]
    | succ k => simp only [cL.j0, H.len, H.f1, H.f2, H.f3, callj1_eq H (g0 := (R3 l0 x1).f0) (g4 := (R3 l0 x1).f4) (g5 := (R3 l0 x1).f5)]
  unfold cL.f
  simp only [j0, H.len]
theorem variable_le (k : Nat) (a b c : Int) : LeT (code_program_variable.f k l0 l1 a b c) (code_program_variable.f k l0' l1' a b c) := by
  unfold code_program_variable.f
  rw [out_eq H, H.len]
  exact LeT.bind fun x => LeT.ite (fun _ => LeT.ite (fun _ => LeT.ite (fun _ => LeT.bind_id (inside_le (H.f4 x))) (fun _ => LeT.none)) (fun _ => LeT.none)) (fun _ => LeT.no)
theorem may_le (k : Nat) {i j : Int} (g0 : 0 ≤ j) (g1 : j < ((R3 l0 i).f5.length : Int)) : LeT (mY.f k l0 l1 i j) (mY.f k l0' l1' i j) := by
  have h3 : ∀ (k : Nat) (b : Bool) (y0 x0 x1 x2 : Int) (s : ByteArray) (rs : List S99), LeT (mY.j3 k i j y0 b l0 l1 x0 x1 x2 s rs) (mY.j3 k i j y0 b l0' l1' x0 x1 x2 s rs) := by
    intro k b y0 x0 x1 x2 s rs
    cases k with
    | zero => simp only [mY.j3]; exact LeT.none
    | succ k =>
      simp only [mY.j3, call_eq H, H.len]
      refine LeT.ite (fun _ => LeT.ite (fun _ => LeT.ite (fun _ => LeT.ite (fun _ => ?_) (fun _ => LeT.none)) (fun _ => LeT.none)) (fun _ => LeT.no)) (fun _ => LeT.refl _)
      intro e
      have := H.f5 i
      simp only [Option.some.injEq, decide_eq_true_eq] at e ⊢
      omega
  have h2 : ∀ (k : Nat) (b : Bool) (y0 x0 x1 x2 : Int) (s : ByteArray) (rs : List S99), LeT (mY.j2 k i j y0 b l0 l1 x0 x1 x2 s rs) (mY.j2 k i j y0 b l0' l1' x0 x1 x2 s rs) := by
    intro k b y0 x0 x1 x2 s rs
    cases k with
    | zero => simp only [mY.j2]; exact LeT.none
    | succ k =>
      simp only [mY.j2, param_eq H]
      refine LeT.ite (fun _ => LeT.bind_id (variable_le H _ _ _ _)) (fun _ => LeT.ite (fun _ => LeT.refl _) (fun _ => ?_))
      repeat' first
        | exact h3 _ _ _ _ _ _ _ _
        | refine LeT.ite (fun _ => ?_) (fun _ => ?_)
  have h1 : ∀ (k : Nat) (b : Bool) (y0 x0 x1 x2 : Int) (s : ByteArray) (rs : List S99), LeT (mY.j1 k i j y0 b l0 l1 x0 x1 x2 s rs) (mY.j1 k i j y0 b l0' l1' x0 x1 x2 s rs) := by
    intro k b y0 x0 x1 x2 s rs
    cases k with
    | zero => simp only [mY.j1]; exact LeT.none
    | succ k =>
      simp only [mY.j1]
      refine LeT.ite (fun _ => LeT.bind_id (variable_le H _ _ _ _)) (fun _ => ?_)
      repeat' first
        | exact h2 _ _ _ _ _ _ _ _
        | refine LeT.ite (fun _ => ?_) (fun _ => ?_)
  have h0 : ∀ (k : Nat) (b : Bool) (x0 x1 x2 : Int) (s : ByteArray) (rs : List S99), LeT (mY.j0 k i j b l0 l1 x0 x1 x2 s rs) (mY.j0 k i j b l0' l1' x0 x1 x2 s rs) := by
    intro k b x0 x1 x2 s rs
    cases k with
    | zero => simp only [mY.j0]; exact LeT.none
    | succ k =>
      simp only [mY.j0]
      refine LeT.ite (fun _ => LeT.no) (fun _ => LeT.ite (fun _ => LeT.bind_id (inside_le H.cs)) (fun _ => LeT.ite (fun _ => LeT.refl _) (fun _ => ?_)))
      repeat' first
        | exact h1 _ _ _ _ _ _ _ _
        | refine LeT.ite (fun _ => ?_) (fun _ => ?_)
  unfold mY.f
  have hl := H.f5 i
  simp only [H.len, H.at5 i j g0 g1]
  refine LeT.ite (fun _ => LeT.ite (fun _ => LeT.ite (fun _ => ?_) (fun _ => LeT.none)) (fun _ => LeT.none)) (fun _ => LeT.none)
  rw [if_pos g1, if_pos (show j < ((R3 l0' i).f5.length : Int) by omega)]
  refine LeT.bind fun bt => ?_
  repeat' first
    | exact h0 _ _ _ _ _ _ _
    | refine LeT.ite (fun _ => ?_) (fun _ => ?_)
end
end Go.Proofs.YtlbcnacfgickcaaGreatDoor.A
