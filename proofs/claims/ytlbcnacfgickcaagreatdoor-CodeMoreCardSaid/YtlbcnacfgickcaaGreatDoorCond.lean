/- Check answers 0 just where a code meets its conditions: plain Lean. -/
import Derived.Test.YtlbcnacfgickcaaGreatDoorTotals2
set_option linter.unusedVariables false
set_option linter.unusedSimpArgs false
namespace Go.Proofs.YtlbcnacfgickcaaGreatDoor.A
open Go.RowKit Go.Proofs.YtlbcnacfgickcaaGreatDoorW.PrintWords Go.Proofs.YtlbcnacfgickcaaGreatDoorW.PrintLast Go.Proofs.YtlbcnacfgickcaaGreatDoorW.PrintMore
theorem TP.self {α : Type} {g : Nat → Option α} {p : α → Prop} (h : TP g p) : TP g (fun r => p r ∧ Ev g r) := by
  obtain ⟨r, hr, hp⟩ := h
  exact ⟨r, hr, hp, hr⟩
def sumFrom (l0 : List S30) (i : Int) : Int := (((l0.drop i.toNat).map fun f => f.f5.length).sum : Nat)
theorem sumFrom_step {l0 : List S30} {i : Int} (h0 : 0 ≤ i) (h1 : i < (l0.length : Int)) : sumFrom l0 i = ((R3 l0 i).f5.length : Int) + sumFrom l0 (i + 1) := by
  unfold sumFrom R3
  have h : i.toNat < l0.length := by omega
  rw [show (i + 1).toNat = i.toNat + 1 by omega, List.drop_eq_getElem_cons h]
  simp only [List.map_cons, List.sum_cons, Int.natCast_add, List.getD_eq_getElem?_getD, h, List.getElem?_eq_getElem, Option.getD_some]
theorem sumFrom_end {l0 : List S30} {i : Int} (h1 : (l0.length : Int) ≤ i) : sumFrom l0 i = 0 := by
  unfold sumFrom
  rw [List.drop_eq_nil_of_le (by omega)]
  rfl
theorem sumFrom_nonneg (l0 : List S30) (i : Int) : 0 ≤ sumFrom l0 i := by unfold sumFrom; omega
structure Cond (l0 : List S30) (l1 : List S36) : Prop where
  lo : 1 ≤ (l0.length : Int)
  hi : (l0.length : Int) ≤ 20000
  of : (R3 l0 0).f1 = -1
  out : (R3 l0 0).f2 = -1
  par : (R3 l0 0).f3 = 0
  sum : sumFrom l0 0 ≤ 262144
  shp : ∀ i : Int, 0 ≤ i → i < (l0.length : Int) → code_program_shape.f l0 l1 i = some true
  rgt : ∀ j : Int, 0 ≤ j → j < (l1.length : Int) → Ev (fun k => value_Right.f k (rd_T36 l1 j).f0 (rd_T36 l1 j).f1 (rd_T36 l1 j).f2 (rd_T36 l1 j).f3 (rd_T36 l1 j).f4) true
  may : ∀ i : Int, 0 ≤ i → i < (l0.length : Int) → ∀ j : Int, 0 ≤ j → j < ((R3 l0 i).f5.length : Int) → Ev (fun k => mY.f k l0 l1 i j) true
  hgt : ∀ i : Int, 0 ≤ i → i < (l0.length : Int) → ∃ hs, Ev (fun k => cHt.f k l0 l1 i) (hs, true)
section
variable {l0 : List S30} {l1 : List S36}
theorem check_of (hl1 : l1.length ≤ 140737488351232) (C : Cond l0 l1) : Ev (fun k => cC.f k l0 l1) 0 := by
  have hhi := C.hi
  have hlen : ∀ i : Int, 0 ≤ i → i < (l0.length : Int) → ((R3 l0 i).f5.length : Int) ≤ 262144 := by
    intro i h0 h1
    have key : ∀ (m : Nat) (j : Int), i - j ≤ m → 0 ≤ j → j ≤ i → sumFrom l0 i ≤ sumFrom l0 j := by
      intro m
      induction m with
      | zero => intro j a b c; rw [show j = i by omega]; exact Int.le_refl _
      | succ m ih =>
        intro j a b c
        by_cases e : j = i
        · rw [e]; exact Int.le_refl _
        · have := ih (j + 1) (by omega) (by omega) (by omega)
          have := sumFrom_step b (show j < (l0.length : Int) by omega)
          omega
    have := key i.toNat 0 (by omega) (Int.le_refl _) h0
    have := sumFrom_step h0 h1
    have := sumFrom_nonneg l0 (i + 1)
    have := C.sum
    omega
  have l2 : ∀ (m : Nat) (i : Int), (l0.length : Int) - i ≤ m → 0 ≤ i → Ev (fun k => cC.l2 k l0 (l0.length : Int) i l0 l1) 0 := by
    intro m
    induction m with
    | zero => exact fun i hm hi => Ev.step (fun k => by rw [cC.l2, if_neg (show ¬ i < (l0.length : Int) by omega)]) (Ev.now _)
    | succ m ih =>
      intro i hm hi
      by_cases h1 : i < (l0.length : Int)
      case neg => exact Ev.step (fun k => by rw [cC.l2, if_neg h1]) (Ev.now _)
      refine Ev.step (fun k => by rw [cC.l2, if_pos h1, if_pos hi, if_pos h1]) ?_
      have hL := hlen i hi h1
      have tail : Ev (fun k => (cHt.f k l0 l1 i).bind fun bt201 => (if bt201.2 = true then (cC.l2 k l0 (l0.length : Int) (wrap64 (i + 1)) l0 l1) else (some 190))) 0 := by
        obtain ⟨hs, hE⟩ := C.hgt i hi h1
        refine Ev.bind hE (Ev.ite_pos rfl ?_)
        rw [show wrap64 (i + 1) = i + 1 by unfold wrap64; omega]
        exact ih (i + 1) (by omega) (by omega)
      have l3 : ∀ (m' : Nat) (j : Int), ((R3 l0 i).f5.length : Int) - j ≤ m' → 0 ≤ j → Ev (fun k => cC.l3 k i l0 (l0.length : Int) i ((R3 l0 i).f5.length : Int) j l0 l1) 0 := by
        intro m'
        induction m' with
        | zero => exact fun j hm hj => Ev.step (fun k => by rw [cC.l3, if_neg (show ¬ j < ((R3 l0 i).f5.length : Int) by omega)]) tail
        | succ m' ih' =>
          intro j hm hj
          by_cases h2 : j < ((R3 l0 i).f5.length : Int)
          case neg => exact Ev.step (fun k => by rw [cC.l3, if_neg h2]) tail
          refine Ev.step (fun k => by rw [cC.l3, if_pos h2]) ?_
          refine Ev.bind (C.may i hi h1 j hj h2) (Ev.ite_pos rfl ?_)
          rw [show wrap64 (j + 1) = j + 1 by unfold wrap64; omega]
          exact ih' (j + 1) (by omega) (by omega)
      exact l3 (R3 l0 i).f5.length 0 (by omega) (Int.le_refl _)
  have l1' : ∀ (m : Nat) (i : Int), (l1.length : Int) - i ≤ m → 0 ≤ i → Ev (fun k => cC.l1 k l1 (l1.length : Int) i l0 l1 l0 l1) 0 := by
    intro m
    have tail := l2 l0.length 0 (by omega) (Int.le_refl _)
    induction m with
    | zero => exact fun i hm hi => Ev.step (fun k => by rw [cC.l1, if_neg (show ¬ i < (l1.length : Int) by omega)]) tail
    | succ m ih =>
      intro i hm hi
      by_cases h1 : i < (l1.length : Int)
      case neg => exact Ev.step (fun k => by rw [cC.l1, if_neg h1]) tail
      refine Ev.step (fun k => by rw [cC.l1, if_pos h1, if_pos hi, if_pos h1]) ?_
      refine Ev.bind (C.rgt i hi h1) (Ev.ite_pos rfl ?_)
      rw [show wrap64 (i + 1) = i + 1 by unfold wrap64; omega]
      exact ih (i + 1) (by omega) (by omega)
  have l0' : ∀ (m : Nat) (i n : Int), (l0.length : Int) - i ≤ m → 0 ≤ i → sumFrom l0 i ≤ n → n ≤ 262144 → Ev (fun k => cC.l0 k n l0 (l0.length : Int) i l0 l1 l0 l1) 0 := by
    intro m
    have tail := l1' l1.length 0 (by omega) (Int.le_refl _)
    induction m with
    | zero => exact fun i n hm hi _ _ => Ev.step (fun k => by rw [cC.l0, if_neg (show ¬ i < (l0.length : Int) by omega)]) tail
    | succ m ih =>
      intro i n hm hi hs hn
      by_cases h1 : i < (l0.length : Int)
      case neg => exact Ev.step (fun k => by rw [cC.l0, if_neg h1]) tail
      have hL := hlen i hi h1
      have hst := sumFrom_step hi h1
      have hnn := sumFrom_nonneg l0 (i + 1)
      have hw : wrap64 (n - ((R3 l0 i).f5.length : Int)) = n - ((R3 l0 i).f5.length : Int) := by unfold wrap64; omega
      refine Ev.step (fun k => by rw [cC.l0, if_pos h1, if_pos hi, if_pos h1, hw, if_neg (show ¬ n - ((R3 l0 i).f5.length : Int) < 0 by omega), C.shp i hi h1]) ?_
      simp only [Option.bind_some, if_true]
      rw [show wrap64 (i + 1) = i + 1 by unfold wrap64; omega]
      exact ih (i + 1) _ (by omega) (by omega) (by omega) (by omega)
  have j0 : Ev (fun k => cC.j0 k false l0 l1 l0 l1) 0 := Ev.step (fun k => by rw [cC.j0, if_neg (by simp)]) (l0' l0.length 0 262144 (by omega) (Int.le_refl _) C.sum (Int.le_refl _))
  unfold cC.f
  have hlo := C.lo
  refine Ev.ite_neg (by omega) (Ev.ite_neg (by omega) (Ev.ite_pos (by omega) (Ev.ite_pos C.of (Ev.ite_pos C.out ?_))))
  have : ((R3 l0 0).f3 != 0) = false := by simp [C.par]
  rw [this]
  exact j0
end
end Go.Proofs.YtlbcnacfgickcaaGreatDoor.A
