/- The code with one variable and one constant more: plain Lean. -/
import Derived.Test.YtlbcnacfgickcaaGreatDoorMoreLaw
import Derived.Test.YtlbcnacfgickcaaGreatDoorHandInts
set_option linter.unusedVariables false
set_option linter.unusedSimpArgs false
namespace Go.Proofs.YtlbcnacfgickcaaGreatDoor.A
open Go.RowKit Go.Proofs.YtlbcnacfgickcaaGreatDoorW.PrintWords Go.Proofs.YtlbcnacfgickcaaGreatDoorW.PrintLast Go.Proofs.YtlbcnacfgickcaaGreatDoorW.PrintMore
/-- The number 9. -/
def nine : S36 := { z36 with f0 := 3, f1 := 4621256167635550208 }
def widerL : List S30 → List S30
  | [] => []
  | f :: r => { f with f4 := wrap64 (f.f4 + 1) } :: r
theorem widerL_length (l : List S30) : (widerL l).length = l.length := by cases l <;> rfl
theorem widerL_far {l : List S30} {i : Int} (h : 0 < i) : rd_T30 (widerL l) i = rd_T30 l i := by
  unfold rd_T30
  cases l with
  | nil => rfl
  | cons f r =>
    obtain ⟨m, hm⟩ : ∃ m, i.toNat = m + 1 := ⟨i.toNat - 1, by omega⟩
    rw [hm]
    rfl
theorem widerL_first {l : List S30} {i : Int} (h : i ≤ 0) (hl : 0 < l.length) : rd_T30 (widerL l) i = { rd_T30 l i with f4 := wrap64 ((rd_T30 l i).f4 + 1) } := by
  unfold rd_T30
  have : i.toNat = 0 := by omega
  rw [this]
  cases l with
  | nil => simp at hl
  | cons f r => rfl
theorem widerL_f5 (l : List S30) (i : Int) : (rd_T30 (widerL l) i).f5 = (rd_T30 l i).f5 := by
  by_cases h : 0 < i
  · rw [widerL_far h]
  · cases l with
    | nil => rfl
    | cons f r => rw [widerL_first (by omega) (by simp)]
theorem rd36_first {l : List S36} {x : S36} {j : Int} (h : j < (l.length : Int)) (h0 : 0 ≤ j) : rd_T36 (l ++ [x]) j = rd_T36 l j := by
  unfold rd_T36
  have : j.toNat < l.length := by omega
  simp [List.getD_eq_getElem?_getD, List.getElem?_append_left this]
theorem rd36_last {l : List S36} {x : S36} : rd_T36 (l ++ [x]) (l.length : Int) = x := by
  unfold rd_T36
  simp [List.getD_eq_getElem?_getD]
theorem wider_wide {l0 : List S30} {l1 : List S36} (hl : 0 < l0.length) (hl1 : l1.length ≤ 140737488351232) (h0 : 0 ≤ (rd_T30 l0 0).f4) (h1 : (rd_T30 l0 0).f4 < 32768) : Wide l0 (widerL l0) l1 (l1 ++ [nine]) := by
  have e : ∀ i : Int, rd_T30 (widerL l0) i = rd_T30 l0 i ∨ (i ≤ 0 ∧ rd_T30 (widerL l0) i = { rd_T30 l0 i with f4 := wrap64 ((rd_T30 l0 i).f4 + 1) }) := fun i => by
    by_cases h : 0 < i
    · exact .inl (widerL_far h)
    · exact .inr ⟨by omega, widerL_first (by omega) hl⟩
  refine ⟨widerL_length _, fun i => ?_, fun i => ?_, fun i => ?_, fun i => ?_, fun i => ?_, fun i j _ _ => ?_, ?_⟩
  · rcases e i with h | ⟨_, h⟩ <;> rw [h]
  · rcases e i with h | ⟨_, h⟩ <;> rw [h]
  · rcases e i with h | ⟨_, h⟩ <;> rw [h]
  · rcases e i with h | ⟨hi, h⟩ <;> rw [h]
    · exact Int.le_refl _
    · have : rd_T30 l0 i = rd_T30 l0 0 := by unfold rd_T30; rw [show i.toNat = 0 by omega]; rfl
      rw [this]
      simp only
      unfold wrap64
      omega
  · rw [widerL_f5]; exact Nat.le_refl _
  · rw [widerL_f5]
  · rw [List.length_append, List.length_singleton]
    unfold wrap64
    omega
theorem nine_right : Ev (fun k => value_Right.f k nine.f0 nine.f1 nine.f2 nine.f3 nine.f4) true := by
  refine ⟨5, fun k hk => ?_⟩
  obtain ⟨m, rfl⟩ : ∃ m, k = m + 5 := ⟨k - 5, by omega⟩
  simp [value_Right.f, value_right.f, value_right.j0, nine, z36]
theorem shape_wider {l0 : List S30} {l1 l1' : List S36} (hl : 0 < l0.length) {i : Int} (hi : 0 ≤ i) (ho : (rd_T30 l0 0).f1 = -1) (h0 : 0 ≤ (rd_T30 l0 0).f4) (h1 : (rd_T30 l0 0).f4 < 32768) (H : Wide l0 (widerL l0) l1 l1') (hs : code_program_shape.f l0 l1 i = some true) : code_program_shape.f (widerL l0) l1' i = some true := by
  unfold code_program_shape.f at hs ⊢
  by_cases h : 0 < i
  · simp only [widerL_far h, H.len, plainF_wide H] at hs ⊢
    exact hs
  · have : i = 0 := by omega
    subst this
    simp only [widerL_first (Int.le_refl 0) hl, H.len, plainF_wide H, ho, if_true] at hs ⊢
    by_cases a0 : (0 : Int) < (l0.length : Int)
    case neg => rw [if_neg a0] at hs; simp at hs
    rw [if_pos a0] at hs ⊢
    rw [if_pos (Int.le_refl 0)] at hs ⊢
    by_cases a1 : ((rd_T30 l0 0).f5.length : Int) = 0
    · rw [if_pos a1] at hs; simp at hs
    rw [if_neg a1] at hs ⊢
    obtain ⟨b, hb, hs⟩ := Option.bind_eq_some_iff.mp hs
    rw [hb]
    simp only [Option.bind_some] at hs ⊢
    cases b with
    | false => simp at hs
    | true =>
      simp only [if_true] at hs ⊢
      obtain ⟨u, hu, hs⟩ := Option.bind_eq_some_iff.mp hs
      rw [hu]
      simp only [Option.bind_some] at hs ⊢
      cases u with
      | false => simp at hs
      | true =>
        simp only [if_true, inside_eq] at hs ⊢
        have hw : wrap64 ((rd_T30 l0 0).f4 + 1) = (rd_T30 l0 0).f4 + 1 := by unfold wrap64; omega
        rw [hw]
        simp
        omega
theorem shape_vars {l0 : List S30} {l1 : List S36} (ho : (rd_T30 l0 0).f1 = -1) (hs : code_program_shape.f l0 l1 0 = some true) : 0 ≤ (rd_T30 l0 0).f4 := by
  unfold code_program_shape.f at hs
  rw [if_pos (Int.le_refl 0)] at hs
  by_cases a0 : (0 : Int) < (l0.length : Int)
  case neg => rw [if_neg a0] at hs; simp at hs
  rw [if_pos a0] at hs
  by_cases a1 : ((rd_T30 l0 0).f5.length : Int) = 0
  · rw [if_pos a1] at hs; simp at hs
  rw [if_neg a1, if_pos ho] at hs
  obtain ⟨b, hb, hs⟩ := Option.bind_eq_some_iff.mp hs
  cases b with
  | false => simp at hs
  | true =>
    simp only [if_true] at hs
    obtain ⟨u, hu, hs⟩ := Option.bind_eq_some_iff.mp hs
    cases u with
    | false => simp at hs
    | true =>
      simp only [if_true, inside_eq, Option.some.injEq, decide_eq_true_eq] at hs
      exact hs.1
theorem heights_wider (k : Nat) (l0 : List S30) (l1 l1' : List S36) (a : Int) : code_program_heights.f k (widerL l0) l1' a = code_program_heights.f k l0 l1 a := by
  unfold code_program_heights.f
  simp only [widerL_length, widerL_f5]
theorem wider_cond {l0 : List S30} {l1 : List S36} (hl1 : l1.length ≤ 140737488351232) (C : Cond l0 l1) (h1 : (rd_T30 l0 0).f4 < 32768) : Cond (widerL l0) (l1 ++ [nine]) := by
  have hlo := C.lo
  have hl : 0 < l0.length := by omega
  have h0 := shape_vars C.of (C.shp 0 (Int.le_refl 0) (by omega))
  have H := wider_wide hl hl1 h0 h1
  have len := widerL_length l0
  have hsum : sumFrom (widerL l0) 0 = sumFrom l0 0 := by
    cases l0 with
    | nil => rfl
    | cons f r => rfl
  refine ⟨by rw [len]; exact C.lo, by rw [len]; exact C.hi, by rw [H.f1]; exact C.of, by rw [H.f2]; exact C.out, by rw [H.f3]; exact C.par, by rw [hsum]; exact C.sum, ?_, ?_, ?_, ?_⟩
  · intro i g0 g1
    rw [len] at g1
    exact shape_wider hl g0 C.of h0 h1 H (C.shp i g0 g1)
  · intro j g0 g1
    by_cases hj : j < (l1.length : Int)
    · rw [rd36_first hj g0]
      exact C.rgt j g0 hj
    · have : j = (l1.length : Int) := by simp at g1; omega
      rw [this, rd36_last]
      exact nine_right
  · intro i g0 g1 j k0 k1
    rw [len] at g1
    rw [widerL_f5] at k1
    obtain ⟨K, hK⟩ := C.may i g0 g1 j k0 k1
    exact ⟨K, fun k hk => may_le H k k0 k1 (hK k hk)⟩
  · intro i g0 g1
    rw [len] at g1
    obtain ⟨hs, K, hK⟩ := C.hgt i g0 g1
    exact ⟨hs, K, fun k hk => (heights_wider k l0 l1 _ i).trans (hK k hk)⟩
theorem ints_same (l : List Int) (hl : l.length ≤ 140737488351232) : Ev (fun k => colanderref01_Ints.f k l l) true := by
  unfold colanderref01_Ints.f
  refine Ev.ite_pos rfl ?_
  have key : ∀ (m : Nat) (i : Int), (l.length : Int) - i ≤ m → 0 ≤ i → Ev (fun k => colanderref01_Ints.l0 k l l i) true := by
    intro m
    induction m with
    | zero => exact fun i hm hi => Ev.step (fun k => by rw [colanderref01_Ints.l0, if_neg (show ¬ i < (l.length : Int) by omega)]) (Ev.now _)
    | succ m ih =>
      intro i hm hi
      by_cases h1 : i < (l.length : Int)
      case neg => exact Ev.step (fun k => by rw [colanderref01_Ints.l0, if_neg h1]) (Ev.now _)
      refine Ev.step (fun k => by rw [colanderref01_Ints.l0, if_pos h1, if_pos hi, if_pos h1, if_pos rfl, show wrap64 (i + 1) = i + 1 by unfold wrap64; omega]) ?_
      exact ih (i + 1) (by omega) (by omega)
  exact key l.length 0 (by omega) (Int.le_refl _)
/-- What CodeWider computes. -/
def widerF (k : Nat) (l0 : List S30) (l1 : List S36) : Option Bool :=
  (code_Check.f k l0 l1).bind fun e => if e ≠ 0 then some true else if ¬ (0 < l0.length ∧ l0.length ≤ 20000) then none else if (rd_T30 l0 0).f4 ≥ 32768 then some true else
    (code_Heights.f k l0 l1 0).bind fun a => (code_Heights.f k (widerL l0) (l1 ++ [nine]) 0).bind fun b => (code_Check.f k (widerL l0) (l1 ++ [nine])).bind fun c =>
      if c = 0 then (if a.2 = b.2 then colanderref01_Ints.f k a.1 b.1 else some false) else some false
section
variable {l0 : List S30} {l1 : List S36} (hl0 : l0.length ≤ 140737488351232) (hl1 : l1.length + 1 ≤ 140737488351232) (hG0 : ∀ f ∈ l0, G30 f) (hG1 : ∀ x ∈ l1, G36 x)
include hl0 hl1 hG0 hG1
theorem wider_ok : ∃ k, widerF k l0 l1 = some true := by
  obtain ⟨e, hC, hp⟩ := check_cond hl0 (by omega) hG0 hG1
  suffices h : Ev (fun k => widerF k l0 l1) true by exact h.rounds
  unfold widerF
  refine Ev.bind hC ?_
  by_cases h0 : e ≠ 0
  · exact Ev.ite_pos h0 (Ev.now _)
  refine Ev.ite_neg h0 ?_
  have e0 : e = 0 := by omega
  subst e0
  obtain ⟨C, hD⟩ := hp rfl
  refine Ev.ite_neg (fun h => h (by have := C.lo; have := C.hi; omega)) ?_
  by_cases h1 : (rd_T30 l0 0).f4 ≥ 32768
  · exact Ev.ite_pos h1 (Ev.now _)
  refine Ev.ite_neg h1 ?_
  have hlo := C.lo
  have hhi := C.hi
  have C' := wider_cond (by omega) C (by omega)
  have hK := check_of (by simp; omega) C'
  obtain ⟨hs, hE, hH⟩ := (hD 0 (Int.le_refl _) (by omega)).2.high
  have hE' : Ev (fun k => code_program_heights.f k (widerL l0) (l1 ++ [nine]) 0) (hs, true) := by
    obtain ⟨K, hK⟩ := hE
    exact ⟨K, fun k hk => (heights_wider k l0 l1 _ 0).trans (hK k hk)⟩
  have hHt : Ev (fun k => code_Heights.f k (widerL l0) (l1 ++ [nine]) 0) (hs, 0) := by
    unfold code_Heights.f
    refine Ev.bind hK (Ev.ite_pos rfl ?_)
    rw [widerL_length, show wrap64 ((l0.length : Int) - 1) = (l0.length : Int) - 1 by unfold wrap64; omega, inside_eq]
    simp only [Option.bind_some]
    refine Ev.ite_pos (by simp; omega) ?_
    exact Ev.bind hE' (Ev.now _)
  have hHt0 : Ev (fun k => code_Heights.f k l0 l1 0) (hs, 0) := by
    unfold code_Heights.f
    refine Ev.bind hC (Ev.ite_pos rfl ?_)
    rw [show wrap64 ((l0.length : Int) - 1) = (l0.length : Int) - 1 by unfold wrap64; omega, inside_eq]
    simp only [Option.bind_some]
    refine Ev.ite_pos (by simp; omega) ?_
    exact Ev.bind hE (Ev.now _)
  have hlen : hs.length ≤ 140737488351232 := by
    have := (G30_at hG0 (Int.le_refl 0) (show (0 : Int) < (l0.length : Int) by omega)).1
    have hx := hH.len
    omega
  refine Ev.bind hHt0 (Ev.bind hHt (Ev.bind hK (Ev.ite_pos rfl (Ev.ite_pos rfl ?_))))
  exact ints_same hs hlen
end
end Go.Proofs.YtlbcnacfgickcaaGreatDoor.A
