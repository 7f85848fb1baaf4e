/- The code with one pop more behind its first function: plain Lean. -/
import Derived.Test.YtlbcnacfgickcaaGreatDoorWide
import Derived.Test.YtlbcnacfgickcaaGreatDoorCond2
import Derived.Test.YtlbcnacfgickcaaGreatDoorHighMore
set_option linter.unusedVariables false
set_option linter.unusedSimpArgs false
namespace Go.Proofs.YtlbcnacfgickcaaGreatDoor.A
open Go.RowKit Go.Proofs.YtlbcnacfgickcaaGreatDoorW.PrintWords Go.Proofs.YtlbcnacfgickcaaGreatDoorW.PrintLast Go.Proofs.YtlbcnacfgickcaaGreatDoorW.PrintMore
def popI : S56 := { z56 with f0 := 3 }
def moreL : List S30 → List S30
  | [] => []
  | f :: r => { f with f5 := f.f5 ++ [popI] } :: r
theorem moreL_length (l : List S30) : (moreL l).length = l.length := by cases l <;> rfl
theorem moreL_far {l : List S30} {i : Int} (h : 0 < i) : R3 (moreL l) i = R3 l i := by
  unfold R3
  cases l with
  | nil => rfl
  | cons f r =>
    obtain ⟨m, hm⟩ : ∃ m, i.toNat = m + 1 := ⟨i.toNat - 1, by omega⟩
    rw [hm]
    rfl
theorem moreL_first {l : List S30} {i : Int} (h : i ≤ 0) (hl : 0 < l.length) : R3 (moreL l) i = { R3 l i with f5 := (R3 l i).f5 ++ [popI] } := by
  unfold R3
  have : i.toNat = 0 := by omega
  rw [this]
  cases l with
  | nil => simp at hl
  | cons f r => rfl
theorem moreL_wide {l0 : List S30} {l1 : List S36} (hl : 0 < l0.length) : Wide l0 (moreL l0) l1 l1 := by
  have e : ∀ i : Int, R3 (moreL l0) i = R3 l0 i ∨ R3 (moreL l0) i = { R3 l0 i with f5 := (R3 l0 i).f5 ++ [popI] } := fun i => by
    by_cases h : 0 < i
    · exact .inl (moreL_far h)
    · exact .inr (moreL_first (by omega) hl)
  refine ⟨moreL_length _, fun i => ?_, fun i => ?_, fun i => ?_, fun i => ?_, fun i => ?_, fun i j h0 h1 => ?_, Int.le_refl _⟩
  · rcases e i with h | h <;> rw [h]
  · rcases e i with h | h <;> rw [h]
  · rcases e i with h | h <;> rw [h]
  · rcases e i with h | h <;> rw [h] <;> exact Int.le_refl _
  · rcases e i with h | h <;> rw [h]
    · exact Nat.le_refl _
    · simp
  · rcases e i with h | h <;> rw [h]
    exact rd56_more h0 h1 _
theorem moreL_sum {l0 : List S30} (hl : 0 < l0.length) : sumFrom (moreL l0) 0 = sumFrom l0 0 + 1 := by
  cases l0 with
  | nil => simp at hl
  | cons f r =>
    unfold sumFrom moreL
    simp only [Int.toNat_zero, List.drop_zero, List.map_cons, List.sum_cons, List.length_append, List.length_cons, List.length_nil]
    omega
theorem plainF_wide {l0 l0' : List S30} {l1 l1' : List S36} (H : Wide l0 l0' l1 l1') (i n : Int) : plainF l0' i n = plainF l0 i n := by
  unfold plainF
  simp only [H.len, H.f1]
theorem shape_more {l0 : List S30} {l1 : List S36} (hl : 0 < l0.length) {i : Int} (hs : code_program_shape.f l0 l1 i = some true) (hne : (R3 l0 i).f5.length ≠ 0) : code_program_shape.f (moreL l0) l1 i = some true := by
  have H := moreL_wide (l1 := l1) hl
  have hne' : (R3 (moreL l0) i).f5.length ≠ 0 := by have := H.f5 i; omega
  have f4 : (R3 (moreL l0) i).f4 = (R3 l0 i).f4 := by
    by_cases h : 0 < i
    · rw [moreL_far h]
    · rw [moreL_first (by omega) hl]
  have n1 : ¬ ((R3 l0 i).f5.length : Int) = 0 := by omega
  have n2 : ¬ ((R3 (moreL l0) i).f5.length : Int) = 0 := by omega
  unfold code_program_shape.f at hs ⊢
  simp only [H.len, H.f1, H.f2, H.f3, f4, plainF_wide H, n1, n2, if_false] at hs ⊢
  exact hs
theorem pop_names : Ev (fun k => code_names.f k 3) (false, false, false, false) := by
  refine ⟨2, fun k hk => ?_⟩
  obtain ⟨m, rfl⟩ : ∃ m, k = m + 2 := ⟨k - 2, by omega⟩
  simp [code_names.f, code_names.j0, code_names.j1]
theorem pop_may {l0 : List S30} {l1 : List S36} {i j : Int} (h0 : 0 ≤ i) (h1 : i < (l0.length : Int)) (g0 : 0 ≤ j) (g1 : j < ((R3 l0 i).f5.length : Int)) (hp : R6 (R3 l0 i).f5 j = popI) : Ev (fun k => mY.f k l0 l1 i j) true := by
  unfold mY.f
  simp only [hp]
  refine Ev.ite_pos h0 (Ev.ite_pos h1 (Ev.ite_pos g0 (Ev.ite_pos g1 (Ev.bind pop_names ?_))))
  refine ⟨5, fun k hk => ?_⟩
  obtain ⟨m, rfl⟩ : ∃ m, k = m + 5 := ⟨k - 5, by omega⟩
  simp [popI, z56, mY.j0, mY.j1, mY.j2, mY.j3, mY.j4]
theorem heights_first {l0 : List S30} {l1 : List S36} {hs : List Int} (hl : 0 < l0.length) (hne : (R3 l0 0).f5.length ≠ 0) (hb : (R3 l0 0).f5.length < 17592186044416) (h : Ev (fun k => cHt.f k l0 l1 0) (hs, true)) :
    Ev (fun k => cHt.f k (moreL l0) l1 0) (hs ++ [-1], true) := by
  obtain ⟨K, h⟩ := h
  refine ⟨K + 1, fun k hk => ?_⟩
  obtain ⟨m, rfl⟩ : ∃ m, k = m + 1 := ⟨k - 1, by omega⟩
  have h' : cHt.f m l0 l1 0 = some (hs, true) := h m (by omega)
  show cHt.f (m + 1) (moreL l0) l1 0 = some (hs ++ [-1], true)
  unfold cHt.f at h' ⊢
  rw [if_pos (Int.le_refl 0), if_pos (by omega), if_neg hne, if_pos (by omega)] at h'
  rw [moreL_length, moreL_first (Int.le_refl 0) hl]
  rw [if_pos (Int.le_refl 0), if_pos (by omega), if_neg (by simp), if_pos (by simp; omega)]
  have e : (List.replicate ((R3 l0 0).f5 ++ [popI]).length (-1 : Int)).set 0 1 = (List.replicate (R3 l0 0).f5.length (-1 : Int)).set 0 1 ++ [-1] := by
    rw [List.length_append, List.length_singleton, List.replicate_succ', List.set_append_left _ _ (by simp; omega)]
  simp only [e]
  exact heights_more popI m _ _ _ 0 (by omega) (by simp) (Int.le_refl 0) h'
theorem moreL_cond {l0 : List S30} {l1 : List S36} (hb : ∀ i : Int, 0 ≤ i → i < (l0.length : Int) → (R3 l0 i).f5.length < 17592186044416) (C : Cond l0 l1) (hS : ∀ i : Int, 0 ≤ i → i < (l0.length : Int) → Shp l0 i) (hn : sumFrom l0 0 < 262144) : Cond (moreL l0) l1 := by
  have hlo := C.lo
  have hl : 0 < l0.length := by omega
  have H := moreL_wide (l1 := l1) hl
  have len := moreL_length l0
  refine ⟨by rw [len]; exact C.lo, by rw [len]; exact C.hi, by rw [H.f1]; exact C.of, by rw [H.f2]; exact C.out, by rw [H.f3]; exact C.par, by rw [moreL_sum hl]; omega, ?_, C.rgt, ?_, ?_⟩
  · intro i h0 h1
    rw [len] at h1
    exact shape_more hl (C.shp i h0 h1) (hS i h0 h1).ne
  · intro i h0 h1 j g0 g1
    rw [len] at h1
    by_cases hj : j < ((R3 l0 i).f5.length : Int)
    · obtain ⟨K, hK⟩ := C.may i h0 h1 j g0 hj
      exact ⟨K, fun k hk => may_le H k g0 hj (hK k hk)⟩
    · have hi : ¬ 0 < i := fun h => by rw [moreL_far h] at g1; exact hj g1
      rw [moreL_first (by omega) hl] at g1
      have ej : j = ((R3 l0 i).f5.length : Int) := by simp at g1; omega
      refine pop_may h0 (by rw [len]; exact h1) g0 (by rw [moreL_first (by omega) hl]; exact g1) ?_
      rw [moreL_first (by omega) hl, ej]
      unfold R6
      simp [List.getD_eq_getElem?_getD]
  · intro i h0 h1
    rw [len] at h1
    obtain ⟨hs, hE⟩ := C.hgt i h0 h1
    by_cases hi : 0 < i
    · obtain ⟨K, hK⟩ := hE
      refine ⟨hs, K, fun k hk => ?_⟩
      have e : cHt.f k l0 l1 i = some (hs, true) := hK k hk
      show cHt.f k (moreL l0) l1 i = some (hs, true)
      rw [← e]
      unfold cHt.f
      rw [len, moreL_far hi]
    · have : i = 0 := by omega
      subst this
      exact ⟨hs ++ [-1], heights_first hl (hS 0 h0 h1).ne (hb 0 h0 h1) hE⟩
end Go.Proofs.YtlbcnacfgickcaaGreatDoor.A
