/- Whole seconds broken down and joined: the second's float is exact; the arithmetic of CalendarBack. -/
import Derived.Test.YtomkhipfooafnaaSplitAll
set_option linter.unusedVariables false
namespace Go.Proofs.Ytomkhipfooafnaa.P
open Go.RowKit Go.Proofs.YtomkhipfooafnaaW.PrintWords Go.Proofs.YtomkhipfooafnaaW.FM Go.Proofs.Ytomkhipfooafnaa.Cal Ieee
theorem sub_zero {x y : Nat} {s t : Bool} {m n : Nat} {i j : Int} (hx : Ieee.double.read x = .number s m i) (hy : Ieee.double.read y = .number t n j) (hk : num s m i = num t n j) : ∃ b, fval .sub x y = Ieee.double.word b 0 := by
  have hc := cmp_scale s t m n i j (read_number hx).1 (read_number hy).1
  rw [hk] at hc
  have he : signed s m (i - min i j).toNat = signed t n (j - min i j).toNat := by
    simp only [compare, compareOfLessAndEq] at hc
    generalize signed s m (i - min i j).toNat = u at *
    generalize signed t n (j - min i j).toNat = v at *
    by_cases h1 : u < v
    · rw [if_pos h1] at hc; simp at hc
    · rw [if_neg h1] at hc
      by_cases h2 : u = v
      · exact h2
      · rw [if_neg h2] at hc; simp at hc
  have ho : signed (!t) n (j - min i j).toNat = - signed t n (j - min i j).toNat := by
    unfold signed
    cases t <;> simp
  have g : (Datum.number s m i).sum (Datum.number t n j).opposite = some (.number (s && !t) 0 (min i j)) := by
    show some (Datum.number (if signed s m (i - min i j).toNat + signed (!t) n (j - min i j).toNat = 0 then s && !t else decide (signed s m (i - min i j).toNat + signed (!t) n (j - min i j).toNat < 0)) (signed s m (i - min i j).toNat + signed (!t) n (j - min i j).toNat).natAbs (min i j)) = _
    have h0 : signed s m (i - min i j).toNat + signed (!t) n (j - min i j).toNat = 0 := by rw [ho, he]; omega
    rw [h0, if_pos rfl]
    rfl
  refine ⟨s && !t, ?_⟩
  have h : floatBits .sub .f64 x y = some (Ieee.double.write (.number (s && !t) 0 (min i j))) := by
    show ((Ieee.double.read x).sum (Ieee.double.read y).opposite).map Ieee.double.write = _
    rw [hx, hy, g]
    rfl
  rw [(fok_of h).2]
  rfl
theorem add60 : (List.range 60).all (fun k => (fkey (fval .add (floatOfInt .f64 (k : Int)) (Ieee.double.word false 0)) == some ((k : Int) * TOP)) && (fkey (fval .add (floatOfInt .f64 (k : Int)) (Ieee.double.word true 0)) == some ((k : Int) * TOP)) &&
    decide (fval .add (floatOfInt .f64 (k : Int)) (Ieee.double.word false 0) < 18446744073709551616) && decide (fval .add (floatOfInt .f64 (k : Int)) (Ieee.double.word true 0) < 18446744073709551616)) = true := by decide +kernel
theorem add_zero60 (b : Bool) (k : Int) (h0 : 0 ≤ k) (h1 : k < 60) : fkey (fval .add (floatOfInt .f64 k) (Ieee.double.word b 0)) = some (k * TOP) ∧ fval .add (floatOfInt .f64 k) (Ieee.double.word b 0) < 18446744073709551616 := by
  obtain ⟨n, rfl⟩ := Int.eq_ofNat_of_zero_le h0
  have h := List.all_eq_true.1 add60 n (List.mem_range.2 (by omega))
  simp only [Bool.and_eq_true, beq_iff_eq, decide_eq_true_eq] at h
  cases b
  · exact ⟨h.1.1.1, h.1.2⟩
  · exact ⟨h.1.1.2, h.2⟩
theorem split_back (s : Int) (h0 : -4371587 ≤ s / 86400) (h1 : s / 86400 ≤ 2932896) : ∃ r6, calendar_Split.f 500 (floatOfInt .f64 s) = some (dateY (s / 86400), dateM (s / 86400), dateD (s / 86400), s % 86400 / 3600, s % 86400 / 60 % 60, r6, (s / 86400 + 4) % 7, s / 86400 - begin_ (dateY (s / 86400)) 0, 0) ∧
    fkey r6 = some (s % 86400 % 60 * TOP) ∧ r6 < 18446744073709551616 := by
  have tp := top_pos
  have hk := ofInt_key s (by omega) (by omega)
  have hs := secOf_of (by omega) (by omega) hk
  have b0 : -4503599627370496 * TOP ≤ s * TOP := Int.mul_le_mul_of_nonneg_right (by omega) (by omega)
  have b1 : s * TOP ≤ 4503599627370496 * TOP := Int.mul_le_mul_of_nonneg_right (by omega) (by omega)
  obtain ⟨h, _⟩ := split_in (floatOfInt .f64 s) (ofInt_lt _) (ofInt_ok _) _ hk b0 b1 (by rw [hs]; exact ⟨h0, h1⟩)
  obtain ⟨_, _, _, _, _, _, q7, _⟩ := floor_ok 4503599627370496 (by omega) (by omega) _ _ hk b0 b1
  rw [hs] at q7
  obtain ⟨s1, m1, e1, r1⟩ := num_read hk b0 b1 (by omega) (by omega)
  obtain ⟨s2, m2, e2, r2⟩ := num_read q7 b0 b1 (by omega) (by omega)
  have k1 : num s1 m1 e1 = s * TOP := by
    have h := hk
    unfold fkey at h
    rw [r1] at h
    simpa [key] using h
  have k2 : num s2 m2 e2 = s * TOP := by
    have h := q7
    unfold fkey at h
    rw [r2] at h
    simpa [key] using h
  obtain ⟨b, hb⟩ := sub_zero r1 r2 (k1.trans k2.symm)
  obtain ⟨a1, a2⟩ := add_zero60 b (s % 86400 % 60) (by omega) (by omega)
  refine ⟨fval .add (floatOfInt .f64 (s % 86400 % 60)) (fval .sub (floatOfInt .f64 s) (wholeV .down (floatOfInt .f64 s))), ?_, ?_, ?_⟩
  · rw [h]
    simp only [splitF, hs]
  · rw [hb]; exact a1
  · rw [hb]; exact a2
theorem split_more (k : Nat) (hk : 500 ≤ k) {x : Nat} {r : Int × Int × Int × Int × Int × Nat × Int × Int × Int} (h : calendar_Split.f 500 x = some r) : calendar_Split.f k x = some r := by
  obtain ⟨j, rfl⟩ := Nat.exists_eq_add_of_le hk
  exact more_rounds (g := fun k => calendar_Split.f k x) (calendar_Split.mono x) 500 j _ h
theorem ok_of_key {x : Nat} {v : Int} (hv : fkey x = some v) : wholeOk x = true := by
  unfold wholeOk
  rw [dec_eq]
  unfold fkey at hv
  cases hd : Ieee.double.read x with
  | nan a b => rw [hd] at hv; simp [key] at hv
  | number a b c => rfl
  | infinity a => rfl
end Go.Proofs.Ytomkhipfooafnaa.P
