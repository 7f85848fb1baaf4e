/- CalendarBack, the law in plain arithmetic. -/
import Derived.Test.YtomkhipfooafnaaCalBackMath
import Derived.Test.YtomkhipfooafnaaBackP
set_option linter.unusedVariables false
namespace Go.Proofs.Ytomkhipfooafnaa.P
open Go.RowKit Go.Proofs.YtomkhipfooafnaaW.PrintWords Go.Proofs.YtomkhipfooafnaaW.FM Go.Proofs.Ytomkhipfooafnaa.Cal Ieee
theorem key60 : fkey 4633641066610819072 = some (60 * TOP) := by decide +kernel
theorem key0 : fkey 0 = some 0 := by decide +kernel
/-- the time is inside its ranges, and its second is whole -/
def insideT (a1 a2 a3 a4 : Int) (y : Int) (a5 : Nat) : Prop := 0 ≤ a1 ∧ a1 ≤ 11 ∧ 1 ≤ a2 ∧ a2 ≤ lenAll y a1 ∧ 0 ≤ a3 ∧ a3 ≤ 23 ∧ 0 ≤ a4 ∧ a4 ≤ 59 ∧ ∃ v, fkey a5 = some v ∧ 0 ≤ v ∧ v < 60 * TOP ∧ fkey (wholeV .down a5) = some v
theorem j4_true (k : Nat) (s a0 a1 a2 a3 a4 : Int) (a5 : Nat) (a6 a7 : Int) : colanderlaw11_CalendarBack.j4 (k + 1) s true a0 a1 a2 a3 a4 a5 a6 a7 = some true := by
  rw [colanderlaw11_CalendarBack.j4, if_pos rfl]
  rfl
theorem j4_in (k : Nat) (hk : 500 ≤ k) (a0 a1 a2 a3 a4 : Int) (a5 : Nat) (a6 a7 : Int) (hj : joinable a0 a1 a2 a3 a4 a5) (hi : insideT a1 a2 a3 a4 a0 a5) :
    colanderlaw11_CalendarBack.j4 (k + 1) (secs a0 a1 a2 a3 a4 a5) false a0 a1 a2 a3 a4 a5 a6 a7 = some true := by
  have tp := top_pos
  obtain ⟨i0, i1, i2, i3, i4, i5, i6, i7, v, hv, v0, v1, hw⟩ := hi
  obtain ⟨f0, f1, f2, f3, f4, f5, y0, y1, n0, n1⟩ := hj
  have hla : lenAll a0 a1 = len (leap a0) a1 := by unfold lenAll; rw [if_neg (by omega)]
  rw [hla] at i3
  obtain ⟨_, _, _, _, s0, s1, q7, _⟩ := floor_ok 1000000000 (by omega) (by omega) a5 v hv (by omega) (by omega)
  rw [q7] at hw
  have hq : secOf a5 * TOP = v := by simpa using hw
  have hs0 : 0 ≤ secOf a5 := by
    have : 0 * TOP ≤ secOf a5 * TOP := by omega
    exact Int.le_of_mul_le_mul_right this tp
  have hs1 : secOf a5 < 60 := by
    have : secOf a5 * TOP < 60 * TOP := by omega
    exact Int.lt_of_mul_lt_mul_right this (by omega)
  have d12 : a0 + a1 / 12 = a0 := by omega
  have m12 : a1 % 12 = a1 := by omega
  have hsec : secs a0 a1 a2 a3 a4 a5 = (begin_ a0 a1 + a2 - 1) * 86400 + a3 * 3600 + a4 * 60 + secOf a5 := by unfold secs; rw [d12, m12]
  rw [hsec] at n0 n1 ⊢
  generalize hS : (begin_ a0 a1 + a2 - 1) * 86400 + a3 * 3600 + a4 * 60 + secOf a5 = S at *
  have hn : S / 86400 = begin_ a0 a1 + a2 - 1 := by omega
  have e3 : S % 86400 / 3600 = a3 := by omega
  have e4 : S % 86400 / 60 % 60 = a4 := by omega
  have e5 : S % 86400 % 60 = secOf a5 := by omega
  obtain ⟨g0, g1, g2⟩ := date_is (S / 86400) a0 a1 a2 i0 i1 i2 i3 hn.symm
  obtain ⟨r6, hr, hr6, _⟩ := split_back S n0 n1
  rw [g0, g1, g2, e3, e4] at hr
  rw [e5, hq] at hr6
  rw [colanderlaw11_CalendarBack.j4, if_neg (by decide), split_more k hk hr]
  simp only [Option.bind_some]
  have he : (FloatKind.f64.format.order r6 a5 == some Ordering.eq) = true := by rw [ord_eqq, hr6, hv]; simp
  rw [if_pos trivial, if_pos trivial, if_pos trivial, if_pos trivial, if_pos trivial, if_pos trivial, if_pos he]
  rfl
theorem j3_law (k : Nat) (hk : 502 ≤ k) (c : Bool) (a0 a1 a2 a3 a4 : Int) (a5 : Nat) (a6 a7 : Int) (hc : c = true → insideT a1 a2 a3 a4 a0 a5) :
    colanderlaw11_CalendarBack.j3 k (joinAll a0 a1 a2 a3 a4 a5).1 (joinAll a0 a1 a2 a3 a4 a5).2 c a0 a1 a2 a3 a4 a5 a6 a7 = some true := by
  obtain ⟨k, rfl⟩ : ∃ j, k = j + 1 := ⟨k - 1, by omega⟩
  obtain ⟨k, rfl⟩ : ∃ j, k = j + 1 := ⟨k - 1, by omega⟩
  rw [colanderlaw11_CalendarBack.j3]
  by_cases hj : joinable a0 a1 a2 a3 a4 a5
  · rw [joinAll_yes hj, if_pos rfl]
    cases c
    · exact j4_true _ _ _ _ _ _ _ _ _ _
    · exact j4_in _ (by omega) _ _ _ _ _ _ _ _ hj (hc rfl)
  · rw [joinAll_no hj, if_neg (by decide)]
    exact j4_true _ _ _ _ _ _ _ _ _ _
theorem j2_law (k : Nat) (hk : 504 ≤ k) (a0 a1 a2 a3 a4 : Int) (a5 : Nat) (a6 a7 : Int) (h5 : a5 < 18446744073709551616) :
    colanderlaw11_CalendarBack.j2 k a0 a1 a2 a3 a4 a5 a6 a7 = some true := by
  obtain ⟨k, rfl⟩ : ∃ j, k = j + 1 := ⟨k - 1, by omega⟩
  rw [colanderlaw11_CalendarBack.j2, join_eq _ _ _ _ _ _ _ _ h5]
  simp only [Option.bind_some, length_eq]
  have no := j3_law k (by omega) false a0 a1 a2 a3 a4 a5 a6 a7 (by simp)
  by_cases c1 : a1 ≥ 0
  · rw [if_pos c1]
    by_cases c2 : a1 ≤ 11
    · rw [if_pos c2]
      by_cases c3 : a2 ≥ 1
      · rw [if_pos c3]
        by_cases c4 : a2 ≤ lenAll a0 a1
        · rw [if_pos c4]
          by_cases c5 : a3 ≥ 0
          · rw [if_pos c5]
            by_cases c6 : a3 ≤ 23
            · rw [if_pos c6]
              by_cases c7 : a4 ≥ 0
              · rw [if_pos c7]
                by_cases c8 : a4 ≤ 59
                · rw [if_pos c8]
                  by_cases c9 : (FloatKind.f64.format.order a5 0 == some Ordering.gt || FloatKind.f64.format.order a5 0 == some Ordering.eq) = true
                  · rw [if_pos c9]
                    by_cases c10 : (FloatKind.f64.format.order a5 4633641066610819072 == some Ordering.lt) = true
                    · rw [if_pos c10]
                      rw [ord_ge, key0] at c9
                      rw [ord_lt, key60] at c10
                      cases hv : fkey a5 with
                      | none => rw [hv] at c9; simp at c9
                      | some v =>
                        rw [hv] at c9 c10
                        simp only [decide_eq_true_eq] at c9 c10
                        rw [(floor_cases a5 (ok_of_key hv)).1]
                        simp only [Option.bind_some]
                        refine j3_law k (by omega) _ a0 a1 a2 a3 a4 a5 a6 a7 (fun h => ⟨c1, c2, c3, c4, c5, c6, c7, c8, v, hv, c9, c10, ?_⟩)
                        rw [ord_eqq, hv] at h
                        cases hw : fkey (wholeV .down a5) with
                        | none => rw [hw] at h; simp at h
                        | some u => rw [hw] at h; simp only [decide_eq_true_eq] at h; rw [h]
                    · rw [if_neg c10]; exact no
                  · rw [if_neg c9]; exact no
                · rw [if_neg c8]; exact no
              · rw [if_neg c7]; exact no
            · rw [if_neg c6]; exact no
          · rw [if_neg c5]; exact no
        · rw [if_neg c4]; exact no
      · rw [if_neg c3]; exact no
    · rw [if_neg c2]; exact no
  · rw [if_neg c1]; exact no
theorem day_eq (n : Int) (h0 : -4371587 ≤ n) (h1 : n ≤ 2932896) : calendar_Day.f (dateY n) (dateM n) (dateD n) = some (n, 0) := by
  have hy := dateY_bd n h0 h1
  obtain ⟨m0, m1, d0, d1⟩ := date_valid n
  have hl := len_bd (leap (dateY n)) (dateM n)
  unfold calendar_Day.f
  have hla : lenAll (dateY n) (dateM n) = len (leap (dateY n)) (dateM n) := by unfold lenAll; rw [if_neg (by omega)]
  rw [if_neg (by omega), if_neg (by omega), if_neg (by omega), length_eq, hla]
  simp only [Option.bind_some]
  rw [if_neg (by omega), number_eq _ _ _ (by omega) (by omega) m0 m1 (by omega) (by omega), date_num]
  rfl
theorem j0_in (k : Nat) (hk : 506 ≤ k) (s : Int) (h0 : -4371587 ≤ s / 86400) (h1 : s / 86400 ≤ 2932896) (r6 : Nat) (hr6 : fkey r6 = some (s % 86400 % 60 * TOP)) (hl6 : r6 < 18446744073709551616)
    (a0 a1 a2 a3 a4 : Int) (a5 : Nat) (a6 a7 : Int) (h5 : a5 < 18446744073709551616) (r8 : Int) :
    colanderlaw11_CalendarBack.j0 k s true a0 a1 a2 a3 a4 a5 a6 a7 (dateY (s / 86400)) (dateM (s / 86400)) (dateD (s / 86400)) (s % 86400 / 3600) (s % 86400 / 60 % 60) r6 ((s / 86400 + 4) % 7) r8 = some true := by
  have tp := top_pos
  obtain ⟨k, rfl⟩ : ∃ j, k = j + 1 := ⟨k - 1, by omega⟩
  obtain ⟨k, rfl⟩ : ∃ j, k = j + 1 := ⟨k - 1, by omega⟩
  have hy := dateY_bd _ h0 h1
  obtain ⟨m0, m1, d0, d1⟩ := date_valid (s / 86400)
  have hl := len_bd (leap (dateY (s / 86400))) (dateM (s / 86400))
  have hb := date_begin (s / 86400)
  have hs6 : secOf r6 = s % 86400 % 60 := secOf_of (by omega) (by omega) hr6
  have d12 : dateY (s / 86400) + dateM (s / 86400) / 12 = dateY (s / 86400) := by omega
  have m12 : dateM (s / 86400) % 12 = dateM (s / 86400) := by omega
  have hsec : secs (dateY (s / 86400)) (dateM (s / 86400)) (dateD (s / 86400)) (s % 86400 / 3600) (s % 86400 / 60 % 60) r6 = s := by
    unfold secs
    rw [d12, m12, hs6, hb]
    omega
  have hj : joinable (dateY (s / 86400)) (dateM (s / 86400)) (dateD (s / 86400)) (s % 86400 / 3600) (s % 86400 / 60 % 60) r6 := by
    unfold joinable fitI within
    rw [hsec, d12]
    refine ⟨by omega, by omega, by omega, by omega, by omega, ⟨_, hr6, Int.mul_le_mul_of_nonneg_right (by omega) (by omega), Int.mul_le_mul_of_nonneg_right (by omega) (by omega)⟩, hy.1, hy.2, h0, h1⟩
  rw [colanderlaw11_CalendarBack.j0, if_pos rfl, join_eq _ _ _ _ _ _ _ _ hl6, joinAll_yes hj, hsec]
  simp only [Option.bind_some]
  rw [if_pos trivial]
  have hne : (s != s) = false := by simp
  rw [hne, colanderlaw11_CalendarBack.j1, if_neg (by decide), day_eq _ h0 h1]
  simp only [Option.bind_some]
  have hd : dateAll (s / 86400) = (dateY (s / 86400), dateM (s / 86400), dateD (s / 86400), 0) := by unfold dateAll; rw [if_neg (by omega)]
  rw [date_eq k (by omega), hd]
  simp only [Option.bind_some]
  rw [if_pos trivial, if_pos trivial, if_pos trivial, if_pos trivial, if_pos trivial, if_neg (by omega), if_neg (by omega)]
  exact j2_law k (by omega) _ _ _ _ _ _ _ _ h5
theorem j0_no (k : Nat) (hk : 506 ≤ k) (s x0 x1 x2 x3 x4 : Int) (x5 : Nat) (x6 x7 a0 a1 a2 a3 a4 : Int) (a5 : Nat) (a6 a7 : Int) (h5 : a5 < 18446744073709551616) :
    colanderlaw11_CalendarBack.j0 k s false a0 a1 a2 a3 a4 a5 a6 a7 x0 x1 x2 x3 x4 x5 x6 x7 = some true := by
  obtain ⟨k, rfl⟩ : ∃ j, k = j + 1 := ⟨k - 1, by omega⟩
  rw [colanderlaw11_CalendarBack.j0, if_neg (by decide)]
  exact j2_law k (by omega) _ _ _ _ _ _ _ _ h5
theorem CalendarBackPure (s a0 a1 a2 a3 a4 : Int) (a5 : Nat) (a6 a7 : Int) (h5 : a5 < 18446744073709551616) : colanderlaw11_CalendarBack.f 600 s a0 a1 a2 a3 a4 a5 a6 a7 = some true := by
  have tp := top_pos
  unfold colanderlaw11_CalendarBack.f
  rcases both (floatOfInt .f64 s) (ofInt_lt _) (ofInt_ok _) with ⟨h, _⟩ | ⟨r1, r2, r3, r4, r5, r6, r7, r8, h, _, he, n0, n1, _, _⟩
  · rw [split_more 600 (by omega) h]
    simp only [Option.bind_some]
    rw [if_neg (by decide)]
    exact j0_no 600 (by omega) _ _ _ _ _ _ _ _ _ _ _ _ _ _ _ _ _ h5
  · rw [split_more 600 (by omega) h]
    simp only [Option.bind_some]
    rw [if_pos trivial]
    by_cases c1 : s > (-1125899906842624)
    · rw [if_pos c1]
      by_cases c2 : s < 1125899906842624
      · rw [decide_eq_true c2]
        have hk := ofInt_key s (by omega) (by omega)
        have hs := secOf_of (by omega) (by omega) hk
        rw [hs] at n0 n1
        obtain ⟨r, hr, hr6, hl6⟩ := split_back s n0 n1
        rw [h] at hr
        simp only [Option.some.injEq, Prod.mk.injEq] at hr
        obtain ⟨rfl, rfl, rfl, rfl, rfl, rfl, rfl, rfl, _⟩ := hr
        exact j0_in 600 (by omega) s n0 n1 _ hr6 hl6 _ _ _ _ _ _ _ _ h5 _
      · rw [decide_eq_false c2]
        exact j0_no 600 (by omega) _ _ _ _ _ _ _ _ _ _ _ _ _ _ _ _ _ h5
    · rw [if_neg c1]
      exact j0_no 600 (by omega) _ _ _ _ _ _ _ _ _ _ _ _ _ _ _ _ _ h5
end Go.Proofs.Ytomkhipfooafnaa.P
