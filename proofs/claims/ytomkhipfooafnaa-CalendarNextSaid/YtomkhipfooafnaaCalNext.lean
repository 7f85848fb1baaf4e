/- CalendarNext, the law: from its ways and the arithmetic of following days. -/
import Derived.Test.YtomkhipfooafnaaHandNextA
import Derived.Test.YtomkhipfooafnaaHandNextAx
import Derived.Test.YtomkhipfooafnaaHandNextBx
import Derived.Test.YtomkhipfooafnaaHandNextSx
set_option linter.unusedVariables false
namespace Go.Proofs.Ytomkhipfooafnaa.P
open Go.RowKit Go.Proofs.YtomkhipfooafnaaW.PrintWords Go.Proofs.YtomkhipfooafnaaW.FM Go.Proofs.Ytomkhipfooafnaa.Cal
theorem date_in (n : Int) (h0 : -4371587 ≤ n) (h1 : n ≤ 2932896) : calendar_Date.f 500 n = some (dateY n, dateM n, dateD n, 0) := by
  rw [date_eq 500 (by omega)]
  unfold dateAll
  rw [if_neg (by omega)]
theorem date_out (n : Int) (h : n < -4371587 ∨ n > 2932896) : calendar_Date.f 500 n = some (0, 0, 0, 110) := by
  rw [date_eq 500 (by omega)]
  unfold dateAll
  rw [if_pos h]
theorem weeks_in (n : Int) (h0 : -4371587 ≤ n) (h1 : n ≤ 2932896) : calendar_Weeks.f 500 n = some (isoOf n, weekOf n, sunOf n, monOf n, 0) := by
  rw [weeks_eq 500 (by omega)]
  unfold weeksAll
  rw [if_neg (by omega)]
theorem week_bd (n : Int) (h0 : -4371587 ≤ n) (h1 : n ≤ 2932896) : -20000 ≤ isoOf n ∧ isoOf n ≤ 20000 ∧ 0 ≤ weekOf n ∧ weekOf n ≤ 1000 := by
  obtain ⟨a, b⟩ := iso_spec n h0 h1
  have s := begin_succ (isoOf n)
  have y := yl_bd (leap (isoOf n))
  have hy := dateY_bd n h0 h1
  have hw : weekOf n = (thu n - begin_ (isoOf n) 0) / 7 + 1 := rfl
  refine ⟨?_, ?_, by omega, by omega⟩ <;> (unfold isoOf; repeat' split) <;> omega
theorem next_law (n : Int) (w : World) : Calls Try.prog 8 #[.int .i64 n] w fun e w' => e = .returned (.bool true) ∧ Below w.heap.size w w' := by
  by_cases ho : n < -4371587 ∨ n > 2932896
  · exact next_out n (date_out n ho) w
  have n0 : -4371587 ≤ n := by omega
  have n1 : n ≤ 2932896 := by omega
  have hd := date_in n n0 n1
  obtain ⟨m0, m1, d0, d1⟩ := date_valid n
  have hy := dateY_bd n n0 n1
  have hl := len_bd (leap (dateY n)) (dateM n)
  obtain ⟨r6, r8, hs⟩ := split_day n n0 n1
  by_cases hlast : n = 2932896
  · exact next_last n _ _ _ _ 0 r8 0 r6 0 n0 n1 hy.1 hy.2 m0 m1 d0 (by omega) hd hs (date_out _ (by omega)) (by rw [beq_iff_eq]; exact hlast) (date_out _ (by omega)) w
  have n2 : n + 1 ≤ 2932896 := by omega
  have hd2 := date_in (n + 1) (by omega) n2
  obtain ⟨r6', r8', hs2⟩ := split_day (n + 1) (by omega) n2
  have hw1 := weeks_in n n0 n1
  have hw2 := weeks_in (n + 1) (by omega) n2
  obtain ⟨ib0, ib1, kb0, kb1⟩ := week_bd n n0 n1
  have hlen := length_eq (dateY n) (dateM n)
  have hla : lenAll (dateY n) (dateM n) = len (leap (dateY n)) (dateM n) := by unfold lenAll; rw [if_neg (by omega)]
  rw [hla] at hlen
  have v2 := date_valid (n + 1)
  have hnext := date_next n
  have hweek := week_next n n0 n2
  have h400 := date_400 n
  have hfar : calendar_Date.f 500 (n + 146097) = some (dateY n + 400, dateM n, dateD n, 0) ∨ calendar_Date.f 500 (n + 146097) = some (0, 0, 0, 110) := by
    by_cases h : n + 146097 ≤ 2932896
    · left; rw [date_in _ (by omega) h, h400.1, h400.2.1, h400.2.2]
    · right; exact date_out _ (by omega)
  rcases hnext with ⟨a1, a2, a3⟩ | ⟨a0, a00, a1, a2, a3⟩ | ⟨a0, a00, a1, a2, a3⟩
  · rw [a1, a2, a3] at hd2 hs2
    have hL : (dateD n == len (leap (dateY n)) (dateM n)) = false := by rw [beq_eq_false_iff_ne]; rw [a1, a2, a3] at v2; omega
    rcases hweek with ⟨b1, b2, b3⟩ | ⟨b1, b2, b3⟩ | ⟨b1, b2, b3, b4⟩
    · rw [b2, b3] at hw2
      have hwd : ((n + 1 + 4) % 7 == ((n + 4) % 7 + 1) % 7) = true := by rw [beq_iff_eq]; omega
      have hnm : ((n + 1 + 4) % 7 == 1) = false := by rw [beq_eq_false_iff_ne]; exact b1
      have hnm' : ((n + 1 + 4) % 7 != 1) = true := by rw [bne_iff_ne]; exact b1
      rcases hfar with hz | hz
      · exact next_s1f n _ _ _ _ _ r8 r8' _ _ _ _ _ _ r6 r6' n0 n2 hy.1 hy.2 m0 m1 d0 (by omega) ib0 ib1 kb0 kb1 hd hs hz hd2 hs2 _ hL hlen (by omega) (by omega) hwd hnm hnm' hw1 hw2 w
      · exact next_s1n n _ _ _ _ _ r8 r8' _ _ _ _ _ _ r6 r6' n0 n2 hy.1 hy.2 m0 m1 d0 (by omega) ib0 ib1 kb0 kb1 hd hs hz hd2 hs2 _ hL hlen (by omega) (by omega) hwd hnm hnm' hw1 hw2 w
    · rw [b2, b3] at hw2
      have b0 : (n + 4) % 7 = 0 := by omega
      rw [b0] at hs
      rw [b1] at hs2
      rcases hfar with hz | hz
      · exact next_s2f n _ _ _ r8 r8' _ _ _ _ _ _ r6 r6' n0 n2 hy.1 hy.2 m0 m1 d0 (by omega) ib0 ib1 kb0 kb1 hd hs hz hd2 hs2 _ hL hlen  hw1 hw2 w
      · exact next_s2n n _ _ _ r8 r8' _ _ _ _ _ _ r6 r6' n0 n2 hy.1 hy.2 m0 m1 d0 (by omega) ib0 ib1 kb0 kb1 hd hs hz hd2 hs2 _ hL hlen  hw1 hw2 w
    · rw [b2, b3] at hw2
      have b0 : (n + 4) % 7 = 0 := by omega
      rw [b0] at hs
      rw [b1] at hs2
      rcases hfar with hz | hz
      · exact next_s3f n _ _ _ r8 r8' _ _ _ _ _ _ r6 r6' n0 n2 hy.1 hy.2 m0 m1 d0 (by omega) ib0 ib1 kb0 kb1 hd hs hz hd2 hs2 _ hL hlen b4 hw1 hw2 w
      · exact next_s3n n _ _ _ r8 r8' _ _ _ _ _ _ r6 r6' n0 n2 hy.1 hy.2 m0 m1 d0 (by omega) ib0 ib1 kb0 kb1 hd hs hz hd2 hs2 _ hL hlen b4 hw1 hw2 w
  · rw [a1, a2, a3] at hd2 hs2
    rw [← a0] at hlen
    rcases hweek with ⟨b1, b2, b3⟩ | ⟨b1, b2, b3⟩ | ⟨b1, b2, b3, b4⟩
    · rw [b2, b3] at hw2
      have hwd : ((n + 1 + 4) % 7 == ((n + 4) % 7 + 1) % 7) = true := by rw [beq_iff_eq]; omega
      have hnm : ((n + 1 + 4) % 7 == 1) = false := by rw [beq_eq_false_iff_ne]; exact b1
      have hnm' : ((n + 1 + 4) % 7 != 1) = true := by rw [bne_iff_ne]; exact b1
      rcases hfar with hz | hz
      · exact next_a1f n _ _ _ _ _ r8 r8' _ _ _ _ _ _ r6 r6' n0 n2 hy.1 hy.2 m0 m1 d0 (by omega) ib0 ib1 kb0 kb1 hd hs hz hd2 hs2 hlen (by omega) (by omega) hwd hnm hnm' hw1 hw2 w
      · exact next_a1n n _ _ _ _ _ r8 r8' _ _ _ _ _ _ r6 r6' n0 n2 hy.1 hy.2 m0 m1 d0 (by omega) ib0 ib1 kb0 kb1 hd hs hz hd2 hs2 hlen (by omega) (by omega) hwd hnm hnm' hw1 hw2 w
    · rw [b2, b3] at hw2
      have b0 : (n + 4) % 7 = 0 := by omega
      rw [b0] at hs
      rw [b1] at hs2
      rcases hfar with hz | hz
      · exact next_a2f n _ _ _ r8 r8' _ _ _ _ _ _ r6 r6' n0 n2 hy.1 hy.2 m0 m1 d0 (by omega) ib0 ib1 kb0 kb1 hd hs hz hd2 hs2 hlen  hw1 hw2 w
      · exact next_a2n n _ _ _ r8 r8' _ _ _ _ _ _ r6 r6' n0 n2 hy.1 hy.2 m0 m1 d0 (by omega) ib0 ib1 kb0 kb1 hd hs hz hd2 hs2 hlen  hw1 hw2 w
    · rw [b2, b3] at hw2
      have b0 : (n + 4) % 7 = 0 := by omega
      rw [b0] at hs
      rw [b1] at hs2
      rcases hfar with hz | hz
      · exact next_a3f n _ _ _ r8 r8' _ _ _ _ _ _ r6 r6' n0 n2 hy.1 hy.2 m0 m1 d0 (by omega) ib0 ib1 kb0 kb1 hd hs hz hd2 hs2 hlen b4 hw1 hw2 w
      · exact next_a3n n _ _ _ r8 r8' _ _ _ _ _ _ r6 r6' n0 n2 hy.1 hy.2 m0 m1 d0 (by omega) ib0 ib1 kb0 kb1 hd hs hz hd2 hs2 hlen b4 hw1 hw2 w
  · rw [a1, a2, a3] at hd2 hs2
    rw [← a0] at hlen
    rw [a00] at hd hs hlen hfar
    rcases hweek with ⟨b1, b2, b3⟩ | ⟨b1, b2, b3⟩ | ⟨b1, b2, b3, b4⟩
    · rw [b2, b3] at hw2
      have hwd : ((n + 1 + 4) % 7 == ((n + 4) % 7 + 1) % 7) = true := by rw [beq_iff_eq]; omega
      have hnm : ((n + 1 + 4) % 7 == 1) = false := by rw [beq_eq_false_iff_ne]; exact b1
      have hnm' : ((n + 1 + 4) % 7 != 1) = true := by rw [bne_iff_ne]; exact b1
      rcases hfar with hz | hz
      · exact next_b1f n _ _ _ _ r8 r8' _ _ _ _ _ _ r6 r6' n0 n2 hy.1 hy.2 d0 (by omega) ib0 ib1 kb0 kb1 hd hs hz hd2 hs2 hlen (by omega) (by omega) hwd hnm hnm' hw1 hw2 w
      · exact next_b1n n _ _ _ _ r8 r8' _ _ _ _ _ _ r6 r6' n0 n2 hy.1 hy.2 d0 (by omega) ib0 ib1 kb0 kb1 hd hs hz hd2 hs2 hlen (by omega) (by omega) hwd hnm hnm' hw1 hw2 w
    · rw [b2, b3] at hw2
      have b0 : (n + 4) % 7 = 0 := by omega
      rw [b0] at hs
      rw [b1] at hs2
      rcases hfar with hz | hz
      · exact next_b2f n _ _ r8 r8' _ _ _ _ _ _ r6 r6' n0 n2 hy.1 hy.2 d0 (by omega) ib0 ib1 kb0 kb1 hd hs hz hd2 hs2 hlen  hw1 hw2 w
      · exact next_b2n n _ _ r8 r8' _ _ _ _ _ _ r6 r6' n0 n2 hy.1 hy.2 d0 (by omega) ib0 ib1 kb0 kb1 hd hs hz hd2 hs2 hlen  hw1 hw2 w
    · rw [b2, b3] at hw2
      have b0 : (n + 4) % 7 = 0 := by omega
      rw [b0] at hs
      rw [b1] at hs2
      rcases hfar with hz | hz
      · exact next_b3f n _ _ r8 r8' _ _ _ _ _ _ r6 r6' n0 n2 hy.1 hy.2 d0 (by omega) ib0 ib1 kb0 kb1 hd hs hz hd2 hs2 hlen b4 hw1 hw2 w
      · exact next_b3n n _ _ r8 r8' _ _ _ _ _ _ r6 r6' n0 n2 hy.1 hy.2 d0 (by omega) ib0 ib1 kb0 kb1 hd hs hz hd2 hs2 hlen b4 hw1 hw2 w
end Go.Proofs.Ytomkhipfooafnaa.P
