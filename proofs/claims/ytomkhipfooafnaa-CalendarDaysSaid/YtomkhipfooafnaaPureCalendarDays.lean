/- CalendarDays, the plain law: the number of every date, the date of every number, leap years and months' lengths are the reference's own.
   Conditions: none. -/
import Derived.Test.YtomkhipfooafnaaP12
import Derived.Test.YtomkhipfooafnaaCalFns
namespace Go.Proofs.Ytomkhipfooafnaa.Pure
open Go.RowKit Go.Proofs.Ytomkhipfooafnaa.P Go.Proofs.YtomkhipfooafnaaW.PrintWords Go.Proofs.YtomkhipfooafnaaW.PrintLast Go.Proofs.Ytomkhipfooafnaa.Cal
theorem day_eq (y m d : Int) : calendar_Day.f y m d = some (if y < -9999 ∨ y > 9999 ∨ d < 1 ∨ d > lenAll y m then (0, 110) else (begin_ y m + d - 1, 0)) := by
  unfold calendar_Day.f
  by_cases h1 : y < -9999
  · rw [if_pos h1, if_pos (Or.inl h1)]
  rw [if_neg h1]
  by_cases h2 : y > 9999
  · rw [if_pos h2, if_pos (Or.inr (Or.inl h2))]
  rw [if_neg h2]
  by_cases h3 : d < 1
  · rw [if_pos h3, if_pos (Or.inr (Or.inr (Or.inl h3)))]
  rw [if_neg h3, length_eq]
  simp only [Option.bind_some]
  by_cases h4 : d > lenAll y m
  · rw [if_pos h4, if_pos (Or.inr (Or.inr (Or.inr h4)))]
  rw [if_neg h4, if_neg (by omega)]
  have hm : 0 ≤ m ∧ m ≤ 11 := by unfold lenAll at h4; split at h4 <;> omega
  have hl := len_bd (leap y) m
  have hd : d ≤ 31 := by unfold lenAll at h4; split at h4 <;> omega
  rw [number_eq y m d (by omega) (by omega) hm.1 hm.2 (by omega) (by omega), num_begin y m d hm.1 hm.2]
  rfl
theorem rday_eq (k : Nat) (hk : 420 ≤ k) (y m d : Int) : colanderref11_Day.f k y m d = some (if y < -9999 ∨ y > 9999 ∨ d < 1 ∨ d > lenAll y m then (0, 110) else (begin_ y m + d - 1, 0)) := by
  have kn : colanderref11_known.f y = some (decide (-9999 ≤ y ∧ y ≤ 9999)) := by
    unfold colanderref11_known.f
    by_cases h : y ≥ -9999
    · rw [if_pos h]; congr 1; simp; omega
    · rw [if_neg h]; congr 1; symm; simp; omega
  unfold colanderref11_Day.f
  rw [kn]
  simp only [Option.bind_some]
  by_cases h1 : -9999 ≤ y ∧ y ≤ 9999
  · rw [if_pos (by simpa using h1)]
    by_cases h3 : d < 1
    · rw [if_pos h3, if_pos (Or.inr (Or.inr (Or.inl h3)))]
    rw [if_neg h3, rlength_eq k (by omega)]
    simp only [Option.bind_some]
    by_cases h4 : d > lenAll y m
    · rw [if_pos h4, if_pos (Or.inr (Or.inr (Or.inr h4)))]
    rw [if_neg h4, if_neg (by omega)]
    have hm : 0 ≤ m ∧ m ≤ 11 := by unfold lenAll at h4; split at h4 <;> omega
    have hl := len_bd (leap y) m
    have hd : d ≤ 31 := by unfold lenAll at h4; split at h4 <;> omega
    rw [begin_eq k hk y m (by omega) (by omega) hm.1 hm.2]
    have hb := begin_bd y m (by omega) (by omega) hm.1 hm.2
    simp only [Option.bind_some]
    rw [w64 (n := begin_ y m + d) (by omega) (by omega), w64 (by omega) (by omega)]
  · rw [if_neg (by simpa using h1), if_pos (by omega)]
theorem CalendarDays : colanderlaw11_CalendarDays.Pure := by
  intro a0 a1 a2 a3 _ _ _ _
  refine ⟨500, ?_⟩
  unfold colanderlaw11_CalendarDays.f
  rw [day_eq, rday_eq 500 (by omega), date_eq 500 (by omega), rdate_eq 500 (by omega), leap_eq, rleap_eq, length_eq, rlength_eq 500 (by omega)]
  simp [colanderlaw11_heads.f]
end Go.Proofs.Ytomkhipfooafnaa.Pure
