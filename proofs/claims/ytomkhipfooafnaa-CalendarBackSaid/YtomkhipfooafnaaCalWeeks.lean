/- The weeks of a day, by the code and by the reference, in plain arithmetic. -/
import Derived.Test.YtomkhipfooafnaaP16
import Derived.Test.YtomkhipfooafnaaCalFns
set_option linter.unusedVariables false
namespace Go.Proofs.Ytomkhipfooafnaa.P
open Go.RowKit Go.Proofs.YtomkhipfooafnaaW.PrintWords Go.Proofs.Ytomkhipfooafnaa.Cal
def isoOf (n : Int) : Int := if n - (n + 3) % 7 + 3 < begin_ (dateY n) 0 then dateY n - 1 else if n - (n + 3) % 7 + 3 ≥ begin_ (dateY n + 1) 0 then dateY n + 1 else dateY n
def weekOf (n : Int) : Int := (n - (n + 3) % 7 + 3 - begin_ (isoOf n) 0) / 7 + 1
def sunOf (n : Int) : Int := (n - begin_ (dateY n) 0 + 7 - (n + 4) % 7) / 7
def monOf (n : Int) : Int := (n - begin_ (dateY n) 0 + 7 - (n + 3) % 7) / 7
def weeksAll (n : Int) : Int × Int × Int × Int × Int := if n < -4371587 ∨ n > 2932896 then (0, 0, 0, 0, 110) else (isoOf n, weekOf n, sunOf n, monOf n, 0)
theorem weekday_eq (n : Int) (h0 : -9000000000000000000 ≤ n) (h1 : n ≤ 9000000000000000000) : calendar_weekday.f n = some ((n + 4) % 7) := by
  unfold calendar_weekday.f
  rw [w64 (n := n + 4) (by omega) (by omega), divide_eq _ _ (by omega) (by omega) (by omega) (by omega)]
  rfl
theorem wday_eq (n : Int) (h0 : -9000000000000000000 ≤ n) (h1 : n ≤ 9000000000000000000) : colanderref11_wday.f n = some ((n + 4) % 7) := weekday_eq n h0 h1
theorem num1 (y : Int) (h0 : -20000 ≤ y) (h1 : y ≤ 20000) : calendar_number.f y 0 1 = some (begin_ y 0) := by
  rw [number_eq y 0 1 h0 h1 (by omega) (by omega) (by omega) (by omega), num_begin y 0 1 (by omega) (by omega)]
  congr 1
  omega
theorem in_year (n : Int) (h0 : -4371587 ≤ n) (h1 : n ≤ 2932896) : begin_ (dateY n) 0 ≤ n ∧ n < begin_ (dateY n + 1) 0 := by
  obtain ⟨a, b, c, d⟩ := date_valid n
  have := begin_lt _ _ _ a b c d
  rw [date_begin] at this
  exact this
theorem weeks_eq (k : Nat) (hk : 1 ≤ k) (n : Int) : calendar_Weeks.f k n = some (weeksAll n) := by
  unfold calendar_Weeks.f weeksAll
  rw [date_eq k hk]
  unfold dateAll
  by_cases ho : n < -4371587 ∨ n > 2932896
  · simp only [if_pos ho, Option.bind_some]
    rw [if_neg (by decide)]
  · simp only [if_neg ho, Option.bind_some]
    have hy := dateY_bd n (by omega) (by omega)
    have hin := in_year n (by omega) (by omega)
    rw [if_pos trivial, weekday_eq n (by omega) (by omega), num1 _ (by omega) (by omega)]
    simp only [Option.bind_some]
    have hm : Int.tmod (wrap64 ((n + 4) % 7 + 6)) 7 = (n + 3) % 7 := by
      rw [w64 (by omega) (by omega), Int.tmod_eq_emod_of_nonneg (by omega)]
      omega
    rw [hm]
    have hth : wrap64 (wrap64 (n - (n + 3) % 7) + 3) = n - (n + 3) % 7 + 3 := by simp (disch := omega) only [w64]
    rw [hth]
    have b0 := begin_bd (dateY n) 0 (by omega) (by omega) (by omega) (by omega)
    have s1 : wrap64 (Int.tdiv (wrap64 (wrap64 (wrap64 (n - begin_ (dateY n) 0) + 7) - (n + 4) % 7)) 7) = sunOf n := by
      unfold sunOf
      rw [w64 (n := n - begin_ (dateY n) 0) (by omega) (by omega), w64 (n := n - begin_ (dateY n) 0 + 7) (by omega) (by omega), w64 (n := n - begin_ (dateY n) 0 + 7 - (n + 4) % 7) (by omega) (by omega),
        Int.tdiv_eq_ediv_of_nonneg (by omega), w64 (by omega) (by omega)]
    have s2 : wrap64 (Int.tdiv (wrap64 (wrap64 (wrap64 (n - begin_ (dateY n) 0) + 7) - (n + 3) % 7)) 7) = monOf n := by
      unfold monOf
      rw [w64 (n := n - begin_ (dateY n) 0) (by omega) (by omega), w64 (n := n - begin_ (dateY n) 0 + 7) (by omega) (by omega), w64 (n := n - begin_ (dateY n) 0 + 7 - (n + 3) % 7) (by omega) (by omega),
        Int.tdiv_eq_ediv_of_nonneg (by omega), w64 (by omega) (by omega)]
    rw [s1, s2]
    have wk : ∀ iso, isoOf n = iso → begin_ iso 0 ≤ n - (n + 3) % 7 + 3 → -5000000 ≤ begin_ iso 0 → wrap64 (wrap64 (Int.tdiv (wrap64 (n - (n + 3) % 7 + 3 - begin_ iso 0)) 7) + 1) = weekOf n := by
      intro iso hi h2 h3
      unfold weekOf
      rw [hi, w64 (n := n - (n + 3) % 7 + 3 - begin_ iso 0) (by omega) (by omega), Int.tdiv_eq_ediv_of_nonneg (by omega)]
      simp (disch := omega) only [w64]
    by_cases c1 : n - (n + 3) % 7 + 3 < begin_ (dateY n) 0
    · have hi : isoOf n = dateY n - 1 := by unfold isoOf; rw [if_pos c1]
      have bs := begin_succ (dateY n - 1)
      have yl' := yl_bd (leap (dateY n - 1))
      have e : dateY n - 1 + 1 = dateY n := by omega
      rw [e] at bs
      have bb := begin_bd (dateY n - 1) 0 (by omega) (by omega) (by omega) (by omega)
      rw [if_pos c1, w64 (n := dateY n - 1) (by omega) (by omega), num1 _ (by omega) (by omega)]
      simp only [Option.bind_some]
      rw [wk _ hi (by omega) (by omega), hi]
    · rw [if_neg c1, w64 (n := dateY n + 1) (by omega) (by omega), num1 _ (by omega) (by omega)]
      simp only [Option.bind_some]
      have bb := begin_bd (dateY n + 1) 0 (by omega) (by omega) (by omega) (by omega)
      by_cases c2 : n - (n + 3) % 7 + 3 ≥ begin_ (dateY n + 1) 0
      · have hi : isoOf n = dateY n + 1 := by unfold isoOf; rw [if_neg c1, if_pos c2]
        rw [if_pos c2, wk _ hi (by omega) (by omega), hi]
      · have hi : isoOf n = dateY n := by unfold isoOf; rw [if_neg c1, if_neg c2]
        rw [if_neg c2, wk _ hi (by omega) (by omega), hi]
theorem rweeks_eq (k : Nat) (hk : 440 ≤ k) (n : Int) : colanderref11_Weeks.f k n = some (weeksAll n) := by
  obtain ⟨k, rfl⟩ : ∃ j, k = j + 1 := ⟨k - 1, by omega⟩
  unfold colanderref11_Weeks.f weeksAll
  rw [rdate_eq (k + 1) (by omega)]
  unfold dateAll
  by_cases ho : n < -4371587 ∨ n > 2932896
  · simp only [if_pos ho, Option.bind_some]
    rw [if_neg (by decide)]
  · simp only [if_neg ho, Option.bind_some]
    have hy := dateY_bd n (by omega) (by omega)
    have hin := in_year n (by omega) (by omega)
    rw [if_pos trivial, begin_eq (k + 1) (by omega) _ _ (by omega) (by omega) (by omega) (by omega), w64 (n := n + 3) (by omega) (by omega), floor_eq, divide_eq _ _ (by omega) (by omega) (by omega) (by omega)]
    simp only [Option.bind_some]
    have hth : wrap64 (wrap64 (n - (n + 3) % 7) + 3) = n - (n + 3) % 7 + 3 := by simp (disch := omega) only [w64]
    rw [hth]
    have b0 := begin_bd (dateY n) 0 (by omega) (by omega) (by omega) (by omega)
    have e0 : wrap64 (n - begin_ (dateY n) 0) = n - begin_ (dateY n) 0 := w64 (by omega) (by omega)
    have s1 : wrap64 (Int.tdiv (wrap64 (wrap64 (n - begin_ (dateY n) 0 + 7) - (n + 4) % 7)) 7) = sunOf n := by
      unfold sunOf
      rw [w64 (n := n - begin_ (dateY n) 0 + 7) (by omega) (by omega), w64 (n := n - begin_ (dateY n) 0 + 7 - (n + 4) % 7) (by omega) (by omega),
        Int.tdiv_eq_ediv_of_nonneg (by omega), w64 (by omega) (by omega)]
    have s2 : wrap64 (Int.tdiv (wrap64 (wrap64 (n - begin_ (dateY n) 0 + 7) - (n + 3) % 7)) 7) = monOf n := by
      unfold monOf
      rw [w64 (n := n - begin_ (dateY n) 0 + 7) (by omega) (by omega), w64 (n := n - begin_ (dateY n) 0 + 7 - (n + 3) % 7) (by omega) (by omega),
        Int.tdiv_eq_ediv_of_nonneg (by omega), w64 (by omega) (by omega)]
    have wk : ∀ iso, isoOf n = iso → begin_ iso 0 ≤ n - (n + 3) % 7 + 3 → -5000000 ≤ begin_ iso 0 → wrap64 (wrap64 (Int.tdiv (wrap64 (n - (n + 3) % 7 + 3 - begin_ iso 0)) 7) + 1) = weekOf n := by
      intro iso hi h2 h3
      unfold weekOf
      rw [hi, w64 (n := n - (n + 3) % 7 + 3 - begin_ iso 0) (by omega) (by omega), Int.tdiv_eq_ediv_of_nonneg (by omega)]
      simp (disch := omega) only [w64]
    have bb := begin_bd (dateY n + 1) 0 (by omega) (by omega) (by omega) (by omega)
    have bs2 := begin_succ (dateY n)
    have yl2 := yl_bd (leap (dateY n))
    have yl' := yl_bd (leap (dateY n - 1))
    rw [e0]
    by_cases c1 : n - (n + 3) % 7 + 3 < begin_ (dateY n) 0
    · have hi : isoOf n = dateY n - 1 := by unfold isoOf; rw [if_pos c1]
      have bs := begin_succ (dateY n - 1)
      have e : dateY n - 1 + 1 = dateY n := by omega
      rw [e] at bs
      have bb' := begin_bd (dateY n - 1) 0 (by omega) (by omega) (by omega) (by omega)
      rw [if_pos c1, colanderref11_Weeks.j0, w64 (n := dateY n + 1) (by omega) (by omega), begin_eq k (by omega) _ _ (by omega) (by omega) (by omega) (by omega)]
      simp only [Option.bind_some]
      rw [if_neg (by omega), w64 (n := dateY n - 1) (by omega) (by omega), begin_eq k (by omega) _ _ (by omega) (by omega) (by omega) (by omega), wday_eq n (by omega) (by omega)]
      simp only [Option.bind_some]
      rw [wk _ hi (by omega) (by omega), hi, s1, s2]
    · rw [if_neg c1, colanderref11_Weeks.j0, w64 (n := dateY n + 1) (by omega) (by omega), begin_eq k (by omega) _ _ (by omega) (by omega) (by omega) (by omega)]
      simp only [Option.bind_some]
      by_cases c2 : n - (n + 3) % 7 + 3 ≥ begin_ (dateY n + 1) 0
      · have hi : isoOf n = dateY n + 1 := by unfold isoOf; rw [if_neg c1, if_pos c2]
        rw [if_pos c2, wday_eq n (by omega) (by omega)]
        simp only [Option.bind_some]
        rw [wk _ hi (by omega) (by omega), hi, s1, s2]
      · have hi : isoOf n = dateY n := by unfold isoOf; rw [if_neg c1, if_neg c2]
        rw [if_neg c2, begin_eq k (by omega) _ _ (by omega) (by omega) (by omega) (by omega), wday_eq n (by omega) (by omega)]
        simp only [Option.bind_some]
        rw [wk _ hi (by omega) (by omega), hi, s1, s2]
end Go.Proofs.Ytomkhipfooafnaa.P
