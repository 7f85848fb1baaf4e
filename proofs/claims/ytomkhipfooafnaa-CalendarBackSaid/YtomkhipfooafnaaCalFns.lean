/- What the calendar's functions come to: the printed functions are the plain arithmetic of CalMath, wherever they are asked within their ranges. -/
import Derived.Test.YtomkhipfooafnaaP7
import Derived.Test.YtomkhipfooafnaaP11
import Derived.Test.YtomkhipfooafnaaHandLength
import Derived.Test.YtomkhipfooafnaaCalMath
set_option linter.unusedVariables false
namespace Go.Proofs.Ytomkhipfooafnaa.P
open Go.RowKit Go.Proofs.YtomkhipfooafnaaW.PrintWords Go.Proofs.Ytomkhipfooafnaa.Cal
theorem w64 {n : Int} (h0 : -9223372036854775808 ≤ n) (h1 : n ≤ 9223372036854775807) : wrap64 n = n := by unfold wrap64; omega
theorem tmod0 (y c : Int) : (Int.tmod y c = 0) = (y % c = 0) :=
  propext ⟨fun h => Int.emod_eq_zero_of_dvd (Int.dvd_of_tmod_eq_zero h), fun h => Int.tmod_eq_zero_of_dvd (Int.dvd_of_emod_eq_zero h)⟩
theorem divide_eq (n b : Int) (hb : 2 ≤ b) (hb1 : b ≤ 1000000) (h0 : -9223372036854775808 ≤ n) (h1 : n ≤ 9223372036854775807) : calendar_divide.f n b = some (n / b, n % b) := by
  have e := Int.mul_tdiv_add_tmod n b
  have l1 := Int.tmod_lt_of_pos n (show 0 < b by omega)
  have l2 := Int.lt_tmod_of_pos n (show 0 < b by omega)
  have bq : -9223372036854775808 < Int.tdiv n b ∧ Int.tdiv n b ≤ 9223372036854775807 := by
    generalize Int.tdiv n b = q at *
    generalize Int.tmod n b = r at *
    constructor
    · by_cases hq : -9223372036854775808 < q
      · exact hq
      · have : b * q ≤ b * (-9223372036854775808) := Int.mul_le_mul_of_nonneg_left (by omega) (by omega)
        omega
    · by_cases hq : q ≤ 9223372036854775807
      · exact hq
      · have : b * 9223372036854775808 ≤ b * q := Int.mul_le_mul_of_nonneg_left (by omega) (by omega)
        omega
  unfold calendar_divide.f
  rw [if_neg (by omega)]
  by_cases hr : Int.tmod n b < 0
  · rw [if_pos hr, w64 (n := Int.tdiv n b) (by omega) (by omega), w64 (n := Int.tdiv n b - 1) (by omega) (by omega), w64 (by omega) (by omega)]
    have := (Int.ediv_emod_unique (a := n) (b := b) (q := Int.tdiv n b - 1) (r := Int.tmod n b + b) (by omega)).2 ⟨by rw [Int.mul_sub]; omega, by omega, by omega⟩
    rw [this.1, this.2]
  · rw [if_neg hr, w64 (by omega) (by omega)]
    have := (Int.ediv_emod_unique (a := n) (b := b) (q := Int.tdiv n b) (r := Int.tmod n b) (by omega)).2 ⟨by omega, by omega, by omega⟩
    rw [this.1, this.2]
theorem floor_eq (n b : Int) : colanderref11_floor.f n b = calendar_divide.f n b := rfl
theorem leap_eq (y : Int) : calendar_Leap.f y = some (leap y) := by
  unfold calendar_Leap.f
  simp only [tmod0]
  rcases leap_cases y with ⟨hl, h4, h⟩ | ⟨hl, h⟩ <;> rw [hl]
  · by_cases h400 : y % 400 = 0
    · rw [if_pos h400]
    · rw [if_neg h400, if_pos h4]
      have : (Int.tmod y 100 != 0) = true := by rw [bne_iff_ne]; intro e; rw [tmod0] at e; omega
      rw [this]
  · rw [if_neg (by omega)]
    by_cases h4 : y % 4 = 0
    · rw [if_pos h4]
      have : (Int.tmod y 100 != 0) = false := by rw [bne_eq_false_iff_eq, tmod0]; omega
      rw [this]
    · rw [if_neg h4]
theorem rleap_eq (y : Int) : colanderref11_Leap.f y = some (leap y) := by
  unfold colanderref11_Leap.f
  simp only [tmod0]
  rcases leap_cases y with ⟨hl, h4, h⟩ | ⟨hl, h⟩ <;> rw [hl]
  · rw [if_pos h4]
    by_cases h100 : y % 100 = 0
    · rw [if_pos h100]
      have : (Int.tmod y 400 == 0) = true := by rw [beq_iff_eq, tmod0]; omega
      rw [this]
    · rw [if_neg h100]
  · by_cases h4 : y % 4 = 0
    · rw [if_pos h4, if_pos (by omega)]
      have : (Int.tmod y 400 == 0) = false := by rw [beq_eq_false_iff_ne]; intro e; rw [tmod0] at e; omega
      rw [this]
    · rw [if_neg h4]
def lenAll (y m : Int) : Int := if m < 0 ∨ m > 11 then 0 else len (leap y) m
theorem length_eq (y m : Int) : calendar_Length.f y m = some (lenAll y m) := by
  unfold calendar_Length.f lenAll
  rw [leap_eq]
  by_cases h0 : m < 0
  · rw [if_pos h0, if_pos (Or.inl h0)]
  · by_cases h1 : m > 11
    · rw [if_neg h0, if_pos h1, if_pos (Or.inr h1)]
    · rw [if_neg h0, if_neg h1, if_neg (by omega)]
      rfl
theorem rlength_eq (k : Nat) (hk : 2 ≤ k) (y m : Int) : colanderref11_Length.f k y m = some (lenAll y m) := by
  obtain ⟨k, rfl⟩ : ∃ j, k = j + 2 := ⟨k - 2, by omega⟩
  by_cases hm : m = 0 ∨ m = 1 ∨ m = 2 ∨ m = 3 ∨ m = 4 ∨ m = 5 ∨ m = 6 ∨ m = 7 ∨ m = 8 ∨ m = 9 ∨ m = 10 ∨ m = 11
  · rcases hm with rfl | rfl | rfl | rfl | rfl | rfl | rfl | rfl | rfl | rfl | rfl | rfl <;>
      simp [colanderref11_Length.f, colanderref11_Length.j0, colanderref11_Length.j1, lenAll, len, rleap_eq]
    cases leap y <;> simp
  · have h0 : m ≠ 0 ∧ m ≠ 1 ∧ m ≠ 2 ∧ m ≠ 3 ∧ m ≠ 4 ∧ m ≠ 5 ∧ m ≠ 6 ∧ m ≠ 7 ∧ m ≠ 8 ∧ m ≠ 9 ∧ m ≠ 10 ∧ m ≠ 11 := by omega
    have h1 : m < 0 ∨ m > 11 := by omega
    obtain ⟨a0, a1, a2, a3, a4, a5, a6, a7, a8, a9, a10, a11⟩ := h0
    unfold lenAll
    rw [if_pos h1]
    simp [colanderref11_Length.f, colanderref11_Length.j0, colanderref11_Length.j1, a0, a1, a2, a3, a4, a5, a6, a7, a8, a9, a10, a11]
theorem year_eq (y : Int) : colanderref11_year.f y = some (yl (leap y)) := by
  unfold colanderref11_year.f
  rw [rleap_eq]
  cases leap y <;> rfl
theorem number_eq (y m d : Int) (y0 : -20000 ≤ y) (y1 : y ≤ 20000) (m0 : 0 ≤ m) (m1 : m ≤ 11) (d0 : -2000000000 ≤ d) (d1 : d ≤ 2000000000) : calendar_number.f y m d = some (num y m d) := by
  unfold calendar_number.f num
  have tm : Int.tmod (wrap64 (m + 10)) 12 = (m + 10) % 12 := by rw [w64 (by omega) (by omega), Int.tmod_eq_emod_of_nonneg (by omega)]
  rw [tm]
  by_cases hm : m < 2
  · simp only [if_pos hm]
    rw [w64 (n := y - 1) (by omega) (by omega), divide_eq _ _ (by omega) (by omega) (by omega) (by omega)]
    simp only [Option.bind_some]
    have q0 : 0 ≤ (y - 1) % 400 := by omega
    have t4 : Int.tdiv ((y - 1) % 400) 4 = (y - 1) % 400 / 4 := Int.tdiv_eq_ediv_of_nonneg q0
    have t100 : Int.tdiv ((y - 1) % 400) 100 = (y - 1) % 400 / 100 := Int.tdiv_eq_ediv_of_nonneg q0
    have t5 : Int.tdiv (wrap64 (wrap64 (153 * ((m + 10) % 12)) + 2)) 5 = (153 * ((m + 10) % 12) + 2) / 5 := by
      rw [w64 (n := 153 * ((m + 10) % 12)) (by omega) (by omega), w64 (by omega) (by omega), Int.tdiv_eq_ediv_of_nonneg (by omega)]
    rw [t4, t100, t5]
    simp (disch := omega) only [w64]
  · simp only [if_neg hm]
    rw [divide_eq _ _ (by omega) (by omega) (by omega) (by omega)]
    simp only [Option.bind_some]
    have q0 : 0 ≤ y % 400 := by omega
    have t4 : Int.tdiv (y % 400) 4 = y % 400 / 4 := Int.tdiv_eq_ediv_of_nonneg q0
    have t100 : Int.tdiv (y % 400) 100 = y % 400 / 100 := Int.tdiv_eq_ediv_of_nonneg q0
    have t5 : Int.tdiv (wrap64 (wrap64 (153 * ((m + 10) % 12)) + 2)) 5 = (153 * ((m + 10) % 12) + 2) / 5 := by
      rw [w64 (n := 153 * ((m + 10) % 12)) (by omega) (by omega), w64 (by omega) (by omega), Int.tdiv_eq_ediv_of_nonneg (by omega)]
    rw [t4, t100, t5]
    simp (disch := omega) only [w64]
theorem begin_l1 (l m0 : Int) (y : Int) (hl : -10000000000 ≤ l) (hl2 : l ≤ 10000000000) (h1 : m0 ≤ 11) : ∀ (j k : Nat) (m : Int), 0 ≤ m → m ≤ m0 → m0 - m = j → j + 4 ≤ k →
    colanderref11_begin.l1 k m0 y (l + cum (leap y) m) m = some (l + cum (leap y) m0) := by
  intro j
  induction j with
  | zero =>
    intro k m a b c d
    obtain ⟨k, rfl⟩ : ∃ i, k = i + 1 := ⟨k - 1, by omega⟩
    have e : m = m0 := by omega
    subst e
    rw [colanderref11_begin.l1, if_neg (by omega)]
  | succ j ih =>
    intro k m a b c d
    obtain ⟨k, rfl⟩ : ∃ i, k = i + 1 := ⟨k - 1, by omega⟩
    rw [colanderref11_begin.l1, if_pos (by omega), rlength_eq k (by omega)]
    simp only [Option.bind_some]
    have hla : lenAll y m = len (leap y) m := by unfold lenAll; rw [if_neg (by omega)]
    have hlen := len_bd (leap y) m
    have hcum := cum_bd (leap y) m a (by omega)
    have hyl := yl_bd (leap y)
    have hs := cum_succ (leap y) m a (by omega)
    rw [hla, w64 (n := l + cum (leap y) m + len (leap y) m) (by omega) (by omega), w64 (n := m + 1) (by omega) (by omega)]
    have e : l + cum (leap y) m + len (leap y) m = l + cum (leap y) (m + 1) := by omega
    rw [e]
    exact ih k (m + 1) (by omega) (by omega) (by omega) (by omega)
theorem begin_l0 (b m0 r0 : Int) (hb : -5000000000 ≤ b) (hb2 : b ≤ 5000000000) (hm : 0 ≤ m0) (hm1 : m0 ≤ 11) (hr : r0 < 400) : ∀ (j k : Nat) (r : Int), 0 ≤ r → r ≤ r0 → r0 - r = j → j + 20 ≤ k →
    colanderref11_begin.l0 k m0 r0 (b + yb r) r = some (b + yb r0 + cum (leap r0) m0) := by
  intro j
  induction j with
  | zero =>
    intro k r a c d e
    obtain ⟨k, rfl⟩ : ∃ i, k = i + 1 := ⟨k - 1, by omega⟩
    have e : r = r0 := by omega
    subst e
    have y := yb_bd r (by omega) (by omega)
    rw [colanderref11_begin.l0, if_neg (by omega)]
    have z : b + yb r = b + yb r + cum (leap r) 0 := by
      have : cum (leap r) 0 = 0 := rfl
      omega
    rw [z]
    exact (begin_l1 (b + yb r) m0 r (by omega) (by omega) hm1 m0.toNat k 0 (by omega) hm (by omega) (by omega)).trans (by rw [← z])
  | succ j ih =>
    intro k r a c d e
    obtain ⟨k, rfl⟩ : ∃ i, k = i + 1 := ⟨k - 1, by omega⟩
    rw [colanderref11_begin.l0, if_pos (by omega), year_eq]
    simp only [Option.bind_some]
    have y := yb_bd r (by omega) (by omega)
    have yl' := yl_bd (leap r)
    rw [w64 (n := b + yb r + yl (leap r)) (by omega) (by omega), w64 (n := r + 1) (by omega) (by omega)]
    have s := yb_succ r a (by omega)
    have e2 : b + yb r + yl (leap r) = b + yb (r + 1) := by omega
    rw [e2]
    exact ih k (r + 1) (by omega) (by omega) (by omega) (by omega)
theorem begin_eq (k : Nat) (hk : 420 ≤ k) (y m : Int) (y0 : -20000 ≤ y) (y1 : y ≤ 20000) (m0 : 0 ≤ m) (m1 : m ≤ 11) : colanderref11_begin.f k y m = some (begin_ y m) := by
  unfold colanderref11_begin.f
  rw [floor_eq, divide_eq _ _ (by omega) (by omega) (by omega) (by omega)]
  simp only [Option.bind_some]
  rw [w64 (n := y / 400 * 146097) (by omega) (by omega), w64 (by omega) (by omega)]
  have z : yb 0 = 0 := by decide
  have h := begin_l0 (y / 400 * 146097 - 719528) m (y % 400) (by omega) (by omega) m0 m1 (by omega) (y % 400).toNat k 0 (by omega) (by omega) (by omega) (by omega)
  rw [z, Int.add_zero] at h
  exact h
def dateAll (n : Int) : Int × Int × Int × Int := if n < -4371587 ∨ n > 2932896 then (0, 0, 0, 110) else (dateY n, dateM n, dateD n, 0)
theorem date_eq (k : Nat) (hk : 1 ≤ k) (n : Int) : calendar_Date.f k n = some (dateAll n) := by
  obtain ⟨k, rfl⟩ : ∃ j, k = j + 1 := ⟨k - 1, by omega⟩
  unfold calendar_Date.f dateAll
  by_cases h0 : n < -4371587
  · rw [if_pos h0, if_pos (Or.inl h0), calendar_Date.j0, if_pos rfl]
  · rw [if_neg h0]
    by_cases h1 : n > 2932896
    · rw [if_pos (Or.inr h1), calendar_Date.j0, if_pos (by simpa using h1)]
    · rw [if_neg (by omega), calendar_Date.j0, if_neg (by simpa using h1), w64 (n := n + 719468) (by omega) (by omega), divide_eq _ _ (by omega) (by omega) (by omega) (by omega)]
      simp only [Option.bind_some]
      obtain ⟨ya, yb', yc, yd, _⟩ := year_of ((n + 719468) % 146097) (by omega) (by omega)
      have hdE : dE n = (n + 719468) % 146097 - s4 (hd ((n + 719468) % 146097) / 365) := rfl
      have hdY : dY n = (n + 719468) / 146097 * 400 + hd ((n + 719468) % 146097) / 365 := rfl
      have hd0 : 0 ≤ (n + 719468) % 146097 := by omega
      have hd1 : (n + 719468) % 146097 < 146097 := by omega
      have hq0 : -30 ≤ (n + 719468) / 146097 := by omega
      have hq1 : (n + 719468) / 146097 ≤ 30 := by omega
      generalize (n + 719468) % 146097 = d at *
      generalize (n + 719468) / 146097 = q at *
      have t1 : Int.tdiv d 1460 = d / 1460 := Int.tdiv_eq_ediv_of_nonneg hd0
      have t2 : Int.tdiv d 36524 = d / 36524 := Int.tdiv_eq_ediv_of_nonneg hd0
      have t3 : Int.tdiv d 146096 = d / 146096 := Int.tdiv_eq_ediv_of_nonneg hd0
      have e1 : wrap64 (wrap64 (wrap64 (d - wrap64 (d / 1460)) + wrap64 (d / 36524)) - wrap64 (d / 146096)) = hd d := by
        unfold hd
        simp (disch := omega) only [w64]
      have hdp : 0 ≤ hd d := by omega
      have t4 : wrap64 (Int.tdiv (hd d) 365) = hd d / 365 := by rw [Int.tdiv_eq_ediv_of_nonneg hdp, w64 (by omega) (by omega)]
      rw [t1, t2, t3, e1, t4]
      generalize hd d / 365 = Y at *
      have t5 : Int.tdiv Y 4 = Y / 4 := Int.tdiv_eq_ediv_of_nonneg ya
      have t6 : Int.tdiv Y 100 = Y / 100 := Int.tdiv_eq_ediv_of_nonneg ya
      have e2 : wrap64 (d - wrap64 (wrap64 (wrap64 (365 * Y) + wrap64 (Y / 4)) - wrap64 (Y / 100))) = dE n := by
        rw [hdE]
        unfold s4
        simp (disch := omega) only [w64]
      rw [t5, t6, e2]
      obtain ⟨ea, eb⟩ := dE_bd n
      obtain ⟨ma, mb⟩ := dM_bd n
      have e3 : wrap64 (Int.tdiv (wrap64 (wrap64 (5 * dE n) + 2)) 153) = dM n := by
        rw [w64 (n := 5 * dE n) (by omega) (by omega), w64 (n := 5 * dE n + 2) (by omega) (by omega), Int.tdiv_eq_ediv_of_nonneg (by omega), w64 (by omega) (by omega)]
        rfl
      rw [e3]
      have e4 : wrap64 (wrap64 (dE n - wrap64 (Int.tdiv (wrap64 (wrap64 (153 * dM n) + 2)) 5)) + 1) = dateD n := by
        unfold dateD
        rw [w64 (n := 153 * dM n) (by omega) (by omega), w64 (n := 153 * dM n + 2) (by omega) (by omega), Int.tdiv_eq_ediv_of_nonneg (by omega)]
        simp (disch := omega) only [w64]
      rw [e4]
      have e5 : wrap64 (wrap64 (q * 400) + Y) = dY n := by
        rw [hdY]
        simp (disch := omega) only [w64]
      rw [e5]
      unfold dateY dateM
      by_cases h10 : dM n ≥ 10
      · rw [if_pos h10, if_pos h10, if_pos h10, w64 (n := dY n + 1) (by omega) (by omega), w64 (by omega) (by omega)]
      · rw [if_neg h10, if_neg h10, if_neg h10, w64 (by omega) (by omega)]
theorem rdate_l1 (q Y : Int) (hq0 : -100 ≤ q) (hq1 : q ≤ 100) (hY0 : 0 ≤ Y) (hY1 : Y < 400) (m d : Int) (m1 : m ≤ 11) (d0 : 1 ≤ d) (d1 : d ≤ len (leap Y) m) : ∀ (j k : Nat) (i : Int), 0 ≤ i → i ≤ m → m - i = j → j + 4 ≤ k →
    colanderref11_Date.l1 k q (cum (leap Y) m + d - 1 - cum (leap Y) i) Y i = some (400 * q + Y, m, d, 0) := by
  intro j
  induction j with
  | zero =>
    intro k i a b c e
    obtain ⟨k, rfl⟩ : ∃ z, k = z + 1 := ⟨k - 1, by omega⟩
    have hi : i = m := by omega
    subst hi
    have hla : lenAll Y i = len (leap Y) i := by unfold lenAll; rw [if_neg (by omega)]
    have hlen := len_bd (leap Y) i
    rw [colanderref11_Date.l1, rlength_eq k (by omega)]
    simp only [Option.bind_some]
    rw [hla, if_neg (by omega), w64 (n := 400 * q) (by omega) (by omega), w64 (n := 400 * q + Y) (by omega) (by omega), w64 (by omega) (by omega)]
    have : cum (leap Y) i + d - 1 - cum (leap Y) i + 1 = d := by omega
    rw [this]
  | succ j ih =>
    intro k i a b c e
    obtain ⟨k, rfl⟩ : ∃ z, k = z + 1 := ⟨k - 1, by omega⟩
    have hla : lenAll Y i = len (leap Y) i := by unfold lenAll; rw [if_neg (by omega)]
    have hlen := len_bd (leap Y) i
    have hlm := len_bd (leap Y) m
    have hs := cum_succ (leap Y) i a (by omega)
    have mono : ∀ z : Nat, i + 1 + z ≤ 11 → cum (leap Y) (i + 1) ≤ cum (leap Y) (i + 1 + z) := by
      intro z
      induction z with
      | zero => intro _; simp
      | succ z ihz =>
        intro hz
        have x := ihz (by omega)
        have s := cum_succ (leap Y) (i + 1 + z) (by omega) (by omega)
        have l := len_bd (leap Y) (i + 1 + z)
        have ez : i + 1 + ((z + 1 : Nat) : Int) = i + 1 + z + 1 := by omega
        rw [ez]; omega
    have hm := mono (m - i - 1).toNat (by omega)
    have em : i + 1 + ((m - i - 1).toNat : Int) = m := by omega
    rw [em] at hm
    have c1 := cum_bd (leap Y) m (by omega) (by omega)
    have c2 := cum_bd (leap Y) i a (by omega)
    have c3 := yl_bd (leap Y)
    rw [colanderref11_Date.l1, rlength_eq k (by omega)]
    simp only [Option.bind_some]
    rw [hla, if_pos (by omega), w64 (n := cum (leap Y) m + d - 1 - cum (leap Y) i - len (leap Y) i) (by omega) (by omega), w64 (n := i + 1) (by omega) (by omega)]
    have e2 : cum (leap Y) m + d - 1 - cum (leap Y) i - len (leap Y) i = cum (leap Y) m + d - 1 - cum (leap Y) (i + 1) := by omega
    rw [e2]
    exact ih k (i + 1) (by omega) (by omega) (by omega) (by omega)
theorem rdate_l0 (q Y : Int) (hq0 : -100 ≤ q) (hq1 : q ≤ 100) (hY0 : 0 ≤ Y) (hY1 : Y < 400) (m d : Int) (m0 : 0 ≤ m) (m1 : m ≤ 11) (d0 : 1 ≤ d) (d1 : d ≤ len (leap Y) m) : ∀ (j k : Nat) (y : Int), 0 ≤ y → y ≤ Y → Y - y = j → j + 20 ≤ k →
    colanderref11_Date.l0 k q (yb Y + cum (leap Y) m + d - 1 - yb y) y = some (400 * q + Y, m, d, 0) := by
  have hc := cum_len (leap Y) m m0 m1
  have hc2 := cum_bd (leap Y) m m0 (by omega)
  intro j
  induction j with
  | zero =>
    intro k y a b c e
    obtain ⟨k, rfl⟩ : ∃ z, k = z + 1 := ⟨k - 1, by omega⟩
    have hy : y = Y := by omega
    subst hy
    rw [colanderref11_Date.l0, year_eq]
    simp only [Option.bind_some]
    rw [if_neg (by omega)]
    have z : yb y + cum (leap y) m + d - 1 - yb y = cum (leap y) m + d - 1 - cum (leap y) 0 := by
      have : cum (leap y) 0 = 0 := rfl
      omega
    rw [z]
    exact rdate_l1 q y hq0 hq1 hY0 hY1 m d m1 d0 d1 m.toNat k 0 (by omega) m0 (by omega) (by omega)
  | succ j ih =>
    intro k y a b c e
    obtain ⟨k, rfl⟩ : ∃ z, k = z + 1 := ⟨k - 1, by omega⟩
    have s := yb_succ y a (by omega)
    have mn := yb_mono (y + 1) Y (by omega) (by omega) (by omega)
    have b1 := yb_bd Y (by omega) (by omega)
    have b2 := yb_bd y a (by omega)
    have b3 := yl_bd (leap y)
    have b4 := yl_bd (leap Y)
    rw [colanderref11_Date.l0, year_eq]
    simp only [Option.bind_some]
    rw [if_pos (by omega), w64 (n := yb Y + cum (leap Y) m + d - 1 - yb y - yl (leap y)) (by omega) (by omega), w64 (n := y + 1) (by omega) (by omega)]
    have e2 : yb Y + cum (leap Y) m + d - 1 - yb y - yl (leap y) = yb Y + cum (leap Y) m + d - 1 - yb (y + 1) := by omega
    rw [e2]
    exact ih k (y + 1) (by omega) (by omega) (by omega) (by omega)
theorem rdate_eq (k : Nat) (hk : 430 ≤ k) (n : Int) : colanderref11_Date.f k n = some (dateAll n) := by
  obtain ⟨k, rfl⟩ : ∃ j, k = j + 1 := ⟨k - 1, by omega⟩
  unfold colanderref11_Date.f dateAll
  by_cases h0 : n < -4371587
  · rw [if_pos h0, if_pos (Or.inl h0), colanderref11_Date.j0, if_pos rfl]
  · rw [if_neg h0]
    by_cases h1 : n > 2932896
    · rw [if_pos (Or.inr h1), colanderref11_Date.j0, if_pos (by simpa using h1)]
    · rw [if_neg (by omega), colanderref11_Date.j0, if_neg (by simpa using h1), w64 (n := n + 719528) (by omega) (by omega), floor_eq, divide_eq _ _ (by omega) (by omega) (by omega) (by omega)]
      simp only [Option.bind_some]
      obtain ⟨m0, m1, d0, d1⟩ := date_valid n
      have hb := date_begin n
      have hy := dateY_bd n (by omega) (by omega)
      generalize dateY n = y at *
      generalize dateM n = m at *
      generalize dateD n = d at *
      unfold begin_ at hb
      have hc := cum_len (leap (y % 400)) m m0 m1
      have hc2 := cum_bd (leap (y % 400)) m m0 (by omega)
      rw [← leap_mod y] at d1
      have b1 := yb_succ (y % 400) (by omega) (by omega)
      have b2 := yb_bd (y % 400 + 1) (by omega) (by omega)
      have b3 := yb_bd (y % 400) (by omega) (by omega)
      have hq : (n + 719528) / 146097 = y / 400 := by omega
      have hr : (n + 719528) % 146097 = yb (y % 400) + cum (leap (y % 400)) m + d - 1 - yb 0 := by
        have : yb 0 = 0 := by decide
        omega
      rw [hq, hr]
      have := rdate_l0 (y / 400) (y % 400) (by omega) (by omega) (by omega) (by omega) m d m0 m1 d0 d1 (y % 400).toNat k 0 (by omega) (by omega) (by omega) (by omega)
      rw [this]
      have : 400 * (y / 400) + y % 400 = y := by omega
      rw [this]
end Go.Proofs.Ytomkhipfooafnaa.P
