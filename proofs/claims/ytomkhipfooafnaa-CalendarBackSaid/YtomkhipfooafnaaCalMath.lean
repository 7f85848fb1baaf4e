/- The calendar in plain arithmetic: days before a year and a month within 400 years, the number of a date, the date of a number, and that each gives the other back. No program in sight. -/
set_option linter.unusedVariables false
namespace Go.Proofs.Ytomkhipfooafnaa.Cal
def leap (y : Int) : Bool := y % 4 = 0 && (y % 100 != 0 || y % 400 = 0)
/-- days of a month -/
def len (l : Bool) (m : Int) : Int :=
  if m = 1 then (if l then 29 else 28) else if m = 3 then 30 else if m = 5 then 30 else if m = 8 then 30 else if m = 10 then 30 else 31
/-- days before year r of a cycle -/
def yb (r : Int) : Int := 365 * r + (r + 3) / 4 - (r + 99) / 100 + (r + 399) / 400
def yl (l : Bool) : Int := if l then 366 else 365
/-- days before month m -/
def cum (l : Bool) (m : Int) : Int :=
  if m = 0 then 0 else if m = 1 then 31 else
  (if l then 1 else 0) + (if m = 2 then 59 else if m = 3 then 90 else if m = 4 then 120 else if m = 5 then 151 else if m = 6 then 181 else if m = 7 then 212 else if m = 8 then 243 else if m = 9 then 273 else if m = 10 then 304 else if m = 11 then 334 else 365)
def begin_ (y m : Int) : Int := y / 400 * 146097 - 719528 + yb (y % 400) + cum (leap (y % 400)) m
/-- the code's own number of a date, counted from March on -/
def num (y m d : Int) : Int :=
  (if m < 2 then y - 1 else y) / 400 * 146097 + (if m < 2 then y - 1 else y) % 400 * 365 + (if m < 2 then y - 1 else y) % 400 / 4 - (if m < 2 then y - 1 else y) % 400 / 100 + (153 * ((m + 10) % 12) + 2) / 5 + d - 1 - 719468

theorem leap_mod (y : Int) : leap (y % 400) = leap y := by
  unfold leap
  have h1 : y % 400 % 4 = y % 4 := by omega
  have h2 : y % 400 % 100 = y % 100 := by omega
  have h3 : y % 400 % 400 = y % 400 := by omega
  rw [h1, h2, h3]
theorem leap_add (q t : Int) : leap (400 * q + t) = leap t := by
  rw [← leap_mod (400 * q + t), ← leap_mod t]
  congr 1
  omega
theorem leap_cases (y : Int) : (leap y = true ∧ y % 4 = 0 ∧ (y % 100 ≠ 0 ∨ y % 400 = 0)) ∨ (leap y = false ∧ (y % 4 ≠ 0 ∨ y % 100 = 0 ∧ y % 400 ≠ 0)) := by
  unfold leap
  by_cases h1 : y % 4 = 0 <;> by_cases h2 : y % 100 = 0 <;> by_cases h3 : y % 400 = 0 <;> simp [h1, h2, h3]
theorem yb_succ (r : Int) (h0 : 0 ≤ r) (h1 : r < 400) : yb (r + 1) = yb r + yl (leap r) := by
  unfold yb yl
  rcases leap_cases r with ⟨hl, h2, h3⟩ | ⟨hl, h2⟩ <;> rw [hl] <;> simp <;> omega
theorem yb_mono (a b : Int) (h0 : 0 ≤ a) (h : a ≤ b) (hb : b ≤ 400) : yb a ≤ yb b := by unfold yb; omega
theorem yb_bd (r : Int) (h0 : 0 ≤ r) (h1 : r ≤ 400) : 0 ≤ yb r ∧ yb r ≤ 146097 := by unfold yb; omega
theorem cum_succ (l : Bool) (m : Int) (h0 : 0 ≤ m) (h1 : m ≤ 11) : cum l (m + 1) = cum l m + len l m := by
  have : m = 0 ∨ m = 1 ∨ m = 2 ∨ m = 3 ∨ m = 4 ∨ m = 5 ∨ m = 6 ∨ m = 7 ∨ m = 8 ∨ m = 9 ∨ m = 10 ∨ m = 11 := by omega
  rcases this with rfl | rfl | rfl | rfl | rfl | rfl | rfl | rfl | rfl | rfl | rfl | rfl <;> cases l <;> decide
theorem cum_bd (l : Bool) (m : Int) (h0 : 0 ≤ m) (h1 : m ≤ 12) : 0 ≤ cum l m ∧ cum l m ≤ yl l := by
  have : m = 0 ∨ m = 1 ∨ m = 2 ∨ m = 3 ∨ m = 4 ∨ m = 5 ∨ m = 6 ∨ m = 7 ∨ m = 8 ∨ m = 9 ∨ m = 10 ∨ m = 11 ∨ m = 12 := by omega
  rcases this with rfl | rfl | rfl | rfl | rfl | rfl | rfl | rfl | rfl | rfl | rfl | rfl | rfl <;> cases l <;> decide
theorem cum_12 (l : Bool) : cum l 12 = yl l := by cases l <;> decide
theorem len_bd (l : Bool) (m : Int) : 28 ≤ len l m ∧ len l m ≤ 31 := by
  unfold len
  repeat' split
  all_goals omega
theorem cum_len (l : Bool) (m : Int) (h0 : 0 ≤ m) (h1 : m ≤ 11) : cum l m + len l m ≤ yl l := by
  rw [← cum_succ l m h0 h1]; exact (cum_bd l (m + 1) (by omega) (by omega)).2
theorem yl_bd (l : Bool) : 365 ≤ yl l ∧ yl l ≤ 366 := by cases l <;> decide

theorem num_table : (List.range 400).all (fun t => (List.range 12).all fun m => num (t : Int) (m : Int) 1 == yb (t : Int) + cum (leap (t : Int)) (m : Int) - 719528) = true := by decide +kernel
theorem num_small (t m : Int) (h0 : 0 ≤ t) (h1 : t < 400) (m0 : 0 ≤ m) (m1 : m ≤ 11) : num t m 1 = yb t + cum (leap t) m - 719528 := by
  have h := List.all_eq_true.1 num_table t.toNat (by simp; omega)
  have h := List.all_eq_true.1 h m.toNat (by simp; omega)
  have e1 : ((t.toNat : Nat) : Int) = t := by omega
  have e2 : ((m.toNat : Nat) : Int) = m := by omega
  rw [e1, e2] at h
  exact eq_of_beq h
/-- the code's number is the number of the days before the month, and the day -/
theorem num_begin (y m d : Int) (m0 : 0 ≤ m) (m1 : m ≤ 11) : num y m d = begin_ y m + d - 1 := by
  have hs := num_small (y % 400) m (by omega) (by omega) m0 m1
  have e : num y m d = y / 400 * 146097 + num (y % 400) m 1 + d - 1 := by
    unfold num
    by_cases hm : m < 2
    · simp only [if_pos hm]; omega
    · simp only [if_neg hm]; omega
  unfold begin_
  omega
theorem begin_succ (y : Int) : begin_ (y + 1) 0 = begin_ y 0 + yl (leap y) := by
  have h0 : cum (leap (y % 400)) 0 = 0 := rfl
  have h1 : cum (leap ((y + 1) % 400)) 0 = 0 := rfl
  unfold begin_
  rw [h0, h1, ← leap_mod y]
  have hs := yb_succ (y % 400) (by omega) (by omega)
  by_cases h : y % 400 = 399
  · have e : (y + 1) % 400 = 0 := by omega
    have e2 : (y + 1) / 400 = y / 400 + 1 := by omega
    rw [e, e2]
    rw [h] at hs ⊢
    have z : yb 0 = 0 := by decide
    have z2 : yb (399 + 1) = 146097 := by decide
    omega
  · have e : (y + 1) % 400 = y % 400 + 1 := by omega
    have e2 : (y + 1) / 400 = y / 400 := by omega
    rw [e, e2]
    omega
theorem begin_bd (y m : Int) (h0 : -10000 ≤ y) (h1 : y ≤ 10000) (m0 : 0 ≤ m) (m1 : m ≤ 11) : -5000000 ≤ begin_ y m ∧ begin_ y m ≤ 5000000 := by
  unfold begin_
  have a := yb_bd (y % 400) (by omega) (by omega)
  have b := cum_bd (leap (y % 400)) m m0 (by omega)
  have c := yl_bd (leap (y % 400))
  omega

/-! the date of a number, as the code reckons it -/
def s4 (Y : Int) : Int := 365 * Y + Y / 4 - Y / 100
def hd (d : Int) : Int := d - d / 1460 + d / 36524 - d / 146096
theorem hd_mono (a b : Int) (h0 : 0 ≤ a) (h : a ≤ b) (hb : b ≤ 146096) : hd a ≤ hd b := by
  unfold hd
  by_cases e : b = 146096
  · subst e
    by_cases e2 : a = 146096
    · subst e2; omega
    · omega
  · omega
theorem hd_table : (List.range 400).all (fun Y => hd (s4 (Y : Int)) / 365 == (Y : Int) && ((Y : Int) == 0 || hd (s4 (Y : Int) - 1) / 365 == (Y : Int) - 1)) = true := by decide +kernel
theorem hd_at (Y : Int) (h0 : 0 ≤ Y) (h1 : Y < 400) : hd (s4 Y) / 365 = Y ∧ (1 ≤ Y → hd (s4 Y - 1) / 365 = Y - 1) := by
  have h := List.all_eq_true.1 hd_table Y.toNat (by simp; omega)
  have e1 : ((Y.toNat : Nat) : Int) = Y := by omega
  rw [e1] at h
  simp only [Bool.and_eq_true, Bool.or_eq_true, beq_iff_eq] at h
  exact ⟨h.1, fun h2 => by rcases h.2 with h3 | h3 <;> omega⟩
/-- the year within the 400 years from March on, and the day within it -/
theorem year_of (d : Int) (h0 : 0 ≤ d) (h1 : d < 146097) : 0 ≤ hd d / 365 ∧ hd d / 365 ≤ 399 ∧ s4 (hd d / 365) ≤ d ∧ d - s4 (hd d / 365) ≤ 365 ∧ (d - s4 (hd d / 365) = 365 → leap (hd d / 365 + 1) = true) := by
  have hz : hd 0 = 0 := by decide
  have hm : hd 146096 = 145999 := by decide
  have ha := hd_mono 0 d (by omega) h0 (by omega)
  have hb := hd_mono d 146096 h0 (by omega) (by omega)
  have y0 : 0 ≤ hd d / 365 := by omega
  have y1 : hd d / 365 ≤ 399 := by omega
  generalize hY : hd d / 365 = Y at *
  obtain ⟨t1, t2⟩ := hd_at Y y0 (by omega)
  have lo : s4 Y ≤ d := by
    by_cases h : s4 Y ≤ d
    · exact h
    · have : 1 ≤ Y := by
        by_cases hy : 1 ≤ Y
        · exact hy
        · have : Y = 0 := by omega
          subst this
          have : s4 0 = 0 := by decide
          omega
      have s0 : s4 Y ≤ 146096 := by unfold s4; omega
      have := hd_mono d (s4 Y - 1) h0 (by omega) (by omega)
      have := t2 ‹_›
      omega
  have hi : Y = 399 ∨ d < s4 (Y + 1) := by
    by_cases h : Y = 399
    · exact Or.inl h
    · right
      by_cases h2 : d < s4 (Y + 1)
      · exact h2
      · obtain ⟨u1, _⟩ := hd_at (Y + 1) (by omega) (by omega)
        have s0 : 0 ≤ s4 (Y + 1) := by unfold s4; omega
        have := hd_mono (s4 (Y + 1)) d s0 (by omega) (by omega)
        omega
  refine ⟨y0, y1, lo, ?_, ?_⟩
  · unfold s4 at *; omega
  · intro he
    rcases leap_cases (Y + 1) with ⟨hl, _⟩ | ⟨hl, h2⟩
    · exact hl
    · exfalso
      have e4 : (Y + 1) % 4 ≠ 0 → (Y + 1) / 4 = Y / 4 := by omega
      have e100 : (Y + 1) % 100 = 0 → (Y + 1) / 100 = Y / 100 + 1 ∧ (Y + 1) / 4 ≤ Y / 4 + 1 := by omega
      have e1 : Y / 100 ≤ (Y + 1) / 100 := by omega
      rcases hi with h399 | hi
      · subst h399; revert h2; decide
      · unfold s4 at he hi
        rcases h2 with h2 | ⟨h2, h3⟩
        · have := e4 h2; omega
        · have := e100 h2; omega
theorem month_table : (List.range 366).all (fun e => decide ((5 * (e : Int) + 2) / 153 ≤ 11) && decide (1 ≤ (e : Int) - (153 * ((5 * (e : Int) + 2) / 153) + 2) / 5 + 1) &&
    decide ((e : Int) - (153 * ((5 * (e : Int) + 2) / 153) + 2) / 5 + 1 ≤ len ((e : Int) == 365) (if (5 * (e : Int) + 2) / 153 ≥ 10 then (5 * (e : Int) + 2) / 153 - 10 else (5 * (e : Int) + 2) / 153 + 2))) = true := by decide +kernel
theorem month_of (e : Int) (h0 : 0 ≤ e) (h1 : e ≤ 365) : (5 * e + 2) / 153 ≤ 11 ∧ 1 ≤ e - (153 * ((5 * e + 2) / 153) + 2) / 5 + 1 ∧
    e - (153 * ((5 * e + 2) / 153) + 2) / 5 + 1 ≤ len (e == 365) (if (5 * e + 2) / 153 ≥ 10 then (5 * e + 2) / 153 - 10 else (5 * e + 2) / 153 + 2) := by
  have h := List.all_eq_true.1 month_table e.toNat (by simp; omega)
  have e1 : ((e.toNat : Nat) : Int) = e := by omega
  rw [e1] at h
  simp only [Bool.and_eq_true, decide_eq_true_eq] at h
  exact ⟨h.1.1, h.1.2, h.2⟩
theorem len_mono (m : Int) : len false m ≤ len true m := by
  unfold len
  split
  · simp
  · exact Int.le_refl _
def dY (n : Int) : Int := (n + 719468) / 146097 * 400 + hd ((n + 719468) % 146097) / 365
def dE (n : Int) : Int := (n + 719468) % 146097 - s4 (hd ((n + 719468) % 146097) / 365)
def dM (n : Int) : Int := (5 * dE n + 2) / 153
def dateY (n : Int) : Int := if dM n ≥ 10 then dY n + 1 else dY n
def dateM (n : Int) : Int := if dM n ≥ 10 then dM n - 10 else dM n + 2
def dateD (n : Int) : Int := dE n - (153 * dM n + 2) / 5 + 1
theorem dE_bd (n : Int) : 0 ≤ dE n ∧ dE n ≤ 365 := by
  obtain ⟨a, b, c, d, _⟩ := year_of ((n + 719468) % 146097) (by omega) (by omega)
  unfold dE
  omega
theorem dM_bd (n : Int) : 0 ≤ dM n ∧ dM n ≤ 11 := by
  obtain ⟨a, b⟩ := dE_bd n
  have := (month_of (dE n) a b).1
  unfold dM
  omega
theorem date_valid (n : Int) : 0 ≤ dateM n ∧ dateM n ≤ 11 ∧ 1 ≤ dateD n ∧ dateD n ≤ len (leap (dateY n)) (dateM n) := by
  obtain ⟨a, b⟩ := dE_bd n
  obtain ⟨c, d⟩ := dM_bd n
  obtain ⟨p, q, r⟩ := month_of (dE n) a b
  have hM : dateM n = if (5 * dE n + 2) / 153 ≥ 10 then (5 * dE n + 2) / 153 - 10 else (5 * dE n + 2) / 153 + 2 := rfl
  refine ⟨by unfold dateM; split <;> omega, by unfold dateM; split <;> omega, q, ?_⟩
  rw [← hM] at r
  have hr : dateD n ≤ len (dE n == 365) (dateM n) := r
  by_cases h : dE n = 365
  · obtain ⟨a', b', c', d', e'⟩ := year_of ((n + 719468) % 146097) (by omega) (by omega)
    have hl : leap (dateY n) = true := by
      have h10 : dM n ≥ 10 := by unfold dM; omega
      have : dateY n = 400 * ((n + 719468) / 146097) + (hd ((n + 719468) % 146097) / 365 + 1) := by unfold dateY dY; rw [if_pos h10]; omega
      rw [this, leap_add]
      exact e' h
    rw [hl]
    have : (dE n == 365) = true := by simp [h]
    rw [this] at hr
    exact hr
  · have : (dE n == 365) = false := by simp [h]
    rw [this] at hr
    have := len_mono (dateM n)
    cases leap (dateY n) <;> omega
theorem date_num (n : Int) : num (dateY n) (dateM n) (dateD n) = n := by
  obtain ⟨c, d⟩ := dM_bd n
  obtain ⟨a', b', _⟩ := year_of ((n + 719468) % 146097) (by omega) (by omega)
  have hy : (if dateM n < 2 then dateY n - 1 else dateY n) = dY n := by unfold dateM dateY; by_cases h : dM n ≥ 10 <;> simp only [h, if_true, if_false] <;> split <;> omega
  have hm : (dateM n + 10) % 12 = dM n := by unfold dateM; split <;> omega
  unfold num
  rw [hy, hm]
  have h1 : dY n / 400 = (n + 719468) / 146097 := by unfold dY; omega
  have h2 : dY n % 400 = hd ((n + 719468) % 146097) / 365 := by unfold dY; omega
  rw [h1, h2]
  have h3 : dE n = (n + 719468) % 146097 - s4 (hd ((n + 719468) % 146097) / 365) := rfl
  unfold dateD
  unfold s4 at h3
  omega
theorem date_begin (n : Int) : begin_ (dateY n) (dateM n) + dateD n - 1 = n := by
  obtain ⟨a, b, _, _⟩ := date_valid n
  rw [← num_begin _ _ _ a b]
  exact date_num n
theorem begin_lt (y m d : Int) (m0 : 0 ≤ m) (m1 : m ≤ 11) (d0 : 1 ≤ d) (d1 : d ≤ len (leap y) m) : begin_ y 0 ≤ begin_ y m + d - 1 ∧ begin_ y m + d - 1 < begin_ (y + 1) 0 := by
  rw [begin_succ]
  have h := cum_len (leap y) m m0 m1
  have h2 := cum_bd (leap y) m m0 (by omega)
  have z : cum (leap y) 0 = 0 := rfl
  unfold begin_
  rw [leap_mod, z]
  omega
theorem begin_mono (a b : Int) (h : a ≤ b) : begin_ a 0 ≤ begin_ b 0 := by
  obtain ⟨k, rfl⟩ : ∃ k : Nat, b = a + k := ⟨(b - a).toNat, by omega⟩
  clear h
  induction k with
  | zero => simp
  | succ k ih =>
    have := begin_succ (a + k)
    have := yl_bd (leap (a + k))
    have e : a + ((k + 1 : Nat) : Int) = a + k + 1 := by omega
    rw [e]
    omega
theorem dateY_bd (n : Int) (h0 : -4371587 ≤ n) (h1 : n ≤ 2932896) : -9999 ≤ dateY n ∧ dateY n ≤ 9999 := by
  obtain ⟨a, b, c, d⟩ := date_valid n
  have hl := begin_lt _ _ _ a b c d
  rw [date_begin] at hl
  have z1 : begin_ (-9999) 0 = -4371587 := by decide
  have z2 : begin_ 10000 0 = 2932897 := by decide
  constructor
  · by_cases h : -9999 ≤ dateY n
    · exact h
    · have := begin_mono (dateY n + 1) (-9999) (by omega)
      omega
  · by_cases h : dateY n ≤ 9999
    · exact h
    · have := begin_mono 10000 (dateY n) (by omega)
      omega
/-- a date is told by its number -/
theorem date_uniq (y m d y' m' d' : Int) (m0 : 0 ≤ m) (m1 : m ≤ 11) (d0 : 1 ≤ d) (d1 : d ≤ len (leap y) m) (m0' : 0 ≤ m') (m1' : m' ≤ 11) (d0' : 1 ≤ d') (d1' : d' ≤ len (leap y') m')
    (h : begin_ y m + d = begin_ y' m' + d') : y = y' ∧ m = m' ∧ d = d' := by
  have a := begin_lt y m d m0 m1 d0 d1
  have b := begin_lt y' m' d' m0' m1' d0' d1'
  have hy : y = y' := by
    by_cases h1 : y < y'
    · have := begin_mono (y + 1) y' (by omega); omega
    · by_cases h2 : y' < y
      · have := begin_mono (y' + 1) y (by omega); omega
      · omega
  subst hy
  have hc : cum (leap y) m + d = cum (leap y) m' + d' := by unfold begin_ at h; rw [leap_mod] at h; omega
  have key : ∀ p q e f : Int, 0 ≤ p → p < q → q ≤ 11 → 1 ≤ f → e ≤ len (leap y) p → cum (leap y) p + e = cum (leap y) q + f → False := by
    intro p q e f p0 pq q1 f0 e1 he
    obtain ⟨k, rfl⟩ : ∃ k : Nat, q = p + 1 + k := ⟨(q - p - 1).toNat, by omega⟩
    have mono : ∀ k : Nat, p + 1 + k ≤ 11 → cum (leap y) (p + 1) ≤ cum (leap y) (p + 1 + k) := by
      intro k
      induction k with
      | zero => intro _; simp
      | succ k ih =>
        intro hk
        have i := ih (by omega)
        have s := cum_succ (leap y) (p + 1 + k) (by omega) (by omega)
        have l := len_bd (leap y) (p + 1 + k)
        have e : p + 1 + ((k + 1 : Nat) : Int) = p + 1 + k + 1 := by omega
        rw [e]; omega
    have s := cum_succ (leap y) p p0 (by omega)
    have := mono k q1
    omega
  have hm : m = m' := by
    by_cases h1 : m < m'
    · exact (key m m' d d' m0 h1 m1' d0' d1 hc).elim
    · by_cases h2 : m' < m
      · exact (key m' m d' d m0' h2 m1 d0 d1' hc.symm).elim
      · omega
  subst hm
  exact ⟨rfl, rfl, by omega⟩
end Go.Proofs.Ytomkhipfooafnaa.Cal
