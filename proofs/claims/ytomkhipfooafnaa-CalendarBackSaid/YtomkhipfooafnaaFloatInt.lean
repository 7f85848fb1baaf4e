/- Plain facts on float64 and whole numbers: numbers below 2^53 are exact, floor is floor, and conversion to int gives them back. No program in sight. -/
import Derived.Test.YtomkhipfooafnaaFloatMath
set_option linter.unusedVariables false
set_option exponentiation.threshold 3000
namespace Go.Proofs.YtomkhipfooafnaaW.FM
open Go.RowKit Go.Proofs.YtomkhipfooafnaaW.PrintWords Ieee
def TOP : Int := 2 ^ 1074
theorem top_nat : ((2 ^ 1074 : Nat) : Int) = TOP := by unfold TOP; simp
theorem read_word (s : Bool) (rung : Nat) (h0 : 4503599627370496 ≤ rung) (h1 : rung < 9218868437227405312) :
    Ieee.double.read (Ieee.double.word s rung) = .number s (4503599627370496 + rung % 4503599627370496) (-1074 + (rung / 4503599627370496 - 1 : Nat)) := by
  unfold Format.read Format.word
  rw [b_sign, b_binade, b_inf, b_least]
  cases s
  · simp only [Bool.false_eq_true, if_false]
    have e1 : rung / 9223372036854775808 % 2 = 0 := by omega
    have e2 : rung % 9223372036854775808 = rung := by omega
    rw [e1, e2, if_neg (by omega), if_pos (by omega)]
    rfl
  · simp only [if_true]
    have e1 : (9223372036854775808 + rung) / 9223372036854775808 % 2 = 1 := by omega
    have e2 : (9223372036854775808 + rung) % 9223372036854775808 = rung := by omega
    rw [e1, e2, if_neg (by omega), if_pos (by omega)]
    rfl
theorem cut0 (way : Toward) (s : Bool) (n : Nat) : way.cut s n 0 = n := by
  unfold Toward.cut
  have : 1 <<< min 0 (n.log2 + 2) = 1 := by simp
  rw [this]
  cases way <;> simp [Nat.mod_one]
theorem write_int (s : Bool) (m : Nat) (h0 : 0 < m) (h1 : m < 9007199254740992) :
    ∃ k : Nat, ∃ l : Nat, l ≤ 52 ∧ k = m * 2 ^ (52 - l) ∧ k.log2 = 52 ∧ Ieee.double.read (Ieee.double.write (.number s m 0)) = .number s k ((l : Int) - 52) := by
  have hl : m.log2 ≤ 52 := by
    have := (Nat.log2_lt (by omega) : m.log2 < 53 ↔ m < 2 ^ 53).2 (by omega)
    omega
  have lo : 2 ^ m.log2 ≤ m := Nat.log2_self_le (by omega)
  have hi : m < 2 ^ (m.log2 + 1) := Nat.lt_log2_self
  have klo : 4503599627370496 ≤ m * 2 ^ (52 - m.log2) := by
    have : 2 ^ m.log2 * 2 ^ (52 - m.log2) ≤ m * 2 ^ (52 - m.log2) := Nat.mul_le_mul_right _ lo
    rw [← Nat.pow_add, show m.log2 + (52 - m.log2) = 52 from by omega] at this
    omega
  have khi : m * 2 ^ (52 - m.log2) < 9007199254740992 := by
    have : m * 2 ^ (52 - m.log2) < 2 ^ (m.log2 + 1) * 2 ^ (52 - m.log2) := Nat.mul_lt_mul_of_pos_right hi (Nat.two_pow_pos _)
    rw [← Nat.pow_add, show m.log2 + 1 + (52 - m.log2) = 53 from by omega] at this
    omega
  refine ⟨m * 2 ^ (52 - m.log2), m.log2, hl, rfl, ?_, ?_⟩
  · have a := (Nat.log2_lt (by omega) : (m * 2 ^ (52 - m.log2)).log2 < 53 ↔ m * 2 ^ (52 - m.log2) < 2 ^ 53).2 (by omega)
    have b := (Nat.le_log2 (by omega) : 52 ≤ (m * 2 ^ (52 - m.log2)).log2 ↔ 2 ^ 52 ≤ m * 2 ^ (52 - m.log2)).2 (by omega)
    omega
  · show Ieee.double.read (Ieee.double.nearest s m 0) = _
    unfold Format.nearest
    rw [if_neg (by omega), b_least, b_binade, b_inf]
    have hf : (Ieee.double.fractionBits : Int) = 52 := rfl
    have hlast : max ((0 : Int) + (m.log2 : Int) - (Ieee.double.fractionBits : Int)) (-1074) = (m.log2 : Int) - 52 := by rw [hf]; omega
    simp only [hlast]
    have e1 : ((0 : Int) - ((m.log2 : Int) - 52)).toNat = 52 - m.log2 := by omega
    have e2 : ((m.log2 : Int) - 52 - 0).toNat = 0 := by omega
    have e3 : ((m.log2 : Int) - 52 - -1074).toNat = m.log2 + 1022 := by omega
    rw [e1, e2, e3, cut0, Nat.shiftLeft_eq]
    generalize m * 2 ^ (52 - m.log2) = k at *
    generalize m.log2 = l at *
    rw [Nat.min_eq_left (by omega), read_word s _ (by omega) (by omega)]
    have f1 : ((l + 1022) * 4503599627370496 + k) % 4503599627370496 = k - 4503599627370496 := by omega
    have f2 : ((l + 1022) * 4503599627370496 + k) / 4503599627370496 = l + 1023 := by omega
    have g1 : 4503599627370496 + (k - 4503599627370496) = k := by omega
    have g2 : (-1074 : Int) + ((l + 1023 - 1 : Nat) : Int) = (l : Int) - 52 := by omega
    rw [f1, f2, g1, g2]
theorem write_zero (s : Bool) : Ieee.double.read (Ieee.double.write (.number s 0 0)) = .number s 0 (-1074) := by cases s <;> rfl
/-- a whole number below 2^53 is exact -/
theorem int_key (s : Bool) (m : Nat) (h1 : m < 9007199254740992) : fkey (Ieee.double.write (.number s m 0)) = some (sgn s m * TOP) := by
  by_cases h0 : m = 0
  · subst h0
    unfold fkey
    rw [write_zero]
    cases s <;> simp [key, num, sgn]
  · obtain ⟨k, l, hl, hk, _, hr⟩ := write_int s m (by omega) h1
    unfold fkey
    rw [hr, ← top_nat]
    simp only [key, num]
    have e : ((l : Int) - 52 + 1074).toNat = l + 1022 := by omega
    have p : k * 2 ^ (l + 1022) = m * 2 ^ 1074 := by
      have q : 52 - l + (l + 1022) = 1074 := by omega
      rw [hk, Nat.mul_assoc, ← Nat.pow_add, q]
    rw [e, p]
    generalize (2 ^ 1074 : Nat) = T
    unfold sgn
    cases s
    · simp
    · simp [Int.neg_mul]
theorem int_toInt (s : Bool) (m : Nat) (h1 : m < 9007199254740992) : (Ieee.double.read (Ieee.double.write (.number s m 0))).toInt .zero = some (sgn s m) := by
  by_cases h0 : m = 0
  · subst h0
    rw [write_zero]
    cases s <;> rfl
  · obtain ⟨k, l, hl, hk, hlog, hr⟩ := write_int s m (by omega) h1
    rw [hr]
    unfold Datum.toInt Datum.integral
    have e1 : ((l : Int) - 52).toNat = 0 := by omega
    have e2 : (-((l : Int) - 52)).toNat = 52 - l := by omega
    simp only [e1, e2]
    have c : Toward.zero.cut s (k <<< 0) (52 - l) = m := by
      unfold Toward.cut
      rw [Nat.shiftLeft_zero, hlog, Nat.min_eq_left (by omega), Nat.shiftLeft_eq, Nat.one_mul, hk]
      simp [Nat.mul_div_cancel _ (Nat.two_pow_pos (52 - l))]
    simp only [c]
    unfold signed sgn
    rw [Nat.shiftLeft_zero]
theorem int_ok (s : Bool) (m : Nat) (h1 : m < 9007199254740992) : f2iok .i64 (Ieee.double.write (.number s m 0)) = true ∧ f2i .i64 (Ieee.double.write (.number s m 0)) = sgn s m := by
  have h : floatToIntVal .f64 (Ieee.double.write (.number s m 0)) .i64 = some (sgn s m) := by
    unfold floatToIntVal
    have e : (FloatKind.f64.decode (Ieee.double.write (.number s m 0))).toInt .zero = some (sgn s m) := int_toInt s m h1
    rw [e]
    have : IntKind.i64.min ≤ sgn s m ∧ sgn s m ≤ IntKind.i64.max := by
      have a : IntKind.i64.min = -9223372036854775808 := rfl
      have b : IntKind.i64.max = 9223372036854775807 := rfl
      rw [a, b]
      unfold sgn
      cases s
      · simp only [Bool.false_eq_true, if_false]; omega
      · simp only [if_true]; omega
    simp only [this]
    simp
  unfold f2iok f2i
  rw [h]
  exact ⟨rfl, rfl⟩
/-- floor's cut -/
theorem cut_down (s : Bool) (n drop : Nat) : Toward.down.cut s n drop = n / 2 ^ drop + (if s = true ∧ n % 2 ^ drop ≠ 0 then 1 else 0) := by
  unfold Toward.cut
  have hlt : n < 2 ^ (n.log2 + 1) := Nat.lt_log2_self
  have key : n / (1 <<< min drop (n.log2 + 2)) = n / 2 ^ drop ∧ n % (1 <<< min drop (n.log2 + 2)) = n % 2 ^ drop := by
    rw [Nat.shiftLeft_eq, Nat.one_mul]
    by_cases h : drop ≤ n.log2 + 2
    · rw [Nat.min_eq_left h]; exact ⟨rfl, rfl⟩
    · rw [Nat.min_eq_right (by omega)]
      have a : n < 2 ^ (n.log2 + 2) := Nat.lt_of_lt_of_le hlt (Nat.pow_le_pow_right (by omega) (by omega))
      have b : n < 2 ^ drop := Nat.lt_of_lt_of_le hlt (Nat.pow_le_pow_right (by omega) (by omega))
      rw [Nat.div_eq_of_lt a, Nat.div_eq_of_lt b, Nat.mod_eq_of_lt a, Nat.mod_eq_of_lt b]
      exact ⟨rfl, rfl⟩
  simp only [key.1, key.2]
  congr 1
  cases s
  · simp
  · by_cases h : n % 2 ^ drop = 0 <;> simp [h]
/-- floor gives the whole number just below -/
theorem floor_spec {x : Nat} {s : Bool} {m : Nat} {e : Int} (h : Ieee.double.read x = .number s m e) :
    ∃ c : Nat, wholeV .down x = Ieee.double.write (.number s c 0) ∧ sgn s c * TOP ≤ num s m e ∧ num s m e < (sgn s c + 1) * TOP := by
  obtain ⟨e0, e1, hm⟩ := read_number h
  refine ⟨Toward.down.cut s (m <<< e.toNat) (-e).toNat, ?_, ?_⟩
  · unfold wholeV
    rw [dec_eq, h]
    rfl
  rw [cut_down, Nat.shiftLeft_eq]
  have hT : (0 : Int) < TOP := by unfold TOP; decide +kernel
  by_cases he : 0 ≤ e
  · have d0 : (-e).toNat = 0 := by omega
    rw [d0]
    have : num s m e = sgn s (m * 2 ^ e.toNat) * TOP := by
      unfold num
      have p : (e + 1074).toNat = e.toNat + 1074 := by omega
      rw [p, Nat.pow_add, ← Nat.mul_assoc, ← top_nat]
      generalize m * 2 ^ e.toNat = q
      generalize (2 ^ 1074 : Nat) = T
      unfold sgn
      cases s
      · simp
      · simp [Int.neg_mul]
    rw [this]
    simp only [Nat.pow_zero, Nat.div_one, Nat.mod_one, ne_eq, not_true_eq_false, and_false, if_false, Nat.add_zero]
    generalize sgn s (m * 2 ^ e.toNat) = v
    generalize TOP = T at *
    rw [Int.add_mul]
    omega
  · have z : e.toNat = 0 := by omega
    rw [z]
    simp only [Nat.pow_zero, Nat.mul_one]
    have hU : (0 : Int) < ((2 ^ (e + 1074).toNat : Nat) : Int) := by have := Nat.two_pow_pos (e + 1074).toNat; omega
    have hD : 0 < 2 ^ (-e).toNat := Nat.two_pow_pos _
    have tu : TOP = ((2 ^ (-e).toNat : Nat) : Int) * ((2 ^ (e + 1074).toNat : Nat) : Int) := by
      have q : (-e).toNat + (e + 1074).toNat = 1074 := by omega
      rw [← top_nat, ← Int.natCast_mul, ← Nat.pow_add, q]
    have nu : num s m e = sgn s m * ((2 ^ (e + 1074).toNat : Nat) : Int) := by
      unfold num sgn
      cases s
      · simp
      · simp [Int.neg_mul]
    rw [tu, nu]
    generalize 2 ^ (e + 1074).toNat = U at *
    generalize 2 ^ (-e).toNat = D at *
    have eu := Nat.div_add_mod m D
    have lt := Nat.mod_lt m hD
    rw [← Int.mul_assoc, ← Int.mul_assoc]
    generalize m / D = q at *
    generalize m % D = r at *
    have eu' : (D : Int) * (q : Int) + (r : Int) = (m : Int) := by rw [← eu]; simp
    have key : sgn s (q + (if s = true ∧ r ≠ 0 then 1 else 0)) * (D : Int) ≤ sgn s m ∧ sgn s m < (sgn s (q + (if s = true ∧ r ≠ 0 then 1 else 0)) + 1) * (D : Int) := by
      unfold sgn
      cases s
      · simp only [Bool.false_eq_true, false_and, if_false, Nat.add_zero]
        rw [Int.add_mul, Int.mul_comm (q : Int) (D : Int)]
        omega
      · by_cases hr : r = 0
        · subst hr
          simp only [ne_eq, not_true_eq_false, and_false, if_false, if_true, Nat.add_zero]
          rw [Int.add_mul, Int.neg_mul, Int.mul_comm (q : Int) (D : Int)]
          omega
        · simp only [ne_eq, hr, not_false_eq_true, and_self, if_true]
          rw [Int.add_mul, Int.neg_mul]
          have : ((q + 1 : Nat) : Int) * (D : Int) = (D : Int) * q + D := by
            rw [Int.natCast_add, Int.add_mul, Int.mul_comm (q : Int) (D : Int)]
            simp
          rw [this]
          omega
    exact ⟨Int.mul_le_mul_of_nonneg_right key.1 (by omega), Int.mul_lt_mul_of_pos_right key.2 hU⟩
end Go.Proofs.YtomkhipfooafnaaW.FM
