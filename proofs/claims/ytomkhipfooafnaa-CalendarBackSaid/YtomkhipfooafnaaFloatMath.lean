/- Plain facts on float64: what order, absolute value, floor and conversion are on the numbers that the bits stand for. No program in sight. -/
import Derived.Test.YtomkhipfooafnaaFloat
set_option linter.unusedVariables false
set_option exponentiation.threshold 3000
namespace Go.Proofs.YtomkhipfooafnaaW.FM
open Go.RowKit Go.Proofs.YtomkhipfooafnaaW.PrintWords Ieee
theorem b_binade : Ieee.double.binade = 4503599627370496 := rfl
theorem b_sign : Ieee.double.signWeight = 9223372036854775808 := rfl
theorem b_inf : Ieee.double.infRung = 9218868437227405312 := rfl
theorem b_least : Ieee.double.leastPlace = -1074 := rfl
theorem dec_eq (x : Nat) : FloatKind.f64.decode x = Ieee.double.read x := rfl
theorem ord_eq (x y : Nat) : FloatKind.f64.format.order x y = (Ieee.double.read x).order (Ieee.double.read y) := rfl
theorem read_number {x : Nat} {s : Bool} {m : Nat} {e : Int} (h : Ieee.double.read x = .number s m e) : -1074 ≤ e ∧ e ≤ 971 ∧ m < 9007199254740992 := by
  unfold Format.read at h
  rw [b_sign, b_binade, b_inf, b_least] at h
  dsimp only at h
  split at h
  · injection h with h1 h2 h3
    omega
  · split at h
    · injection h with h1 h2 h3
      omega
    · split at h <;> injection h
/-- the number that a datum is, in units of 2 ^ -1074 -/
def sgn (s : Bool) (n : Nat) : Int := if s then -(n : Int) else n
def num (s : Bool) (m : Nat) (e : Int) : Int := sgn s (m * 2 ^ (e + 1074).toNat)
def INF : Int := 2 ^ 2200
def key : Datum → Option Int
  | .nan _ _ => none
  | .infinity s => some (if s then -INF else INF)
  | .number s m e => some (num s m e)
theorem num_bd {s : Bool} {m : Nat} {e : Int} (h0 : -1074 ≤ e) (h1 : e ≤ 971) (hm : m < 9007199254740992) : -INF < num s m e ∧ num s m e < INF := by
  have a : m * 2 ^ (e + 1074).toNat < 2 ^ 2200 := by
    have h2 : 2 ^ (e + 1074).toNat ≤ 2 ^ 2045 := Nat.pow_le_pow_right (by omega) (by omega)
    have h3 : m * 2 ^ (e + 1074).toNat ≤ 9007199254740992 * 2 ^ 2045 := Nat.mul_le_mul (by omega) h2
    have h4 : 9007199254740992 * 2 ^ 2045 < 2 ^ 2200 := by decide +kernel
    omega
  have b : ((m * 2 ^ (e + 1074).toNat : Nat) : Int) < INF := by
    unfold INF
    have : ((2 ^ 2200 : Nat) : Int) = (2 ^ 2200 : Int) := by simp
    omega
  have c : (0 : Int) < INF := by unfold INF; decide +kernel
  unfold num sgn
  generalize (m * 2 ^ (e + 1074).toNat : Nat) = q at *
  generalize INF = I at *
  cases s
  · simp only [Bool.false_eq_true, if_false]; omega
  · simp only [if_true]; omega
theorem cmp_scale (s t : Bool) (m n : Nat) (i j : Int) (hi : -1074 ≤ i) (hj : -1074 ≤ j) :
    compare (signed s m (i - min i j).toNat) (signed t n (j - min i j).toNat) = compare (num s m i) (num t n j) := by
  have e1 : (i + 1074).toNat = (i - min i j).toNat + (min i j + 1074).toNat := by omega
  have e2 : (j + 1074).toNat = (j - min i j).toNat + (min i j + 1074).toNat := by omega
  unfold num
  rw [e1, e2, Nat.pow_add, Nat.pow_add, ← Nat.mul_assoc, ← Nat.mul_assoc]
  have f1 : ∀ (s : Bool) (m k : Nat), signed s m k = sgn s (m * 2 ^ k) := by
    intro s m k
    unfold signed sgn
    rw [Nat.shiftLeft_eq]
  rw [f1, f1]
  have hp : 0 < 2 ^ (min i j + 1074).toNat := Nat.two_pow_pos _
  generalize 2 ^ (min i j + 1074).toNat = p at *
  generalize m * 2 ^ (i - min i j).toNat = a at *
  generalize n * 2 ^ (j - min i j).toNat = b at *
  have g : ∀ (s : Bool) (a : Nat), sgn s (a * p) = sgn s a * (p : Int) := by
    intro s a
    unfold sgn
    cases s
    · simp
    · simp [Int.neg_mul]
  rw [g, g]
  generalize sgn s a = u
  generalize sgn t b = v
  have hp' : (0 : Int) < p := by omega
  have lt_iff : u * (p : Int) < v * (p : Int) ↔ u < v := ⟨fun h => Int.lt_of_mul_lt_mul_right h (by omega), fun h => Int.mul_lt_mul_of_pos_right h hp'⟩
  have eq_iff : u * (p : Int) = v * (p : Int) ↔ u = v := ⟨fun h => Int.eq_of_mul_eq_mul_right (by omega) h, fun h => by rw [h]⟩
  simp only [compare, compareOfLessAndEq, lt_iff, eq_iff]
/-- the order of two words is that of their keys -/
theorem order_key (x y : Nat) : FloatKind.f64.format.order x y = match key (Ieee.double.read x), key (Ieee.double.read y) with
    | some a, some b => some (compare a b)
    | _, _ => none := by
  rw [ord_eq]
  have c0 : (0 : Int) < INF := by unfold INF; decide +kernel
  cases hx : Ieee.double.read x with
  | nan a b => simp [Datum.order, key]
  | infinity s =>
    cases hy : Ieee.double.read y with
    | nan a b => simp [Datum.order, key]
    | infinity t =>
      simp only [Datum.order, key]
      congr 1
      generalize INF = I at *
      have l1 : ¬ I < -I := by omega
      have l2 : ¬ I = -I := by omega
      have l3 : -I < I := by omega
      cases s <;> cases t <;> simp [compare, compareOfLessAndEq, l1, l2, l3]
    | number t n j =>
      obtain ⟨h0, h1, h2⟩ := read_number hy
      have hb := num_bd (s := t) h0 h1 h2
      simp only [Datum.order, key]
      congr 1
      generalize num t n j = v at *
      generalize INF = I at *
      cases s
      · have l1 : ¬ I < v := by omega
        have l2 : ¬ I = v := by omega
        simp [compare, compareOfLessAndEq, l1, l2]
      · have l1 : -I < v := by omega
        simp [compare, compareOfLessAndEq, l1]
  | number s m i =>
    obtain ⟨g0, g1, g2⟩ := read_number hx
    have hb := num_bd (s := s) g0 g1 g2
    cases hy : Ieee.double.read y with
    | nan a b => simp [Datum.order, key]
    | infinity t =>
      simp only [Datum.order, key]
      congr 1
      generalize num s m i = v at *
      generalize INF = I at *
      cases t
      · have l1 : v < I := by omega
        simp [compare, compareOfLessAndEq, l1]
      · have l1 : ¬ v < -I := by omega
        have l2 : ¬ v = -I := by omega
        simp [compare, compareOfLessAndEq, l1, l2]
    | number t n j =>
      obtain ⟨h0, h1, h2⟩ := read_number hy
      simp only [Datum.order, key]
      rw [cmp_scale s t m n i j g0 h0]
/-- a word's key: none of a NaN -/
def fkey (x : Nat) : Option Int := key (Ieee.double.read x)
theorem ord_lt (x y : Nat) : (FloatKind.f64.format.order x y == some Ordering.lt) = (match fkey x, fkey y with | some a, some b => decide (a < b) | _, _ => false) := by
  rw [order_key]
  unfold fkey
  cases key (Ieee.double.read x) <;> cases key (Ieee.double.read y) <;> try rfl
  rename_i a b
  by_cases h : a < b
  · simp [compare, compareOfLessAndEq, h]
  · by_cases h2 : a = b <;> simp [compare, compareOfLessAndEq, h, h2]
theorem ord_eqq (x y : Nat) : (FloatKind.f64.format.order x y == some Ordering.eq) = (match fkey x, fkey y with | some a, some b => decide (a = b) | _, _ => false) := by
  rw [order_key]
  unfold fkey
  cases key (Ieee.double.read x) <;> cases key (Ieee.double.read y) <;> try rfl
  rename_i a b
  by_cases h : a < b
  · have : ¬ a = b := by omega
    simp [compare, compareOfLessAndEq, h, this]
  · by_cases h2 : a = b <;> simp [compare, compareOfLessAndEq, h, h2]
theorem ord_gt (x y : Nat) : (FloatKind.f64.format.order x y == some Ordering.gt) = (match fkey x, fkey y with | some a, some b => decide (b < a) | _, _ => false) := by
  rw [order_key]
  unfold fkey
  cases key (Ieee.double.read x) <;> cases key (Ieee.double.read y) <;> try rfl
  rename_i a b
  by_cases h : a < b
  · have : ¬ b < a := by omega
    simp [compare, compareOfLessAndEq, h, this]
  · by_cases h2 : a = b
    · simp [compare, compareOfLessAndEq, h2]
    · have : b < a := by omega
      simp [compare, compareOfLessAndEq, h, h2, this]
theorem ord_ge (x y : Nat) : (FloatKind.f64.format.order x y == some Ordering.gt || FloatKind.f64.format.order x y == some Ordering.eq) = (match fkey x, fkey y with | some a, some b => decide (b ≤ a) | _, _ => false) := by
  rw [ord_gt, ord_eqq]
  cases fkey x <;> cases fkey y <;> try rfl
  rename_i a b
  rw [Bool.eq_iff_iff]
  simp
  omega
theorem ord_le (x y : Nat) : (FloatKind.f64.format.order x y == some Ordering.lt || FloatKind.f64.format.order x y == some Ordering.eq) = (match fkey x, fkey y with | some a, some b => decide (a ≤ b) | _, _ => false) := by
  rw [ord_lt, ord_eqq]
  cases fkey x <;> cases fkey y <;> try rfl
  rename_i a b
  rw [Bool.eq_iff_iff]
  simp
  omega
/-! the absolute value -/
def absB (x : Nat) : Nat := (Go.bits .andNot .u64 (x : Int) 9223372036854775808).toNat
theorem absB_eq (x : Nat) (hx : x < 18446744073709551616) : absB x = x % 9223372036854775808 := by
  unfold absB Go.bits
  have hw : ∀ n : Int, 0 ≤ n → n < 18446744073709551616 → IntKind.u64.wrap n = n := by
    intro n h0 h1
    have : IntKind.u64.wrap n = n % 18446744073709551616 := by rfl
    rw [this]
    omega
  have e : (BitVec.ofInt 64 (x : Int) &&& ~~~ BitVec.ofInt 64 9223372036854775808).toNat = x % 9223372036854775808 := by
    have k : (~~~ BitVec.ofInt 64 9223372036854775808 : BitVec 64) = BitVec.ofNat 64 9223372036854775807 := by decide
    rw [k, BitVec.toNat_and]
    have a : (BitVec.ofInt 64 (x : Int)).toNat = x := by
      rw [BitVec.toNat_ofInt]
      omega
    rw [a]
    have b : (BitVec.ofNat 64 9223372036854775807).toNat = 2 ^ 63 - 1 := by decide
    rw [b, Nat.and_two_pow_sub_one_eq_mod]
  show (IntKind.u64.wrap ((BitVec.ofInt 64 (x : Int) &&& ~~~ BitVec.ofInt 64 9223372036854775808).toNat : Int)).toNat = _
  rw [e, hw _ (by omega) (by omega)]
  omega
theorem fkey_abs (x : Nat) (hx : x < 18446744073709551616) : fkey (absB x) = (fkey x).map fun v => if v < 0 then -v else v := by
  rw [absB_eq x hx]
  have c0 : (0 : Int) < INF := by unfold INF; decide +kernel
  have e1 : x % 9223372036854775808 / 9223372036854775808 % 2 = 0 := by omega
  have e2 : x % 9223372036854775808 % 9223372036854775808 = x % 9223372036854775808 := by omega
  unfold fkey Format.read
  rw [b_sign, b_binade, b_inf, b_least]
  simp only [e1, e2]
  have z : ∀ (s : Bool) (m : Nat) (e : Int), some (num false m e) = (some (num s m e)).map (fun v : Int => if v < 0 then -v else v) := by
    intro s m e
    unfold num sgn
    generalize m * 2 ^ (e + 1074).toNat = q
    cases s
    · simp only [Option.map_some, Bool.false_eq_true, if_false]
      rw [if_neg (by omega)]
    · simp only [Option.map_some, Bool.false_eq_true, if_false, if_true]
      split
      · congr 1; omega
      · congr 1; omega
  split
  · exact z _ _ _
  · split
    · exact z _ _ _
    · split
      · simp only [key, Option.map_some]
        generalize INF = I at *
        cases (x / 9223372036854775808 % 2 == 1)
        · simp only [Bool.false_eq_true, if_false, show ((0 : Nat) == 1) = false from rfl]
          rw [if_neg (by omega)]
        · simp only [if_true, Bool.false_eq_true, if_false, show ((0 : Nat) == 1) = false from rfl]
          rw [if_pos (by omega)]
          congr 1
          omega
      · rfl
end Go.Proofs.YtomkhipfooafnaaW.FM
