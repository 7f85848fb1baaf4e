/- Texts of this claim, put together. -/
import Derived.Test.YtmpmbnmldmpmiaaGreatDoorFloat
set_option linter.unusedVariables false
set_option exponentiation.threshold 3000
namespace Go.Proofs.YtmpmbnmldmpmiaaGreatDoorW.FM
open Go.RowKit Go.Proofs.YtmpmbnmldmpmiaaGreatDoorW.PrintWords Ieee
theorem b_binade : Ieee.double.binade = 4503599627370496 := rfl
theorem b_sign : Ieee.double.signWeight = 9223372036854775808 := rfl
theorem b_inf : Ieee.double.infRung = 9218868437227405312 := rfl
theorem b_least : Ieee.double.leastPlace = -1074 := rfl
theorem ord_eq (x y : Nat) : FloatKind.f64.format.order x y = (Ieee.double.read x).order (Ieee.double.read y) := rfl
theorem read_number {x : Nat} {s : Bool} {m : Nat} {e : Int} (h : Ieee.double.read x = .number s m e) : -1074 ≤ e ∧ e ≤ 971 ∧ m < 9007199254740992 := by
  unfold Format.read at h
  rw [b_sign, b_binade, b_inf, b_least] at h
  dsimp only at h
  split at h
  · injection h with h1 h2 h3
    omega
  · split at h
    · injection h with h1 h2 h3
      omega
    · split at h <;> injection h
/-- the number that a datum is, in units of 2 ^ -1074 -/
def sgn (s : Bool) (n : Nat) : Int := if s then -(n : Int) else n
def num (s : Bool) (m : Nat) (e : Int) : Int := sgn s (m * 2 ^ (e + 1074).toNat)
def INF : Int := 2 ^ 2200
def key : Datum → Option Int
  | .nan _ _ => none
  | .infinity s => some (if s then -INF else INF)
  | .number s m e => some (num s m e)
theorem num_bd {s : Bool} {m : Nat} {e : Int} (h0 : -1074 ≤ e) (h1 : e ≤ 971) (hm : m < 9007199254740992) : -INF < num s m e ∧ num s m e < INF := by
  have a : m * 2 ^ (e + 1074).toNat < 2 ^ 2200 := by
    have h2 : 2 ^ (e + 1074).toNat ≤ 2 ^ 2045 := Nat.pow_le_pow_right (by omega) (by omega)
    have h3 : m * 2 ^ (e + 1074).toNat ≤ 9007199254740992 * 2 ^ 2045 := Nat.mul_le_mul (by omega) h2
    have h4 : 9007199254740992 * 2 ^ 2045 < 2 ^ 2200 := by decide +kernel
    omega
  have b : ((m * 2 ^ (e + 1074).toNat : Nat) : Int) < INF := by
    unfold INF
    have : ((2 ^ 2200 : Nat) : Int) = (2 ^ 2200 : Int) := by simp
    omega
  have c : (0 : Int) < INF := by unfold INF; decide +kernel
  unfold num sgn
  generalize (m * 2 ^ (e + 1074).toNat : Nat) = q at *
  generalize INF = I at *
  cases s
  · simp only [Bool.false_eq_true, if_false]; omega
  · simp only [if_true]; omega
theorem cmp_scale (s t : Bool) (m n : Nat) (i j : Int) (hi : -1074 ≤ i) (hj : -1074 ≤ j) :
    compare (signed s m (i - min i j).toNat) (signed t n (j - min i j).toNat) = compare (num s m i) (num t n j) := by
  have e1 : (i + 1074).toNat = (i - min i j).toNat + (min i j + 1074).toNat := by omega
  have e2 : (j + 1074).toNat = (j - min i j).toNat + (min i j + 1074).toNat := by omega
  unfold num
  rw [e1, e2, Nat.pow_add, Nat.pow_add, ← Nat.mul_assoc, ← Nat.mul_assoc]
  have f1 : ∀ (s : Bool) (m k : Nat), signed s m k = sgn s (m * 2 ^ k) := by
    intro s m k
    unfold signed sgn
    rw [Nat.shiftLeft_eq]
  rw [f1, f1]
  have hp : 0 < 2 ^ (min i j + 1074).toNat := Nat.two_pow_pos _
  generalize 2 ^ (min i j + 1074).toNat = p at *
  generalize m * 2 ^ (i - min i j).toNat = a at *
  generalize n * 2 ^ (j - min i j).toNat = b at *
  have g : ∀ (s : Bool) (a : Nat), sgn s (a * p) = sgn s a * (p : Int) := by
    intro s a
    unfold sgn
    cases s
    · simp
    · simp [Int.neg_mul]
  rw [g, g]
  generalize sgn s a = u
  generalize sgn t b = v
  have hp' : (0 : Int) < p := by omega
  have lt_iff : u * (p : Int) < v * (p : Int) ↔ u < v := ⟨fun h => Int.lt_of_mul_lt_mul_right h (by omega), fun h => Int.mul_lt_mul_of_pos_right h hp'⟩
  have eq_iff : u * (p : Int) = v * (p : Int) ↔ u = v := ⟨fun h => Int.eq_of_mul_eq_mul_right (by omega) h, fun h => by rw [h]⟩
  simp only [compare, compareOfLessAndEq, lt_iff, eq_iff]
/-- the order of two words is that of their keys -/
theorem order_key (x y : Nat) : FloatKind.f64.format.order x y = match key (Ieee.double.read x), key (Ieee.double.read y) with
    | some a, some b => some (compare a b)
    | _, _ => none := by
  rw [ord_eq]
  have c0 : (0 : Int) < INF := by unfold INF; decide +kernel
  cases hx : Ieee.double.read x with
  | nan a b => simp [Datum.order, key]
  | infinity s =>
    cases hy : Ieee.double.read y with
    | nan a b => simp [Datum.order, key]
    | infinity t =>
      simp only [Datum.order, key]
      congr 1
      generalize INF = I at *
      have l1 : ¬ I < -I := by omega
      have l2 : ¬ I = -I := by omega
      have l3 : -I < I := by omega
      cases s <;> cases t <;> simp [compare, compareOfLessAndEq, l1, l2, l3]
    | number t n j =>
      obtain ⟨h0, h1, h2⟩ := read_number hy
      have hb := num_bd (s := t) h0 h1 h2
      simp only [Datum.order, key]
      congr 1
      generalize num t n j = v at *
      generalize INF = I at *
      cases s
      · have l1 : ¬ I < v := by omega
        have l2 : ¬ I = v := by omega
        simp [compare, compareOfLessAndEq, l1, l2]
      · have l1 : -I < v := by omega
        simp [compare, compareOfLessAndEq, l1]
  | number s m i =>
    obtain ⟨g0, g1, g2⟩ := read_number hx
    have hb := num_bd (s := s) g0 g1 g2
    cases hy : Ieee.double.read y with
    | nan a b => simp [Datum.order, key]
    | infinity t =>
      simp only [Datum.order, key]
      congr 1
      generalize num s m i = v at *
      generalize INF = I at *
      cases t
      · have l1 : v < I := by omega
        simp [compare, compareOfLessAndEq, l1]
      · have l1 : ¬ v < -I := by omega
        have l2 : ¬ v = -I := by omega
        simp [compare, compareOfLessAndEq, l1, l2]
    | number t n j =>
      obtain ⟨h0, h1, h2⟩ := read_number hy
      simp only [Datum.order, key]
      rw [cmp_scale s t m n i j g0 h0]
/-- a word's key: none of a NaN -/
def fkey (x : Nat) : Option Int := key (Ieee.double.read x)
theorem ord_lt (x y : Nat) : (FloatKind.f64.format.order x y == some Ordering.lt) = (match fkey x, fkey y with | some a, some b => decide (a < b) | _, _ => false) := by
  rw [order_key]
  unfold fkey
  cases key (Ieee.double.read x) <;> cases key (Ieee.double.read y) <;> try rfl
  rename_i a b
  by_cases h : a < b
  · simp [compare, compareOfLessAndEq, h]
  · by_cases h2 : a = b <;> simp [compare, compareOfLessAndEq, h, h2]
theorem ord_eqq (x y : Nat) : (FloatKind.f64.format.order x y == some Ordering.eq) = (match fkey x, fkey y with | some a, some b => decide (a = b) | _, _ => false) := by
  rw [order_key]
  unfold fkey
  cases key (Ieee.double.read x) <;> cases key (Ieee.double.read y) <;> try rfl
  rename_i a b
  by_cases h : a < b
  · have : ¬ a = b := by omega
    simp [compare, compareOfLessAndEq, h, this]
  · by_cases h2 : a = b <;> simp [compare, compareOfLessAndEq, h, h2]
theorem ord_gt (x y : Nat) : (FloatKind.f64.format.order x y == some Ordering.gt) = (match fkey x, fkey y with | some a, some b => decide (b < a) | _, _ => false) := by
  rw [order_key]
  unfold fkey
  cases key (Ieee.double.read x) <;> cases key (Ieee.double.read y) <;> try rfl
  rename_i a b
  by_cases h : a < b
  · have : ¬ b < a := by omega
    simp [compare, compareOfLessAndEq, h, this]
  · by_cases h2 : a = b
    · simp [compare, compareOfLessAndEq, h2]
    · have : b < a := by omega
      simp [compare, compareOfLessAndEq, h, h2, this]
end Go.Proofs.YtmpmbnmldmpmiaaGreatDoorW.FM
set_option linter.unusedVariables false
set_option exponentiation.threshold 3000
namespace Go.Proofs.YtmpmbnmldmpmiaaGreatDoorW.FM
open Go.RowKit Go.Proofs.YtmpmbnmldmpmiaaGreatDoorW.PrintWords Ieee
def TOP : Int := 2 ^ 1074
theorem top_nat : ((2 ^ 1074 : Nat) : Int) = TOP := by unfold TOP; simp
theorem read_word (s : Bool) (rung : Nat) (h0 : 4503599627370496 ≤ rung) (h1 : rung < 9218868437227405312) :
    Ieee.double.read (Ieee.double.word s rung) = .number s (4503599627370496 + rung % 4503599627370496) (-1074 + (rung / 4503599627370496 - 1 : Nat)) := by
  unfold Format.read Format.word
  rw [b_sign, b_binade, b_inf, b_least]
  cases s
  · simp only [Bool.false_eq_true, if_false]
    have e1 : rung / 9223372036854775808 % 2 = 0 := by omega
    have e2 : rung % 9223372036854775808 = rung := by omega
    rw [e1, e2, if_neg (by omega), if_pos (by omega)]
    rfl
  · simp only [if_true]
    have e1 : (9223372036854775808 + rung) / 9223372036854775808 % 2 = 1 := by omega
    have e2 : (9223372036854775808 + rung) % 9223372036854775808 = rung := by omega
    rw [e1, e2, if_neg (by omega), if_pos (by omega)]
    rfl
theorem cut0 (way : Toward) (s : Bool) (n : Nat) : way.cut s n 0 = n := by
  unfold Toward.cut
  have : 1 <<< min 0 (n.log2 + 2) = 1 := by simp
  rw [this]
  cases way <;> simp [Nat.mod_one]
theorem write_int (s : Bool) (m : Nat) (h0 : 0 < m) (h1 : m < 9007199254740992) :
    ∃ k : Nat, ∃ l : Nat, l ≤ 52 ∧ k = m * 2 ^ (52 - l) ∧ k.log2 = 52 ∧ Ieee.double.read (Ieee.double.write (.number s m 0)) = .number s k ((l : Int) - 52) := by
  have hl : m.log2 ≤ 52 := by
    have := (Nat.log2_lt (by omega) : m.log2 < 53 ↔ m < 2 ^ 53).2 (by omega)
    omega
  have lo : 2 ^ m.log2 ≤ m := Nat.log2_self_le (by omega)
  have hi : m < 2 ^ (m.log2 + 1) := Nat.lt_log2_self
  have klo : 4503599627370496 ≤ m * 2 ^ (52 - m.log2) := by
    have : 2 ^ m.log2 * 2 ^ (52 - m.log2) ≤ m * 2 ^ (52 - m.log2) := Nat.mul_le_mul_right _ lo
    rw [← Nat.pow_add, show m.log2 + (52 - m.log2) = 52 from by omega] at this
    omega
  have khi : m * 2 ^ (52 - m.log2) < 9007199254740992 := by
    have : m * 2 ^ (52 - m.log2) < 2 ^ (m.log2 + 1) * 2 ^ (52 - m.log2) := Nat.mul_lt_mul_of_pos_right hi (Nat.two_pow_pos _)
    rw [← Nat.pow_add, show m.log2 + 1 + (52 - m.log2) = 53 from by omega] at this
    omega
  refine ⟨m * 2 ^ (52 - m.log2), m.log2, hl, rfl, ?_, ?_⟩
  · have a := (Nat.log2_lt (by omega) : (m * 2 ^ (52 - m.log2)).log2 < 53 ↔ m * 2 ^ (52 - m.log2) < 2 ^ 53).2 (by omega)
    have b := (Nat.le_log2 (by omega) : 52 ≤ (m * 2 ^ (52 - m.log2)).log2 ↔ 2 ^ 52 ≤ m * 2 ^ (52 - m.log2)).2 (by omega)
    omega
  · show Ieee.double.read (Ieee.double.nearest s m 0) = _
    unfold Format.nearest
    rw [if_neg (by omega), b_least, b_binade, b_inf]
    have hf : (Ieee.double.fractionBits : Int) = 52 := rfl
    have hlast : max ((0 : Int) + (m.log2 : Int) - (Ieee.double.fractionBits : Int)) (-1074) = (m.log2 : Int) - 52 := by rw [hf]; omega
    simp only [hlast]
    have e1 : ((0 : Int) - ((m.log2 : Int) - 52)).toNat = 52 - m.log2 := by omega
    have e2 : ((m.log2 : Int) - 52 - 0).toNat = 0 := by omega
    have e3 : ((m.log2 : Int) - 52 - -1074).toNat = m.log2 + 1022 := by omega
    rw [e1, e2, e3, cut0, Nat.shiftLeft_eq]
    generalize m * 2 ^ (52 - m.log2) = k at *
    generalize m.log2 = l at *
    rw [Nat.min_eq_left (by omega), read_word s _ (by omega) (by omega)]
    have f1 : ((l + 1022) * 4503599627370496 + k) % 4503599627370496 = k - 4503599627370496 := by omega
    have f2 : ((l + 1022) * 4503599627370496 + k) / 4503599627370496 = l + 1023 := by omega
    have g1 : 4503599627370496 + (k - 4503599627370496) = k := by omega
    have g2 : (-1074 : Int) + ((l + 1023 - 1 : Nat) : Int) = (l : Int) - 52 := by omega
    rw [f1, f2, g1, g2]
theorem write_zero (s : Bool) : Ieee.double.read (Ieee.double.write (.number s 0 0)) = .number s 0 (-1074) := by cases s <;> rfl
/-- a whole number below 2^53 is exact -/
theorem int_key (s : Bool) (m : Nat) (h1 : m < 9007199254740992) : fkey (Ieee.double.write (.number s m 0)) = some (sgn s m * TOP) := by
  by_cases h0 : m = 0
  · subst h0
    unfold fkey
    rw [write_zero]
    cases s <;> simp [key, num, sgn]
  · obtain ⟨k, l, hl, hk, _, hr⟩ := write_int s m (by omega) h1
    unfold fkey
    rw [hr, ← top_nat]
    simp only [key, num]
    have e : ((l : Int) - 52 + 1074).toNat = l + 1022 := by omega
    have p : k * 2 ^ (l + 1022) = m * 2 ^ 1074 := by
      have q : 52 - l + (l + 1022) = 1074 := by omega
      rw [hk, Nat.mul_assoc, ← Nat.pow_add, q]
    rw [e, p]
    generalize (2 ^ 1074 : Nat) = T
    unfold sgn
    cases s
    · simp
    · simp [Int.neg_mul]
end Go.Proofs.YtmpmbnmldmpmiaaGreatDoorW.FM
