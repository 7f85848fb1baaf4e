/- Both Splits in plain arithmetic: they give the same time and the same error, for every word. -/
import Derived.Test.YtomkhipfooafnaaHandSplits
set_option linter.unusedVariables false
set_option exponentiation.threshold 3000
namespace Go.Proofs.Ytomkhipfooafnaa.P
open Go.RowKit Go.Proofs.YtomkhipfooafnaaW.PrintWords Go.Proofs.YtomkhipfooafnaaW.PrintLast Go.Proofs.YtomkhipfooafnaaW.PrintMore Go.Proofs.YtomkhipfooafnaaW.FM Go.Proofs.Ytomkhipfooafnaa.Cal Ieee
/-- a word up to infinity is no NaN -/
theorem word_key (s : Bool) (rung : Nat) (h : rung ≤ 9218868437227405312) : ∃ v, fkey (Ieee.double.word s rung) = some v := by
  unfold fkey Format.read Format.word
  rw [b_sign, b_binade, b_inf, b_least]
  have e2 : (if s then 9223372036854775808 + rung else rung) % 9223372036854775808 = rung := by cases s <;> simp <;> omega
  rw [e2]
  generalize (if s then 9223372036854775808 + rung else rung) / 9223372036854775808 % 2 = z
  generalize (z == 1) = neg
  dsimp only
  by_cases h1 : rung < 4503599627370496
  · rw [if_pos h1]
    exact ⟨_, rfl⟩
  · rw [if_neg h1]
    by_cases h2 : rung < 9218868437227405312
    · rw [if_pos h2]
      exact ⟨_, rfl⟩
    · rw [if_neg h2, if_pos (by omega)]
      exact ⟨_, rfl⟩
theorem key_number (s : Bool) (m : Nat) (e : Int) : key (.number s m e) = some (Go.Proofs.YtomkhipfooafnaaW.FM.num s m e) := rfl
theorem key_inf (s : Bool) : key (.infinity s) = some (if s then -INF else INF) := rfl
theorem write_key (d : Datum) (h : d.isNaN = false) : ∃ v, fkey (Ieee.double.write d) = some v := by
  cases d with
  | nan a b => simp [Datum.isNaN] at h
  | infinity s => exact word_key s _ (by rw [b_inf]; exact Nat.le_refl _)
  | number s m e =>
    show ∃ v, fkey (Ieee.double.nearest s m e) = some v
    unfold Format.nearest
    split
    · exact word_key s 0 (by omega)
    · dsimp only
      rw [b_inf]
      exact word_key s _ (Nat.min_le_right ..)
theorem key_nan {x : Nat} {v : Int} (h : fkey x = some v) : (Ieee.double.read x).isNaN = false := by
  unfold fkey at h
  cases hd : Ieee.double.read x with
  | nan a b => rw [hd] at h; simp [key] at h
  | infinity s => rfl
  | number s m e => rfl
theorem ord_self {x : Nat} {v : Int} (h : fkey x = some v) : (FloatKind.f64.format.order x x == some Ordering.eq) = true := by
  rw [ord_eqq, h]
  simp
/-- a whole number from 2^52 on stays at least that -/
theorem big_write (s : Bool) (N : Nat) (h : 4503599627370496 ≤ N) : ∃ v, fkey (Ieee.double.write (.number s N 0)) = some v ∧ (v ≤ -4503599627370496 * TOP ∨ 4503599627370496 * TOP ≤ v) := by
  have tp := top_pos
  have hI : 4503599627370496 * TOP ≤ INF := by unfold TOP INF; decide +kernel
  show ∃ v, fkey (Ieee.double.nearest s N 0) = some v ∧ _
  unfold Format.nearest
  rw [if_neg (by omega), b_least, b_binade, b_inf]
  have hf : (Ieee.double.fractionBits : Int) = 52 := rfl
  have hlog : 52 ≤ N.log2 := (Nat.le_log2 (by omega)).2 (by omega)
  have hlast : max ((0 : Int) + (N.log2 : Int) - (Ieee.double.fractionBits : Int)) (-1074) = (N.log2 : Int) - 52 := by rw [hf]; omega
  simp only [hlast]
  have e1 : ((0 : Int) - ((N.log2 : Int) - 52)).toNat = 0 := by omega
  have e2 : ((N.log2 : Int) - 52 - 0).toNat = N.log2 - 52 := by omega
  have e3 : ((N.log2 : Int) - 52 - -1074).toNat = N.log2 + 1022 := by omega
  rw [e1, e2, e3, Nat.shiftLeft_zero]
  have hk : 4503599627370496 ≤ Toward.even.cut s N (N.log2 - 52) := by
    unfold Toward.cut
    have g : 1 <<< min (N.log2 - 52) (N.log2 + 2) = 2 ^ (N.log2 - 52) := by rw [Nat.min_eq_left (by omega), Nat.shiftLeft_eq, Nat.one_mul]
    simp only [g]
    have lo : 2 ^ N.log2 ≤ N := Nat.log2_self_le (by omega)
    have q : 4503599627370496 ≤ N / 2 ^ (N.log2 - 52) := by
      rw [Nat.le_div_iff_mul_le (Nat.two_pow_pos _)]
      have : 4503599627370496 * 2 ^ (N.log2 - 52) = 2 ^ N.log2 := by
        have h2 : (4503599627370496 : Nat) = 2 ^ 52 := by decide
        rw [h2, ← Nat.pow_add]
        congr 1
        omega
      omega
    omega
  generalize Toward.even.cut s N (N.log2 - 52) = kept at *
  generalize N.log2 = l at *
  by_cases hm : (l + 1022) * 4503599627370496 + kept < 9218868437227405312
  · obtain ⟨R, hr⟩ : ∃ R, (l + 1022) * 4503599627370496 + kept = R := ⟨_, rfl⟩
    rw [hr] at hm
    rw [hr, Nat.min_eq_left (by omega)]
    unfold fkey
    rw [read_word s _ (by omega) hm, key_number]
    refine ⟨_, rfl, ?_⟩
    have hdiv : 1075 ≤ R / 4503599627370496 := by omega
    have hpl : (-1074 + ((R / 4503599627370496 - 1 : Nat) : Int) + 1074).toNat = R / 4503599627370496 - 1 := by omega
    unfold Go.Proofs.YtomkhipfooafnaaW.FM.num
    rw [hpl]
    have hp : 2 ^ 1074 ≤ 2 ^ (R / 4503599627370496 - 1) := Nat.pow_le_pow_right (by omega) (by omega)
    have hmul : 4503599627370496 * 2 ^ 1074 ≤ (4503599627370496 + R % 4503599627370496) * 2 ^ (R / 4503599627370496 - 1) := Nat.mul_le_mul (by omega) hp
    rw [← top_nat]
    generalize (4503599627370496 + R % 4503599627370496) * 2 ^ (R / 4503599627370496 - 1) = Q at *
    generalize (2 ^ 1074 : Nat) = T at *
    unfold sgn
    cases s
    · right; simp only [Bool.false_eq_true, if_false]; omega
    · left; simp only [if_true]; omega
  · rw [Nat.min_eq_right (by omega)]
    have hw : Ieee.double.read (Ieee.double.word s 9218868437227405312) = .infinity s := by cases s <;> decide +kernel
    unfold fkey
    rw [hw, key_inf]
    refine ⟨_, rfl, ?_⟩
    generalize INF = I at *
    cases s
    · right; simp only [Bool.false_eq_true, if_false]; omega
    · left; simp only [if_true]; omega
/-- what floor gives of a word: a NaN; something too great; or a whole number -/
theorem floor_cases (x : Nat) (hx : wholeOk x = true) : math_Floor.f x = some (wholeV .down x) ∧
    (fkey (wholeV .down x) = none ∨ (∃ v, fkey (wholeV .down x) = some v ∧ (v ≤ -4503599627370496 * TOP ∨ 4503599627370496 * TOP ≤ v)) ∨
     (∃ v, fkey x = some v ∧ -4503599627370496 * TOP ≤ v ∧ v ≤ 4503599627370496 * TOP)) := by
  refine ⟨by unfold math_Floor.f; rw [if_pos hx], ?_⟩
  have tp := top_pos
  have hI : 4503599627370496 * TOP ≤ INF := by unfold TOP INF; decide +kernel
  cases hr : Ieee.double.read x with
  | nan a b =>
    left
    have : wholeV .down x = x := by unfold wholeV; rw [dec_eq, hr]
    rw [this]
    unfold fkey
    rw [hr]
    rfl
  | infinity s =>
    right; left
    have : wholeV .down x = Ieee.double.write (.infinity s) := by unfold wholeV; rw [dec_eq, hr]; rfl
    rw [this]
    have hw : Ieee.double.read (Ieee.double.write (.infinity s)) = .infinity s := by cases s <;> decide +kernel
    unfold fkey
    rw [hw, key_inf]
    refine ⟨_, rfl, ?_⟩
    generalize INF = I at *
    cases s
    · right; simp only [Bool.false_eq_true, if_false]; omega
    · left; simp only [if_true]; omega
  | number s m e =>
    right
    by_cases hb : -4503599627370496 * TOP ≤ Go.Proofs.YtomkhipfooafnaaW.FM.num s m e ∧ Go.Proofs.YtomkhipfooafnaaW.FM.num s m e ≤ 4503599627370496 * TOP
    · right
      exact ⟨_, by unfold fkey; rw [hr]; rfl, hb.1, hb.2⟩
    · left
      obtain ⟨n, hw, l0, l1⟩ := floor_spec hr
      have hn : 4503599627370496 ≤ n := by
        by_cases hn : 4503599627370496 ≤ n
        · exact hn
        · exfalso
          apply hb
          have a : -4503599627370496 ≤ sgn s n := by unfold sgn; cases s <;> simp <;> omega
          have b : sgn s n + 1 ≤ 4503599627370496 := by unfold sgn; cases s <;> simp <;> omega
          have a' : -4503599627370496 * TOP ≤ sgn s n * TOP := Int.mul_le_mul_of_nonneg_right a (by omega)
          have b' : (sgn s n + 1) * TOP ≤ 4503599627370496 * TOP := Int.mul_le_mul_of_nonneg_right b (by omega)
          omega
      rw [hw]
      exact big_write s n hn
theorem tril : fkey 4786511204640096256 = some (1000000000000 * TOP) := by
  have h : Ieee.double.write (.number false 1000000000000 0) = 4786511204640096256 := by decide +kernel
  rw [← h, int_key _ _ (by decide)]
  rfl
theorem quad_hi : fkey 4831355200913801216 = some (1000000000000000 * TOP) := by
  have h : Ieee.double.write (.number false 1000000000000000 0) = 4831355200913801216 := by decide +kernel
  rw [← h, int_key _ _ (by decide)]
  rfl
theorem quad_lo : fkey 14054727237768577024 = some (-1000000000000000 * TOP) := by
  have h : Ieee.double.write (.number true 1000000000000000 0) = 14054727237768577024 := by decide +kernel
  rw [← h, int_key _ _ (by decide)]
  rfl
theorem whole_lt (x : Nat) (hx : x < 18446744073709551616) : wholeV .down x < 18446744073709551616 := by
  unfold wholeV
  split
  · exact hx
  · exact Ieee.double.write_lt _
theorem fok_of {op : BinOp} {x y : Nat} {d : Datum} (h : floatBits op .f64 x y = some (Ieee.double.write d)) : fok op x y = true ∧ fval op x y = Ieee.double.write d := by
  unfold fok fval
  rw [h]
  exact ⟨rfl, rfl⟩
/-- a difference of two numbers, and a sum of numbers: they are there, and no NaN -/
theorem sub_ok (x y : Nat) (hx : ∃ s m e, Ieee.double.read x = .number s m e) (hy : ∃ s m e, Ieee.double.read y = .number s m e) : fok .sub x y = true ∧ ∃ s m e, fval .sub x y = Ieee.double.write (.number s m e) := by
  obtain ⟨s, m, e, hx⟩ := hx
  obtain ⟨t, n, j, hy⟩ := hy
  have : ∃ s' m' e', floatBits .sub .f64 x y = some (Ieee.double.write (.number s' m' e')) := by
    have g : ∃ s' m' e', (Datum.number s m e).sum (Datum.number t n j).opposite = some (.number s' m' e') := ⟨_, _, _, rfl⟩
    obtain ⟨s', m', e', g⟩ := g
    refine ⟨s', m', e', ?_⟩
    show ((Ieee.double.read x).sum (Ieee.double.read y).opposite).map Ieee.double.write = _
    rw [hx, hy, g]
    rfl
  obtain ⟨s', m', e', h⟩ := this
  exact ⟨(fok_of h).1, s', m', e', (fok_of h).2⟩
theorem add_ok (x y : Nat) (hx : ∃ s m e, Ieee.double.read x = .number s m e) (hy : (Ieee.double.read y).isNaN = false) : fok .add x y = true ∧ ∃ v, fkey (fval .add x y) = some v := by
  obtain ⟨s, m, e, hx⟩ := hx
  have : ∃ d : Datum, d.isNaN = false ∧ floatBits .add .f64 x y = some (Ieee.double.write d) := by
    show ∃ d : Datum, d.isNaN = false ∧ ((Ieee.double.read x).sum (Ieee.double.read y)).map Ieee.double.write = _
    rw [hx]
    cases hd : Ieee.double.read y with
    | nan a b => rw [hd] at hy; simp [Datum.isNaN] at hy
    | infinity t => exact ⟨_, rfl, rfl⟩
    | number t n j => exact ⟨_, rfl, rfl⟩
  obtain ⟨d, hd, h⟩ := this
  exact ⟨(fok_of h).1, by rw [(fok_of h).2]; exact write_key d hd⟩
theorem int_read (s : Bool) (m : Nat) (h1 : m < 9007199254740992) : ∃ s' m' e', Ieee.double.read (Ieee.double.write (.number s m 0)) = .number s' m' e' := by
  by_cases h0 : m = 0
  · subst h0; exact ⟨_, _, _, write_zero s⟩
  · obtain ⟨k, l, _, _, _, hr⟩ := write_int s m (by omega) h1
    exact ⟨_, _, _, hr⟩
theorem ofInt_eq (n : Int) : floatOfInt .f64 n = Ieee.double.write (.number (decide (n < 0)) n.natAbs 0) := rfl
theorem num_read {x : Nat} {v c : Int} (hv : fkey x = some v) (h0 : -c * TOP ≤ v) (h1 : v ≤ c * TOP) (hc0 : 0 ≤ c) (hc : c < 9007199254740992) : ∃ s m e, Ieee.double.read x = .number s m e := by
  have tp := top_pos
  unfold fkey at hv
  cases hd : Ieee.double.read x with
  | nan a b => rw [hd] at hv; simp [key] at hv
  | number s m e => exact ⟨_, _, _, rfl⟩
  | infinity s =>
    exfalso
    rw [hd] at hv
    simp only [key, Option.some.injEq] at hv
    have a : c * TOP ≤ 9007199254740992 * TOP := Int.mul_le_mul_of_nonneg_right (by omega) (by omega)
    have b : 9007199254740992 * TOP < INF := by unfold TOP INF; decide +kernel
    rw [Int.neg_mul] at h0
    cases s
    · simp only [Bool.false_eq_true, if_false] at hv; omega
    · simp only [if_true] at hv; omega
def zeroT (a : Int × Int × Int × Int × Int × Nat × Int × Int × Int) : Prop := a = (0, 0, 0, 0, 0, 0, 0, 0, 110)
theorem split_out (k : Nat) (a0 fl : Nat) : calendar_Split.j0 (k + 1) a0 fl true = some (0, 0, 0, 0, 0, 0, 0, 0, 110) := by rw [calendar_Split.j0, if_pos rfl]
/-- the fields that Split answers within the years that there are -/
def splitF (a0 : Nat) : Int × Int × Int × Int × Int × Nat × Int × Int × Int :=
  let s := secOf a0
  let n := s / 86400
  (dateY n, dateM n, dateD n, s % 86400 / 3600, s % 86400 / 60 % 60, fval .add (floatOfInt .f64 (s % 86400 % 60)) (fval .sub a0 (wholeV .down a0)), (n + 4) % 7, n - begin_ (dateY n) 0, 0)
theorem both (a0 : Nat) (hw : a0 < 18446744073709551616) (hx : wholeOk a0 = true) :
    (calendar_Split.f 500 a0 = some (0, 0, 0, 0, 0, 0, 0, 0, 110) ∧ (∀ w, Calls Try.prog 19 #[.float .f64 a0] w fun e w' => e = .returned (.tuple #[.agg #[.int .i64 0, .int .i64 0, .int .i64 0, .int .i64 0, .int .i64 0, .float .f64 0, .int .i64 0, .int .i64 0], .int .i64 110]) ∧ Below w.heap.size w w')) ∨
    (∃ r1 r2 r3 r4 r5 r6 r7 r8, calendar_Split.f 500 a0 = some (r1, r2, r3, r4, r5, r6, r7, r8, 0) ∧ (FloatKind.f64.format.order r6 r6 == some Ordering.eq) = true ∧ (r1, r2, r3, r4, r5, r6, r7, r8, (0 : Int)) = splitF a0 ∧ -4371587 ≤ secOf a0 / 86400 ∧ secOf a0 / 86400 ≤ 2932896 ∧
      (∃ v, fkey a0 = some v ∧ -4503599627370496 * TOP ≤ v ∧ v ≤ 4503599627370496 * TOP) ∧
      (∀ w, Calls Try.prog 19 #[.float .f64 a0] w fun e w' => e = .returned (.tuple #[.agg #[.int .i64 r1, .int .i64 r2, .int .i64 r3, .int .i64 r4, .int .i64 r5, .float .f64 r6, .int .i64 r7, .int .i64 r8], .int .i64 0]) ∧ Below w.heap.size w w')) := by
  obtain ⟨hF, hc⟩ := floor_cases a0 hx
  have tp := top_pos
  have hwl := whole_lt a0 hw
  have Abs : ∀ fl, math_Abs.f fl = some (absB fl) := fun _ => rfl
  -- the code's answer where the floor is refused
  have refuse : (fkey (wholeV .down a0) = none ∨ ∃ v, fkey (wholeV .down a0) = some v ∧ ¬ (-1000000000000 * TOP ≤ v ∧ v ≤ 1000000000000 * TOP)) → calendar_Split.f 500 a0 = some (0, 0, 0, 0, 0, 0, 0, 0, 110) := by
    intro h
    unfold calendar_Split.f
    rw [hF]
    simp only [Option.bind_some, nan_eq]
    rcases h with h | ⟨v, h, hb⟩
    · rw [h, if_pos (show (none : Option Int).isNone = true from rfl)]
      exact split_out 499 _ _
    · rw [h, if_neg (by simp), Abs]
      simp only [Option.bind_some]
      rw [abs_gt _ _ hwl 1000000000000 v (by omega) tril h, decide_eq_true hb]
      exact split_out 499 _ _
  -- the reference's answer where it refuses
  have rlo : (match fkey (wholeV .down a0) with | some v => ¬ (-1000000000000000 * TOP ≤ v) | none => True) → ∀ w, Calls Try.prog 19 #[.float .f64 a0] w fun e w' => e = .returned (.tuple #[.agg #[.int .i64 0, .int .i64 0, .int .i64 0, .int .i64 0, .int .i64 0, .float .f64 0, .int .i64 0, .int .i64 0], .int .i64 110]) ∧ Below w.heap.size w w' := by
    intro h w
    refine rsplit_lo 500 a0 _ hF ?_ w
    rw [ord_ge, quad_lo]
    cases hk : fkey (wholeV .down a0) with
    | none => rfl
    | some v => rw [hk] at h; simpa using h
  have rhi : (∃ v, fkey (wholeV .down a0) = some v ∧ -1000000000000000 * TOP ≤ v ∧ ¬ v ≤ 1000000000000000 * TOP) → ∀ w, Calls Try.prog 19 #[.float .f64 a0] w fun e w' => e = .returned (.tuple #[.agg #[.int .i64 0, .int .i64 0, .int .i64 0, .int .i64 0, .int .i64 0, .float .f64 0, .int .i64 0, .int .i64 0], .int .i64 110]) ∧ Below w.heap.size w w' := by
    rintro ⟨v, hk, h1, h2⟩ w
    refine rsplit_hi 500 a0 _ hF ?_ ?_ w
    · rw [ord_ge, quad_lo, hk]; simpa using h1
    · rw [ord_le, quad_hi, hk]; simpa using h2
  have m1 : 1000000000000 * TOP ≤ 4503599627370496 * TOP := Int.mul_le_mul_of_nonneg_right (by omega) (by omega)
  have m2 : 1000000000000000 * TOP < 4503599627370496 * TOP := Int.mul_lt_mul_of_pos_right (by omega) tp
  rcases hc with hc | ⟨v, hv, hb⟩ | ⟨v, hv, h0, h1⟩
  · left
    exact ⟨refuse (Or.inl hc), rlo (by rw [hc]; trivial)⟩
  · left
    refine ⟨refuse (Or.inr ⟨v, hv, ?_⟩), ?_⟩
    · intro ⟨a, b⟩
      rcases hb with hb | hb
      · have : 1000000000000 * TOP < 4503599627370496 * TOP := Int.mul_lt_mul_of_pos_right (by omega) tp
        omega
      · have : 1000000000000 * TOP < 4503599627370496 * TOP := Int.mul_lt_mul_of_pos_right (by omega) tp
        omega
    · rcases hb with hb | hb
      · exact rlo (by rw [hv]; intro h; omega)
      · exact rhi ⟨v, hv, by omega, by omega⟩
  · obtain ⟨_, q2, q3, q4, q5, q6, q7, s, c, q8, q9, q10⟩ := floor_ok 4503599627370496 (by omega) (by omega) a0 v hv h0 h1
    have hs : f2i .i64 (wholeV .down a0) = secOf a0 := rfl
    have cmp : ∀ (c : Int), (c * TOP ≤ secOf a0 * TOP ↔ c ≤ secOf a0) ∧ (secOf a0 * TOP ≤ c * TOP ↔ secOf a0 ≤ c) := fun c =>
      ⟨⟨fun h => Int.le_of_mul_le_mul_right h tp, fun h => Int.mul_le_mul_of_nonneg_right h (by omega)⟩, ⟨fun h => Int.le_of_mul_le_mul_right h tp, fun h => Int.mul_le_mul_of_nonneg_right h (by omega)⟩⟩
    by_cases hin : -4371587 ≤ secOf a0 / 86400 ∧ secOf a0 / 86400 ≤ 2932896
    · right
      have hdate : dateAll (secOf a0 / 86400) = (dateY (secOf a0 / 86400), dateM (secOf a0 / 86400), dateD (secOf a0 / 86400), 0) := by unfold dateAll; rw [if_neg (by omega)]
      have hy := dateY_bd _ hin.1 hin.2
      obtain ⟨u1, s', m', e', u2⟩ := sub_ok a0 (wholeV .down a0) (num_read hv h0 h1 (by omega) (by omega)) (by rw [q8]; exact int_read s c q9)
      have hr60 : Int.tmod (secOf a0 % 86400) 60 = secOf a0 % 86400 % 60 := Int.tmod_eq_emod_of_nonneg (by omega)
      obtain ⟨a1, v6, a2⟩ := add_ok (floatOfInt .f64 (secOf a0 % 86400 % 60)) (fval .sub a0 (wholeV .down a0)) (by rw [ofInt_eq]; exact int_read _ _ (by omega)) (by
        rw [u2]
        obtain ⟨v', hv'⟩ := write_key (.number s' m' e') rfl
        exact key_nan hv')
      have t3600 : wrap64 (Int.tdiv (secOf a0 % 86400) 3600) = secOf a0 % 86400 / 3600 := by rw [Int.tdiv_eq_ediv_of_nonneg (by omega), w64 (by omega) (by omega)]
      have t60 : Int.tmod (wrap64 (Int.tdiv (secOf a0 % 86400) 60)) 60 = secOf a0 % 86400 / 60 % 60 := by rw [Int.tdiv_eq_ediv_of_nonneg (by omega), w64 (by omega) (by omega), Int.tmod_eq_emod_of_nonneg (by omega)]
      have bb := begin_bd (dateY (secOf a0 / 86400)) 0 (by omega) (by omega) (by omega) (by omega)
      have hyd : wrap64 (secOf a0 / 86400 - begin_ (dateY (secOf a0 / 86400)) 0) = secOf a0 / 86400 - begin_ (dateY (secOf a0 / 86400)) 0 := w64 (by omega) (by omega)
      refine ⟨_, _, _, _, _, _, _, _, ?_, ?_, rfl, hin.1, hin.2, ⟨v, hv, h0, h1⟩, ?_⟩
      · unfold calendar_Split.f
        rw [hF]
        simp only [Option.bind_some, nan_eq, q7]
        rw [if_neg (by simp), Abs]
        simp only [Option.bind_some]
        have hab : (FloatKind.f64.format.order (absB (wholeV .down a0)) 4786511204640096256 == some Ordering.gt) = false := by
          rw [abs_gt _ _ hwl 1000000000000 _ (by omega) tril q7]
          simp only [(cmp (-1000000000000)).1, (cmp 1000000000000).2, decide_eq_false_iff_not, Decidable.not_not]
          omega
        rw [hab, show (500 : Nat) = 499 + 1 from rfl, calendar_Split.j0, if_neg (by decide), if_pos q2, hs, divide_eq _ _ (by omega) (by omega) (by omega) (by omega)]
        simp only [Option.bind_some]
        rw [date_eq 499 (by omega), hdate]
        simp only [Option.bind_some]
        rw [if_pos trivial, if_pos u1, hr60, if_pos a1, weekday_eq _ (by omega) (by omega), num1 _ (by omega) (by omega)]
        simp only [Option.bind_some, t3600, t60, hyd]
      · exact ord_self a2
      · intro w
        have h := rsplit_ok 500 a0 (wholeV .down a0) hF (by rw [ord_ge, quad_lo, q7]; simp only [(cmp (-1000000000000000)).1, decide_eq_true_eq]; omega) (by rw [ord_le, quad_hi, q7]; simp only [(cmp 1000000000000000).2, decide_eq_true_eq]; omega) q2
          (secOf a0 / 86400) (secOf a0 % 86400) (by rw [hs, floor_eq]; exact divide_eq _ _ (by omega) (by omega) (by omega) (by omega)) _ _ _ (by rw [rdate_eq 500 (by omega), hdate]) _ (wday_eq _ (by omega) (by omega)) _ (begin_eq 500 (by omega) _ _ (by omega) (by omega) (by omega) (by omega)) _ u1 rfl (by rw [hr60]; exact a1) w
        rw [hr60, t3600, t60, hyd] at h
        exact h
    · left
      have hdate : dateAll (secOf a0 / 86400) = (0, 0, 0, 110) := by unfold dateAll; rw [if_pos (by omega)]
      constructor
      · by_cases hb : -1000000000000 ≤ secOf a0 ∧ secOf a0 ≤ 1000000000000
        · unfold calendar_Split.f
          rw [hF]
          simp only [Option.bind_some, nan_eq, q7]
          rw [if_neg (by simp), Abs]
          simp only [Option.bind_some]
          have hab : (FloatKind.f64.format.order (absB (wholeV .down a0)) 4786511204640096256 == some Ordering.gt) = false := by
            rw [abs_gt _ _ hwl 1000000000000 _ (by omega) tril q7]
            rw [decide_eq_false_iff_not, Decidable.not_not, (cmp (-1000000000000)).1, (cmp 1000000000000).2]
            exact hb
          rw [hab, show (500 : Nat) = 499 + 1 from rfl, calendar_Split.j0, if_neg (by decide), if_pos q2, hs, divide_eq _ _ (by omega) (by omega) (by omega) (by omega)]
          simp only [Option.bind_some]
          rw [date_eq 499 (by omega), hdate]
          simp only [Option.bind_some]
          rw [if_neg (by decide)]
        · exact refuse (Or.inr ⟨_, q7, by rw [(cmp (-1000000000000)).1, (cmp 1000000000000).2]; exact hb⟩)
      · by_cases h3 : -1000000000000000 ≤ secOf a0
        · by_cases h4 : secOf a0 ≤ 1000000000000000
          · intro w
            exact rsplit_out 500 a0 (wholeV .down a0) hF (by rw [ord_ge, quad_lo, q7]; simp only [(cmp (-1000000000000000)).1, decide_eq_true_eq]; exact h3) (by rw [ord_le, quad_hi, q7]; simp only [(cmp 1000000000000000).2, decide_eq_true_eq]; exact h4) q2
              (secOf a0 / 86400) (secOf a0 % 86400) (by rw [hs, floor_eq]; exact divide_eq _ _ (by omega) (by omega) (by omega) (by omega)) (by rw [rdate_eq 500 (by omega), hdate]) w
          · exact rhi ⟨_, q7, by rw [(cmp (-1000000000000000)).1]; exact h3, by rw [(cmp 1000000000000000).2]; exact h4⟩
        · exact rlo (by rw [q7]; simp only [(cmp (-1000000000000000)).1]; exact h3)
theorem splits_law (a0 : Nat) (hw : a0 < 18446744073709551616) (w : World) : Calls Try.prog 4 #[.float .f64 a0] w fun e w' => e = .returned (.bool true) ∧ Below w.heap.size w w' := by
  by_cases hx : wholeOk a0 = true
  · rcases both a0 hw hx with ⟨h1, h2⟩ | ⟨r1, r2, r3, r4, r5, r6, r7, r8, h1, h2, _, _, _, _, h3⟩
    · exact splits_walk a0 0 0 0 0 0 0 0 0 110 (fun w => calendar_Split.calls 500 a0 _ _ _ _ _ _ _ _ _ w h1) h2 (by decide +kernel) w
    · exact splits_walk a0 r1 r2 r3 r4 r5 r6 r7 r8 0 (fun w => calendar_Split.calls 500 a0 _ _ _ _ _ _ _ _ _ w h1) h3 h2 w
  · have hx' : wholeOk a0 = false := by simpa using hx
    exact splits_walk a0 0 0 0 0 0 0 0 0 110 (fun w => split_nan a0 hx' w) (fun w => rsplit_nan a0 hx' w) (by decide +kernel) w
end Go.Proofs.Ytomkhipfooafnaa.P
