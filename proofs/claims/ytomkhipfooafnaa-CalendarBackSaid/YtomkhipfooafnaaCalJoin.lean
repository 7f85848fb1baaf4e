/- Seconds of a time, by the code and by the reference, in plain arithmetic. -/
import Derived.Test.YtomkhipfooafnaaP16
import Derived.Test.YtomkhipfooafnaaCalWeeks
import Derived.Test.YtomkhipfooafnaaFloatInt
set_option linter.unusedVariables false
namespace Go.Proofs.Ytomkhipfooafnaa.P
open Go.RowKit Go.Proofs.YtomkhipfooafnaaW.PrintWords Go.Proofs.Ytomkhipfooafnaa.Cal Go.Proofs.YtomkhipfooafnaaW.FM
theorem top_pos : (0 : Int) < TOP := by unfold TOP; decide +kernel
/-- a word whose number lies from -c to c -/
def within (c : Int) (x : Nat) : Prop := ∃ v, fkey x = some v ∧ -c * TOP ≤ v ∧ v ≤ c * TOP
/-- the whole seconds of a word -/
def secOf (x : Nat) : Int := f2i .i64 (wholeV .down x)
theorem floor_ok (c : Int) (hc0 : 0 ≤ c) (hc : c < 9007199254740991) (x : Nat) (v : Int) (hv : fkey x = some v) (h0 : -c * TOP ≤ v) (h1 : v ≤ c * TOP) :
    math_Floor.f x = some (wholeV .down x) ∧ f2iok .i64 (wholeV .down x) = true ∧ -c ≤ secOf x ∧ secOf x ≤ c ∧ secOf x * TOP ≤ v ∧ v < (secOf x + 1) * TOP ∧ fkey (wholeV .down x) = some (secOf x * TOP) ∧
    ∃ s n, wholeV .down x = Ieee.double.write (.number s n 0) ∧ n < 9007199254740992 ∧ secOf x = sgn s n := by
  have tp := top_pos
  cases hr : Ieee.double.read x with
  | nan a b => unfold fkey at hv; rw [hr] at hv; simp [key] at hv
  | infinity s =>
    exfalso
    unfold fkey at hv
    rw [hr] at hv
    simp only [key, Option.some.injEq] at hv
    have hI : c * TOP < INF := by
      have a : c * TOP ≤ 9007199254740992 * TOP := Int.mul_le_mul_of_nonneg_right (by omega) (by omega)
      have b : 9007199254740992 * TOP < INF := by unfold TOP INF; decide +kernel
      omega
    rw [Int.neg_mul] at h0
    cases s
    · simp only [Bool.false_eq_true, if_false] at hv; omega
    · simp only [if_true] at hv; omega
  | number s m e =>
    obtain ⟨n, hw, l0, l1⟩ := floor_spec hr
    have hv' : v = Go.Proofs.YtomkhipfooafnaaW.FM.num s m e := by
      unfold fkey at hv
      rw [hr] at hv
      simp only [key, Option.some.injEq] at hv
      exact hv.symm
    rw [← hv'] at l0 l1
    have b1 : sgn s n ≤ c := Int.le_of_mul_le_mul_right (a := TOP) (by omega) tp
    have b0 : -c < sgn s n + 1 := Int.lt_of_mul_lt_mul_right (a := TOP) (by omega) (by omega)
    have hn : n < 9007199254740992 := by
      unfold sgn at b0 b1
      cases s
      · simp only [Bool.false_eq_true, if_false] at b0 b1; omega
      · simp only [if_true] at b0 b1; omega
    obtain ⟨k1, k2⟩ := int_ok s n hn
    have hs : secOf x = sgn s n := by unfold secOf; rw [hw]; exact k2
    have hok : wholeOk x = true := by unfold wholeOk; rw [dec_eq, hr]
    refine ⟨by unfold math_Floor.f; rw [if_pos hok], by rw [hw]; exact k1, by omega, by omega, by rw [hs]; exact l0, by rw [hs]; exact l1, ?_, s, n, hw, hn, hs⟩
    rw [hs, hw]
    exact int_key s n hn
theorem wide_hi : fkey 4741671816366391296 = some (1000000000 * TOP) := by
  have h : Ieee.double.write (.number false 1000000000 0) = 4741671816366391296 := by decide +kernel
  rw [← h, int_key _ _ (by decide)]
  rfl
theorem wide_lo : fkey 13965043853221167104 = some (-1000000000 * TOP) := by
  have h : Ieee.double.write (.number true 1000000000 0) = 13965043853221167104 := by decide +kernel
  rw [← h, int_key _ _ (by decide)]
  rfl
theorem nan_eq (x : Nat) : math_IsNaN.f x = some (fkey x).isNone := by
  unfold math_IsNaN.f
  have h : (FloatKind.f64.format.order x x != some Ordering.eq) = !(FloatKind.f64.format.order x x == some Ordering.eq) := rfl
  rw [h, ord_eqq]
  cases fkey x <;> simp
theorem abs_gt (x W : Nat) (hx : x < 18446744073709551616) (c v : Int) (hc : 0 ≤ c) (hW : fkey W = some (c * TOP)) (hv : fkey x = some v) :
    (FloatKind.f64.format.order (absB x) W == some Ordering.gt) = decide (¬ (-c * TOP ≤ v ∧ v ≤ c * TOP)) := by
  rw [ord_gt, fkey_abs x hx, hv, hW]
  simp only [Option.map_some]
  have : 0 ≤ c * TOP := Int.mul_nonneg hc (by have := top_pos; omega)
  rw [Int.neg_mul]
  generalize c * TOP = C at *
  congr 1
  split <;> simp only [eq_iff_iff] <;> omega
def fitI (n : Int) : Prop := -1000000000 ≤ n ∧ n ≤ 1000000000
def secs (a0 a1 a2 a3 a4 : Int) (a5 : Nat) : Int := (begin_ (a0 + a1 / 12) (a1 % 12) + a2 - 1) * 86400 + a3 * 3600 + a4 * 60 + secOf a5
def joinable (a0 a1 a2 a3 a4 : Int) (a5 : Nat) : Prop :=
  fitI a0 ∧ fitI a1 ∧ fitI a2 ∧ fitI a3 ∧ fitI a4 ∧ within 1000000000 a5 ∧ -9999 ≤ a0 + a1 / 12 ∧ a0 + a1 / 12 ≤ 9999 ∧ -4371587 ≤ secs a0 a1 a2 a3 a4 a5 / 86400 ∧ secs a0 a1 a2 a3 a4 a5 / 86400 ≤ 2932896
open Classical in
noncomputable def joinAll (a0 a1 a2 a3 a4 : Int) (a5 : Nat) : Int × Int := if joinable a0 a1 a2 a3 a4 a5 then (secs a0 a1 a2 a3 a4 a5, 0) else (0, 110)
theorem joinAll_no {a0 a1 a2 a3 a4 : Int} {a5 : Nat} (h : ¬ joinable a0 a1 a2 a3 a4 a5) : joinAll a0 a1 a2 a3 a4 a5 = (0, 110) := by unfold joinAll; rw [if_neg h]
theorem joinAll_yes {a0 a1 a2 a3 a4 : Int} {a5 : Nat} (h : joinable a0 a1 a2 a3 a4 a5) : joinAll a0 a1 a2 a3 a4 a5 = (secs a0 a1 a2 a3 a4 a5, 0) := by unfold joinAll; rw [if_pos h]
theorem join_eq (a0 a1 a2 a3 a4 : Int) (a5 : Nat) (a6 a7 : Int) (h5 : a5 < 18446744073709551616) : calendar_Join.f a0 a1 a2 a3 a4 a5 a6 a7 = some (joinAll a0 a1 a2 a3 a4 a5) := by
  unfold calendar_Join.f
  by_cases f0 : fitI a0
  case neg => rw [if_pos (by unfold fitI at f0; omega), joinAll_no (fun h => f0 h.1)]
  rw [if_neg (by unfold fitI at f0; omega)]
  by_cases f1 : fitI a1
  case neg => rw [if_pos (by unfold fitI at f1; omega), joinAll_no (fun h => f1 h.2.1)]
  rw [if_neg (by unfold fitI at f1; omega)]
  by_cases f2 : fitI a2
  case neg => rw [if_pos (by unfold fitI at f2; omega), joinAll_no (fun h => f2 h.2.2.1)]
  rw [if_neg (by unfold fitI at f2; omega)]
  by_cases f3 : fitI a3
  case neg => rw [if_pos (by unfold fitI at f3; omega), joinAll_no (fun h => f3 h.2.2.2.1)]
  rw [if_neg (by unfold fitI at f3; omega)]
  by_cases f4 : fitI a4
  case neg => rw [if_pos (by unfold fitI at f4; omega), joinAll_no (fun h => f4 h.2.2.2.2.1)]
  rw [if_neg (by unfold fitI at f4; omega)]
  have F := And.intro f0 (And.intro f1 (And.intro f2 (And.intro f3 f4)))
  unfold fitI at f0 f1 f2 f3 f4
  rw [divide_eq a1 12 (by omega) (by omega) (by omega) (by omega)]
  simp only [Option.bind_some]
  rw [w64 (n := a0 + a1 / 12) (by omega) (by omega)]
  by_cases fy : a0 + a1 / 12 < -9999 ∨ a0 + a1 / 12 > 9999
  · rw [if_pos fy, joinAll_no]
    rintro ⟨_, _, _, _, _, _, h1, h2, _⟩
    omega
  rw [if_neg fy, nan_eq]
  simp only [Option.bind_some]
  cases hv : fkey a5 with
  | none =>
    rw [if_pos (show (none : Option Int).isNone = true from rfl), joinAll_no]
    rintro ⟨_, _, _, _, _, ⟨v, h1, _⟩, _⟩
    rw [hv] at h1
    cases h1
  | some v =>
    rw [if_neg (by simp)]
    have ha : math_Abs.f a5 = some (absB a5) := rfl
    rw [ha]
    simp only [Option.bind_some]
    rw [abs_gt a5 _ h5 1000000000 v (by omega) wide_hi hv]
    by_cases hb : -1000000000 * TOP ≤ v ∧ v ≤ 1000000000 * TOP
    case neg =>
      rw [if_pos (decide_eq_true hb), joinAll_no]
      rintro ⟨_, _, _, _, _, ⟨v', h1, h2, h3⟩, _⟩
      rw [hv] at h1
      cases h1
      exact hb ⟨h2, h3⟩
    rw [if_neg (by rw [decide_eq_true_eq]; exact fun h => h hb)]
    obtain ⟨q1, q2, q3, q4, _⟩ := floor_ok 1000000000 (by omega) (by omega) a5 v hv hb.1 hb.2
    have bb := begin_bd (a0 + a1 / 12) (a1 % 12) (by omega) (by omega) (by omega) (by omega)
    rw [number_eq _ _ _ (by omega) (by omega) (by omega) (by omega) (by omega) (by omega), num_begin _ _ _ (by omega) (by omega), q1]
    simp only [Option.bind_some]
    rw [if_pos q2]
    have hs : f2i .i64 (wholeV .down a5) = secOf a5 := rfl
    rw [hs]
    have hsum : wrap64 (wrap64 (wrap64 (wrap64 (wrap64 (wrap64 (begin_ (a0 + a1 / 12) (a1 % 12) + 1 - 1 + a2) - 1) * 86400) + a3 * 3600) + a4 * 60) + secOf a5) = secs a0 a1 a2 a3 a4 a5 := by
      unfold secs
      generalize secOf a5 = z at *
      generalize begin_ (a0 + a1 / 12) (a1 % 12) = b at *
      simp (disch := omega) only [w64]
      omega
    have sb : -9000000000000000000 ≤ secs a0 a1 a2 a3 a4 a5 ∧ secs a0 a1 a2 a3 a4 a5 ≤ 9000000000000000000 := by unfold secs; omega
    rw [hsum, divide_eq _ 86400 (by omega) (by omega) (by omega) (by omega)]
    simp only [Option.bind_some]
    by_cases r1 : secs a0 a1 a2 a3 a4 a5 / 86400 < -4371587
    · rw [if_pos r1, joinAll_no]
      rintro ⟨_, _, _, _, _, _, _, _, h1, _⟩
      omega
    rw [if_neg r1]
    by_cases r2 : secs a0 a1 a2 a3 a4 a5 / 86400 > 2932896
    · rw [if_pos r2, joinAll_no]
      rintro ⟨_, _, _, _, _, _, _, _, _, h1⟩
      omega
    rw [if_neg r2, joinAll_yes ⟨F.1, F.2.1, F.2.2.1, F.2.2.2.1, F.2.2.2.2, ⟨v, hv, hb.1, hb.2⟩, by omega, by omega, by omega, by omega⟩]
theorem fits_eq (n : Int) : colanderref11_fits.f n = some (decide (-1000000000 ≤ n ∧ n ≤ 1000000000)) := by
  unfold colanderref11_fits.f
  by_cases h : n ≥ -1000000000
  · rw [if_pos h]; congr 1; simp; omega
  · rw [if_neg h]; congr 1; symm; simp; omega
theorem known_eq (y : Int) : colanderref11_known.f y = some (decide (-9999 ≤ y ∧ y ≤ 9999)) := by
  unfold colanderref11_known.f
  by_cases h : y ≥ -9999
  · rw [if_pos h]; congr 1; simp; omega
  · rw [if_neg h]; congr 1; symm; simp; omega
theorem rjoin_eq (k : Nat) (hk : 450 ≤ k) (a0 a1 a2 a3 a4 : Int) (a5 : Nat) (a6 a7 : Int) : colanderref11_Join.f k a0 a1 a2 a3 a4 a5 a6 a7 = some (joinAll a0 a1 a2 a3 a4 a5) := by
  obtain ⟨k, rfl⟩ : ∃ j, k = j + 1 := ⟨k - 1, by omega⟩
  have bad : colanderref11_Join.j0 (k + 1) true a0 a1 a2 a3 a4 a5 a6 a7 = some (0, 110) := by rw [colanderref11_Join.j0, if_pos rfl]
  unfold colanderref11_Join.f
  rw [fits_eq a0, fits_eq a1, fits_eq a2, fits_eq a3, fits_eq a4, bad]
  simp only [Option.bind_some]
  by_cases f0 : fitI a0
  case neg => rw [if_neg (by unfold fitI at f0; simpa using f0), joinAll_no (fun h => f0 h.1)]
  rw [if_pos (by unfold fitI at f0; simpa using f0)]
  by_cases f1 : fitI a1
  case neg => rw [if_neg (by unfold fitI at f1; simpa using f1), joinAll_no (fun h => f1 h.2.1)]
  rw [if_pos (by unfold fitI at f1; simpa using f1)]
  by_cases f2 : fitI a2
  case neg => rw [if_neg (by unfold fitI at f2; simpa using f2), joinAll_no (fun h => f2 h.2.2.1)]
  rw [if_pos (by unfold fitI at f2; simpa using f2)]
  by_cases f3 : fitI a3
  case neg => rw [if_neg (by unfold fitI at f3; simpa using f3), joinAll_no (fun h => f3 h.2.2.2.1)]
  rw [if_pos (by unfold fitI at f3; simpa using f3)]
  by_cases f4 : fitI a4
  case neg => rw [if_neg (by unfold fitI at f4; simpa using f4), joinAll_no (fun h => f4 h.2.2.2.2.1)]
  rw [if_pos (by unfold fitI at f4; simpa using f4), ord_ge, ord_le, wide_hi, wide_lo]
  have F := And.intro f0 (And.intro f1 (And.intro f2 (And.intro f3 f4)))
  unfold fitI at f0 f1 f2 f3 f4
  cases hv : fkey a5 with
  | none =>
    simp only [Bool.false_eq_true, if_false, Bool.not_false, bad]
    rw [joinAll_no]
    rintro ⟨_, _, _, _, _, ⟨v, h1, _⟩, _⟩
    rw [hv] at h1
    cases h1
  | some v =>
    dsimp only
    by_cases hb : -1000000000 * TOP ≤ v ∧ v ≤ 1000000000 * TOP
    case neg =>
      have hno : joinAll a0 a1 a2 a3 a4 a5 = (0, 110) := by
        rw [joinAll_no]
        rintro ⟨_, _, _, _, _, ⟨v', h1, h2, h3⟩, _⟩
        rw [hv] at h1
        cases h1
        exact hb ⟨h2, h3⟩
      by_cases c1 : -1000000000 * TOP ≤ v
      · have c2 : ¬ v ≤ 1000000000 * TOP := fun c2 => hb ⟨c1, c2⟩
        simp only [c1, c2, decide_true, decide_false, if_true, Bool.not_false, bad, hno]
      · simp only [c1, decide_false, Bool.false_eq_true, if_false, Bool.not_false, bad, hno]
    obtain ⟨q1, q2, q3, q4, _⟩ := floor_ok 1000000000 (by omega) (by omega) a5 v hv hb.1 hb.2
    simp only [hb.1, hb.2, decide_true, if_true, Bool.not_true]
    rw [colanderref11_Join.j0, if_neg (by decide), floor_eq, divide_eq a1 12 (by omega) (by omega) (by omega) (by omega)]
    simp only [Option.bind_some]
    rw [w64 (n := a0 + a1 / 12) (by omega) (by omega), known_eq]
    simp only [Option.bind_some]
    by_cases fy : -9999 ≤ a0 + a1 / 12 ∧ a0 + a1 / 12 ≤ 9999
    case neg =>
      rw [if_neg (by simpa using fy), joinAll_no]
      rintro ⟨_, _, _, _, _, _, h1, h2, _⟩
      exact fy ⟨h1, h2⟩
    rw [if_pos (by simpa using fy), begin_eq k (by omega) _ _ (by omega) (by omega) (by omega) (by omega), q1]
    simp only [Option.bind_some]
    rw [if_pos q2]
    have hs : f2i .i64 (wholeV .down a5) = secOf a5 := rfl
    rw [hs]
    have bb := begin_bd (a0 + a1 / 12) (a1 % 12) (by omega) (by omega) (by omega) (by omega)
    have hsum : wrap64 (wrap64 (wrap64 (wrap64 (wrap64 (wrap64 (begin_ (a0 + a1 / 12) (a1 % 12) + a2) - 1) * 86400) + wrap64 (a3 * 3600)) + wrap64 (a4 * 60)) + secOf a5) = secs a0 a1 a2 a3 a4 a5 := by
      unfold secs
      generalize secOf a5 = z at *
      generalize begin_ (a0 + a1 / 12) (a1 % 12) = b at *
      simp (disch := omega) only [w64]
    have sb : -9000000000000000000 ≤ secs a0 a1 a2 a3 a4 a5 ∧ secs a0 a1 a2 a3 a4 a5 ≤ 9000000000000000000 := by unfold secs; omega
    rw [hsum, floor_eq, divide_eq _ 86400 (by omega) (by omega) (by omega) (by omega)]
    simp only [Option.bind_some]
    by_cases r1 : secs a0 a1 a2 a3 a4 a5 / 86400 < -4371587
    · rw [if_pos r1, joinAll_no]
      rintro ⟨_, _, _, _, _, _, _, _, h1, _⟩
      omega
    rw [if_neg r1]
    by_cases r2 : secs a0 a1 a2 a3 a4 a5 / 86400 > 2932896
    · rw [if_pos r2, joinAll_no]
      rintro ⟨_, _, _, _, _, _, _, _, _, h1⟩
      omega
    rw [if_neg r2, joinAll_yes ⟨F.1, F.2.1, F.2.2.1, F.2.2.2.1, F.2.2.2.2, ⟨v, hv, hb.1, hb.2⟩, by omega, by omega, by omega, by omega⟩]
end Go.Proofs.Ytomkhipfooafnaa.P
