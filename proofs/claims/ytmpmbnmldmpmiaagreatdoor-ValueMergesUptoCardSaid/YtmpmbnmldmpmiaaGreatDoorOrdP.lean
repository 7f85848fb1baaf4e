/- Both Compares say the same of values that may be: plain Lean. -/
import Derived.Test.YtmpmbnmldmpmiaaGreatDoorCmpC
import Derived.Test.YtmpmbnmldmpmiaaGreatDoorRefB
import Derived.Test.YtmpmbnmldmpmiaaGreatDoorRightD
import Derived.Test.YtmpmbnmldmpmiaaGreatDoorFloatInt
set_option linter.unusedVariables false
set_option linter.unusedSimpArgs false
namespace Go.Proofs.YtmpmbnmldmpmiaaGreatDoor.Sim
open Go Go.RowKit Go.Proofs.YtmpmbnmldmpmiaaGreatDoor.A Go.Proofs.YtmpmbnmldmpmiaaGreatDoorW.PrintWords Go.Proofs.YtmpmbnmldmpmiaaGreatDoorW.PrintLast Go.Proofs.YtmpmbnmldmpmiaaGreatDoorW.PrintMore Go.Proofs.YtmpmbnmldmpmiaaGreatDoorW.FM
structure RightF (d : Nat) (x : S27) : Prop where
  lo : 0 ≤ x.f0
  hi : x.f0 ≤ 6
  list : x.f0 < 5 → x.f3 = []
  keys : x.f0 = 6 → x.f4.length = x.f3.length
  none : x.f0 ≠ 6 → x.f4 = []
  num : x.f0 ≠ 3 → x.f1 = 0
  str : x.f0 ≠ 4 → x.f2.toList = []
  apart : (x.f4.map kd_).Nodup
  kids : ∀ y ∈ x.f3, rightV d y = true
theorem rightV_open {d : Nat} {x : S27} (h : rightV (d + 1) x = true) : RightF d x := by
  rw [rightV] at h
  split at h
  · cases h
  rename_i h1
  split at h
  · cases h
  rename_i h2
  split at h
  · cases h
  rename_i h3
  split at h
  · cases h
  rename_i h4
  by_cases h5 : (if x.f0 = 6 then x.f4.length = x.f3.length else x.f4.length = 0)
  rotate_left
  · rw [if_neg h5] at h; cases h
  rw [if_pos h5] at h
  by_cases h6 : Lib.validD (kd_ x.f2) = true
  rotate_left
  · rw [if_neg h6] at h; cases h
  rw [if_pos h6] at h
  by_cases h7 : apartB [] x.f4 = true
  rotate_left
  · rw [if_neg h7] at h; cases h
  rw [if_pos h7] at h
  refine ⟨by omega, by omega, fun hk => ?_, fun hk => ?_, fun hk => ?_, fun hk => ?_, fun hk => ?_, ((apartB_iff _ _).1 h7).2.1, fun y hy => List.all_eq_true.1 h y hy⟩
  · exact List.eq_nil_of_length_eq_zero (by omega)
  · rw [if_pos hk] at h5; exact h5
  · rw [if_neg hk] at h5; exact List.eq_nil_of_length_eq_zero h5
  · exact Classical.byContradiction fun hne => h2 ⟨hk, hne⟩
  · exact Classical.byContradiction fun hne => h3 ⟨hk, hne⟩
theorem kd_inj {a b : ByteArray} (h : kd_ a = kd_ b) : a = b := toList_inj (by rw [kd_eq, kd_eq, h])
theorem getElem_map_nodup {l : List ByteArray} (h : (l.map kd_).Nodup) {i j : Nat} (hi : i < l.length) (hj : j < l.length) (e : l[i] = l[j]) : i = j := by
  have h' := List.pairwise_iff_getElem.1 (show (l.map kd_).Pairwise (· ≠ ·) from h)
  rcases Nat.lt_trichotomy i j with h1 | h1 | h1
  · refine (h' i j (by simpa using hi) (by simpa using hj) h1 ?_).elim
    rw [List.getElem_map, List.getElem_map, e]
  · exact h1
  · refine (h' j i (by simpa using hj) (by simpa using hi) h1 ?_).elim
    rw [List.getElem_map, List.getElem_map, e]
/-- The place of a key that stands at j is j. -/
theorem posL_at {l : List ByteArray} (h : (l.map kd_).Nodup) {j : Nat} (hj : j < l.length) : posL l[j] l 0 = (j : Int) := by
  have key : ∀ (m i : Nat), m = j - i → i ≤ j → posL l[j] (l.drop i) i = (j : Int) := by
    intro m
    induction m with
    | zero =>
      intro i hm hi
      have : i = j := by omega
      subst this
      rw [List.drop_eq_getElem_cons hj, posL, if_pos (by simp)]
    | succ m ih =>
      intro i hm hi
      have hij : i < l.length := by omega
      rw [List.drop_eq_getElem_cons hij, posL, if_neg, ih (i + 1) (by omega) (by omega)]
      intro e
      have := getElem_map_nodup h hij hj (toList_inj (by simpa using e))
      omega
  have := key j 0 (by omega) (Nat.zero_le _)
  rwa [List.drop_zero] at this
end Go.Proofs.YtmpmbnmldmpmiaaGreatDoor.Sim
