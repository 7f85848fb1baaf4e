/- Both Compares say the same of values that may be: plain Lean. -/
import Derived.Test.YtmpmbnmldmpmiaaGreatDoorCmpC
import Derived.Test.YtmpmbnmldmpmiaaGreatDoorRefB
import Derived.Test.YtmpmbnmldmpmiaaGreatDoorRightD
import Derived.Test.YtmpmbnmldmpmiaaGreatDoorFloatInt
set_option linter.unusedVariables false
set_option linter.unusedSimpArgs false
namespace Go.Proofs.YtmpmbnmldmpmiaaGreatDoor.Sim
open Go Go.RowKit Go.Proofs.YtmpmbnmldmpmiaaGreatDoor.A Go.Proofs.YtmpmbnmldmpmiaaGreatDoorW.PrintWords Go.Proofs.YtmpmbnmldmpmiaaGreatDoorW.PrintLast Go.Proofs.YtmpmbnmldmpmiaaGreatDoorW.PrintMore Go.Proofs.YtmpmbnmldmpmiaaGreatDoorW.FM
structure RightF (d : Nat) (x : S27) : Prop where
  lo : 0 ≤ x.f0
  hi : x.f0 ≤ 6
  list : x.f0 < 5 → x.f3 = []
  keys : x.f0 = 6 → x.f4.length = x.f3.length
  none : x.f0 ≠ 6 → x.f4 = []
  num : x.f0 ≠ 3 → x.f1 = 0
  str : x.f0 ≠ 4 → x.f2.toList = []
  apart : (x.f4.map kd_).Nodup
  kids : ∀ y ∈ x.f3, rightV d y = true
theorem rightV_open {d : Nat} {x : S27} (h : rightV (d + 1) x = true) : RightF d x := by
  rw [rightV] at h
  split at h
  · cases h
  rename_i h1
  split at h
  · cases h
  rename_i h2
  split at h
  · cases h
  rename_i h3
  split at h
  · cases h
  rename_i h4
  by_cases h5 : (if x.f0 = 6 then x.f4.length = x.f3.length else x.f4.length = 0)
  rotate_left
  · rw [if_neg h5] at h; cases h
  rw [if_pos h5] at h
  by_cases h6 : Lib.validD (kd_ x.f2) = true
  rotate_left
  · rw [if_neg h6] at h; cases h
  rw [if_pos h6] at h
  by_cases h7 : apartB [] x.f4 = true
  rotate_left
  · rw [if_neg h7] at h; cases h
  rw [if_pos h7] at h
  refine ⟨by omega, by omega, fun hk => ?_, fun hk => ?_, fun hk => ?_, fun hk => ?_, fun hk => ?_, ((apartB_iff _ _).1 h7).2.1, fun y hy => List.all_eq_true.1 h y hy⟩
  · exact List.eq_nil_of_length_eq_zero (by omega)
  · rw [if_pos hk] at h5; exact h5
  · rw [if_neg hk] at h5; exact List.eq_nil_of_length_eq_zero h5
  · exact Classical.byContradiction fun hne => h2 ⟨hk, hne⟩
  · exact Classical.byContradiction fun hne => h3 ⟨hk, hne⟩
/-- The keys at the places, in order, are the sorted keys. -/
theorem places_keys (ks : List ByteArray) : (placesL ks).map (fun j => (ks[j]?).getD ByteArray.empty) = srt ks := by
  refine srt_unique ?_ ?_
  · refine ((placesL_perm ks).map _).trans ?_
    have : (List.range ks.length).map (fun j => (ks[j]?).getD ByteArray.empty) = ks := by
      apply List.ext_getElem
      · simp
      · intro i h1 h2
        simp [h2]
    rw [this]
  · rw [List.pairwise_map]
    refine (placesL_sorted ks).imp_of_mem fun {i j} hi hj hij => ?_
    have h1 := placesL_lt hi
    have h2 := placesL_lt hj
    rw [List.getElem?_eq_getElem h1, List.getElem?_eq_getElem h2] at *
    have := hij _ _ rfl rfl
    unfold leB
    rw [bytesLess_lt]
    simpa using this
theorem places_at {ks : List ByteArray} {i : Nat} (h : i < ks.length) : ∃ j, (placesL ks)[i]? = some j ∧ ∃ hj : j < ks.length, (srt ks)[i]? = some ks[j] := by
  have hp : i < (placesL ks).length := by rw [placesL_length]; exact h
  have hj := placesL_lt (List.getElem_mem hp)
  refine ⟨_, List.getElem?_eq_getElem hp, hj, ?_⟩
  rw [← places_keys, List.getElem?_map, List.getElem?_eq_getElem hp]
  simp [hj]
end Go.Proofs.YtmpmbnmldmpmiaaGreatDoor.Sim
