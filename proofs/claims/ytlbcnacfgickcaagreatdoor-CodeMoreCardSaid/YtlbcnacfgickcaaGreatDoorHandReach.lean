/- The closure 'reach' of program.heights, by a contract of its own: a row of heights is carried as a block. -/
import Derived.Test.YtlbcnacfgickcaaGreatDoorShort
import Derived.Test.YtlbcnacfgickcaaGreatDoorA1
namespace Go.Proofs.YtlbcnacfgickcaaGreatDoor.A
open Go.RowKit Go.Proofs.YtlbcnacfgickcaaGreatDoorW.PrintWords Go.Proofs.YtlbcnacfgickcaaGreatDoorW.PrintLast Go.Proofs.YtlbcnacfgickcaaGreatDoorW.PrintMore Go.Proofs.YtlbcnacfgickcaaGreatDoorW.Short
set_option linter.unusedVariables false
attribute [local go_sem] max2_int min2_int max_two min_two max_three min_three max_four min_four
def rowOf (hs : List Int) : Array Value := (hs.map (Value.int .i64)).toArray
theorem rowOf_get (hs : List Int) (i : Int) (h0 : 0 ≤ i) (h1 : i < (hs.length : Int)) : (rowOf hs)[i.toNat]? = some (.int .i64 (rdOf 0 hs i)) := by
  have : i.toNat < hs.length := by omega
  simp [rowOf, rdOf, this]
theorem rowOf_set (hs : List Int) (i : Nat) (h : Int) : (rowOf hs).setIfInBounds i (.int .i64 h) = rowOf (hs.set i h) := by
  simp [rowOf, List.map_set]
def reach1 (hs : List Int) (p h : Int) : Option (Option (List Int)) :=
  if p ≥ (hs.length : Int) then some none else if 0 ≤ p then (if 0 ≤ rdOf 0 hs p then (if rdOf 0 hs p = h then some (some (hs.set p.toNat h)) else some none) else some (some (hs.set p.toNat h))) else none
theorem reach1_len {hs hs' : List Int} {p h : Int} (e : reach1 hs p h = some (some hs')) : hs'.length = hs.length := by
  unfold reach1 at e
  split at e
  · simp at e
  split at e
  · split at e
    · split at e
      · obtain rfl := Option.some.inj (Option.some.inj e)
        simp
      · simp at e
    · obtain rfl := Option.some.inj (Option.some.inj e)
      simp
  · simp at e
section
variable (g6 g7 gh : Nat) (Ax : Option Addr) (cx ch : Nat) (hs : List Int) (n : Nat) (hn : hs.length = n) (p h : Int) (w : World)
  (BX : Ae (w.heap[g6]? = some (.cells #[.slice Ax n cx] 28 (0, 0)))) (BS : Ae (w.heap[g7]? = some (.cells #[.slice (some ⟨gh, 0, none⟩) n ch] 38 (0, 0))))
  (BH : Ae (w.heap[gh]? = some (.cells (rowOf hs) 3 (0, 0))))
include hn BX BS BH
set_option maxHeartbeats 8000000 in
set_option maxRecDepth 100000 in
theorem reach_no (hr : reach1 hs p h = some none) :
    Calls Tryz.prog 50 #[.int .i64 p, .int .i64 h, .pointer (some ⟨g6, 0, none⟩), .pointer (some ⟨g7, 0, none⟩)] w fun e w' => e = .returned (.bool false) ∧ w' = w := by
  subst hn
  have c6 : w.cell? ⟨g6, 0, none⟩ = some (.slice Ax hs.length cx) := (bC BX.out 0).trans rfl
  have c7 : w.cell? ⟨g7, 0, none⟩ = some (.slice (some ⟨gh, 0, none⟩) hs.length ch) := (bC BS.out 0).trans rfl
  unfold reach1 at hr
  by_cases h0 : p ≥ (hs.length : Int)
  · go_enter Tryz.func50, Tryz.ntmps50
    go_wp2
    go_ret
    exact ⟨rfl, rfl⟩
  · rw [if_neg h0] at hr
    by_cases h1 : 0 ≤ p
    · rw [if_pos h1] at hr
      have hp : p < (hs.length : Int) := by omega
      have cp : w.cell? ⟨gh, p.toNat, none⟩ = some (.int .i64 (rdOf 0 hs p)) := (bC BH.out _).trans (rowOf_get hs p h1 hp)
      by_cases h2 : 0 ≤ rdOf 0 hs p
      · rw [if_pos h2] at hr
        by_cases h3 : rdOf 0 hs p = h
        · rw [if_pos h3] at hr
          simp at hr
        · generalize rdOf 0 hs p = u at *
          go_enter Tryz.func50, Tryz.ntmps50
          go_wp2
          go_ret
          exact ⟨rfl, rfl⟩
      · rw [if_neg h2] at hr
        simp at hr
    · rw [if_neg h1] at hr
      simp at hr
set_option maxHeartbeats 8000000 in
set_option maxRecDepth 100000 in
theorem reach_yes (hs' : List Int) (hr : reach1 hs p h = some (some hs')) :
    Calls Tryz.prog 50 #[.int .i64 p, .int .i64 h, .pointer (some ⟨g6, 0, none⟩), .pointer (some ⟨g7, 0, none⟩)] w fun e w' => e = .returned (.bool true) ∧ w' = w.setCell ⟨gh, p.toNat, none⟩ (.int .i64 h) ∧ Ae (w'.heap[gh]? = some (.cells (rowOf hs') 3 (0, 0))) := by
  subst hn
  have c6 : w.cell? ⟨g6, 0, none⟩ = some (.slice Ax hs.length cx) := (bC BX.out 0).trans rfl
  have c7 : w.cell? ⟨g7, 0, none⟩ = some (.slice (some ⟨gh, 0, none⟩) hs.length ch) := (bC BS.out 0).trans rfl
  unfold reach1 at hr
  by_cases h0 : p ≥ (hs.length : Int)
  · rw [if_pos h0] at hr
    simp at hr
  · rw [if_neg h0] at hr
    by_cases h1 : 0 ≤ p
    · rw [if_pos h1] at hr
      have hp : p < (hs.length : Int) := by omega
      have cp : w.cell? ⟨gh, p.toNat, none⟩ = some (.int .i64 (rdOf 0 hs p)) := (bC BH.out _).trans (rowOf_get hs p h1 hp)
      have fp := bF BH.out p.toNat
      have hset : (w.setCell ⟨gh, p.toNat, none⟩ (.int .i64 h)).heap[gh]? = some (.cells (rowOf (hs.set p.toNat h)) 3 (0, 0)) := blk_put BH.out p.toNat _ (rowOf_set hs p.toNat h)
      by_cases h2 : 0 ≤ rdOf 0 hs p
      · rw [if_pos h2] at hr
        by_cases h3 : rdOf 0 hs p = h
        · rw [if_pos h3] at hr
          obtain rfl := Option.some.inj (Option.some.inj hr)
          have HS := Ae.mk hset
          clear hset hr
          generalize rdOf 0 hs p = u at *
          subst h3
          go_enter Tryz.func50, Tryz.ntmps50
          go_wp2
          go_ret
          exact ⟨rfl, rfl, HS⟩
        · rw [if_neg h3] at hr
          simp at hr
      · rw [if_neg h2] at hr
        obtain rfl := Option.some.inj (Option.some.inj hr)
        have HS := Ae.mk hset
        clear hset hr
        generalize rdOf 0 hs p = u at *
        go_enter Tryz.func50, Tryz.ntmps50
        go_wp2
        go_ret
        exact ⟨rfl, rfl, HS⟩
    · rw [if_neg h1] at hr
      simp at hr
end
end Go.Proofs.YtlbcnacfgickcaaGreatDoor.A
