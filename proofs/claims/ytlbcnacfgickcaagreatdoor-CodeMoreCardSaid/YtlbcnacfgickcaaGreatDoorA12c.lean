/- code.may: the first test. -/
import Derived.Test.YtlbcnacfgickcaaGreatDoorShort
import Derived.Test.YtlbcnacfgickcaaGreatDoorA12b
namespace Go.Proofs.YtlbcnacfgickcaaGreatDoor.A
open Go.RowKit Go.Proofs.YtlbcnacfgickcaaGreatDoorW.PrintWords Go.Proofs.YtlbcnacfgickcaaGreatDoorW.PrintLast Go.Proofs.YtlbcnacfgickcaaGreatDoorW.PrintMore Go.Proofs.YtlbcnacfgickcaaGreatDoorW.Short
attribute [local go_sem] max2_int min2_int max_two min_two max_three min_three max_four min_four
set_option linter.unusedVariables false
set_option linter.unusedSimpArgs false
set_option maxHeartbeats 0 in
set_option maxRecDepth 100000 in
theorem mY.first : mY.parts.1 := by
 unfold mY.parts
 dsimp -zeta only
 intro k c0_0 lA A0_1 c0_1 lB a1 a2 r w hT hu58 hu56 hu84 HC0_0 HR0_1 HC0_1 c4b0 c5b0 c6b0 c7b0 t162 t163 t164 t165 A8 HC9 Qq gb158 w10 GW158 GE158 hcz11_1 hfz11_0 hfz11_1 ad159 c159_5 HR0_0 hcz11_0 hx159_0 hx159_1 hx159_2 hx159_3 hx159_4 HC159_5 p159 q159 ad160 A160_4 c160_4 hx159_5 HR159_5 hx160_0 hx160_1 hx160_2 hx160_3 hx160_4 HR160_4 HC160_4 p160 q160 gb161 w12 GW161 GE161 NB158_161 NB161_158 hnb13 hnc13 hcz14_0 hcz14_1 hcz14_2 hcz14_3 hcz14_4 hfz14_0 hfz14_1 hfz14_2 hfz14_3 hfz14_4 w15 gb166 w16 BK158 BK161 HB BK166 GW166 GE166 NB158_166 NB166_158 NB161_166 NB166_161 hnb17 hnc17 hnb18 hnc18 hcz19_0 hcz19_1 hcz19_2 hcz19_3 hfz19_0 hfz19_1 hfz19_2 hfz19_3 Ka ha Kb hb_ Jj Kc hJ hK
 have H := HC9.out
 clear HC9
 by_cases c20 : ((R6 ((R3 lA a1).f5) a2).f0) < 1
 ·rw [if_pos c20] at H
  have c20b0 : decide (((R6 ((R3 lA a1).f5) a2).f0) < 1) = true := decide_eq_true c20
  clear c20
  (first | rw [c20b0] | (simp only [i64_w, i32_w]; rw [c20b0]) | skip)
  have H' := Ae.mk H
  clear H
  have hnb21 := NB161_158.out
  have hnc21 := NB158_161.out
  have hnb22 := NB161_166.out
  have hnc22 := NB166_161.out
  have hcz23_0 : w16.cell? ⟨gb161, 0, none⟩ = some (.int .i64 ((R6 ((R3 lA a1).f5) a2).f0)) := (bC BK161.out 0).trans rfl
  have hcz23_1 : w16.cell? ⟨gb161, 1, none⟩ = some (.int .i64 ((R6 ((R3 lA a1).f5) a2).f1)) := (bC BK161.out 1).trans rfl
  have hcz23_2 : w16.cell? ⟨gb161, 2, none⟩ = some (.int .i64 ((R6 ((R3 lA a1).f5) a2).f2)) := (bC BK161.out 2).trans rfl
  have hcz23_3 : w16.cell? ⟨gb161, 3, none⟩ = some (.string ((R6 ((R3 lA a1).f5) a2).f3)) := (bC BK161.out 3).trans rfl
  have hcz23_4 : w16.cell? ⟨gb161, 4, none⟩ = some (.slice A160_4 ((R6 ((R3 lA a1).f5) a2).f4).length c160_4) := (bC BK161.out 4).trans rfl
  have hfz23_0 := bF BK161.out 0
  have hfz23_1 := bF BK161.out 1
  have hfz23_2 := bF BK161.out 2
  have hfz23_3 := bF BK161.out 3
  have hfz23_4 := bF BK161.out 4
  go_wp2
  go_meet
  case rel => exact ⟨_, (true), pv, H', ⟨by first | omega | exact Nat.le_refl _⟩, ⟨bt⟩, ⟨bt⟩, ⟨bt⟩, ⟨bel⟩⟩
 ·rw [if_neg c20] at H
  have c20b0 : decide (((R6 ((R3 lA a1).f5) a2).f0) < 1) = false := decide_eq_false c20
  clear c20
  (first | rw [c20b0] | (simp only [i64_w, i32_w]; rw [c20b0]) | skip)
  by_cases c24 : ((R6 ((R3 lA a1).f5) a2).f0) > 38
  ·rw [if_pos c24] at H
   have c24b0 : decide (38 < ((R6 ((R3 lA a1).f5) a2).f0)) = true := decide_eq_true c24
   clear c24
   have H' := Ae.mk H
   clear H
   have hnb25 := NB161_158.out
   have hnc25 := NB158_161.out
   have hnb26 := NB161_166.out
   have hnc26 := NB166_161.out
   have hcz27_0 : w16.cell? ⟨gb161, 0, none⟩ = some (.int .i64 ((R6 ((R3 lA a1).f5) a2).f0)) := (bC BK161.out 0).trans rfl
   have hcz27_1 : w16.cell? ⟨gb161, 1, none⟩ = some (.int .i64 ((R6 ((R3 lA a1).f5) a2).f1)) := (bC BK161.out 1).trans rfl
   have hcz27_2 : w16.cell? ⟨gb161, 2, none⟩ = some (.int .i64 ((R6 ((R3 lA a1).f5) a2).f2)) := (bC BK161.out 2).trans rfl
   have hcz27_3 : w16.cell? ⟨gb161, 3, none⟩ = some (.string ((R6 ((R3 lA a1).f5) a2).f3)) := (bC BK161.out 3).trans rfl
   have hcz27_4 : w16.cell? ⟨gb161, 4, none⟩ = some (.slice A160_4 ((R6 ((R3 lA a1).f5) a2).f4).length c160_4) := (bC BK161.out 4).trans rfl
   have hfz27_0 := bF BK161.out 0
   have hfz27_1 := bF BK161.out 1
   have hfz27_2 := bF BK161.out 2
   have hfz27_3 := bF BK161.out 3
   have hfz27_4 := bF BK161.out 4
   go_wp2
   go_meet
   case rel => exact ⟨_, (true), pv, H', ⟨by first | omega | exact Nat.le_refl _⟩, ⟨bt⟩, ⟨bt⟩, ⟨bt⟩, ⟨bel⟩⟩
  ·rw [if_neg c24] at H
   have c24b0 : decide (38 < ((R6 ((R3 lA a1).f5) a2).f0)) = false := decide_eq_false c24
   clear c24
   by_cases c28 : t162 = true
   ·subst c28
    have H1 : (if t163 = true then (if t164 = true then (if t165 = true then (mY.j0 k a1 a2 false lA lB ((R6 ((R3 lA a1).f5) a2).f0) ((R6 ((R3 lA a1).f5) a2).f1) ((R6 ((R3 lA a1).f5) a2).f2) ((R6 ((R3 lA a1).f5) a2).f3) ((R6 ((R3 lA a1).f5) a2).f4)) else (mY.j0 k a1 a2 (decide ((((R6 ((R3 lA a1).f5) a2).f4).length : Int) > 0)) lA lB ((R6 ((R3 lA a1).f5) a2).f0) ((R6 ((R3 lA a1).f5) a2).f1) ((R6 ((R3 lA a1).f5) a2).f2) ((R6 ((R3 lA a1).f5) a2).f3) ((R6 ((R3 lA a1).f5) a2).f4))) else (if ((R6 ((R3 lA a1).f5) a2).f3).toList = ([] : List UInt8) then (if t165 = true then (mY.j0 k a1 a2 false lA lB ((R6 ((R3 lA a1).f5) a2).f0) ((R6 ((R3 lA a1).f5) a2).f1) ((R6 ((R3 lA a1).f5) a2).f2) ((R6 ((R3 lA a1).f5) a2).f3) ((R6 ((R3 lA a1).f5) a2).f4)) else (mY.j0 k a1 a2 (decide ((((R6 ((R3 lA a1).f5) a2).f4).length : Int) > 0)) lA lB ((R6 ((R3 lA a1).f5) a2).f0) ((R6 ((R3 lA a1).f5) a2).f1) ((R6 ((R3 lA a1).f5) a2).f2) ((R6 ((R3 lA a1).f5) a2).f3) ((R6 ((R3 lA a1).f5) a2).f4))) else (mY.j0 k a1 a2 true lA lB ((R6 ((R3 lA a1).f5) a2).f0) ((R6 ((R3 lA a1).f5) a2).f1) ((R6 ((R3 lA a1).f5) a2).f2) ((R6 ((R3 lA a1).f5) a2).f3) ((R6 ((R3 lA a1).f5) a2).f4)))) else (if ((R6 ((R3 lA a1).f5) a2).f2) = 0 then (if t164 = true then (if t165 = true then (mY.j0 k a1 a2 false lA lB ((R6 ((R3 lA a1).f5) a2).f0) ((R6 ((R3 lA a1).f5) a2).f1) ((R6 ((R3 lA a1).f5) a2).f2) ((R6 ((R3 lA a1).f5) a2).f3) ((R6 ((R3 lA a1).f5) a2).f4)) else (mY.j0 k a1 a2 (decide ((((R6 ((R3 lA a1).f5) a2).f4).length : Int) > 0)) lA lB ((R6 ((R3 lA a1).f5) a2).f0) ((R6 ((R3 lA a1).f5) a2).f1) ((R6 ((R3 lA a1).f5) a2).f2) ((R6 ((R3 lA a1).f5) a2).f3) ((R6 ((R3 lA a1).f5) a2).f4))) else (if ((R6 ((R3 lA a1).f5) a2).f3).toList = ([] : List UInt8) then (if t165 = true then (mY.j0 k a1 a2 false lA lB ((R6 ((R3 lA a1).f5) a2).f0) ((R6 ((R3 lA a1).f5) a2).f1) ((R6 ((R3 lA a1).f5) a2).f2) ((R6 ((R3 lA a1).f5) a2).f3) ((R6 ((R3 lA a1).f5) a2).f4)) else (mY.j0 k a1 a2 (decide ((((R6 ((R3 lA a1).f5) a2).f4).length : Int) > 0)) lA lB ((R6 ((R3 lA a1).f5) a2).f0) ((R6 ((R3 lA a1).f5) a2).f1) ((R6 ((R3 lA a1).f5) a2).f2) ((R6 ((R3 lA a1).f5) a2).f3) ((R6 ((R3 lA a1).f5) a2).f4))) else (mY.j0 k a1 a2 true lA lB ((R6 ((R3 lA a1).f5) a2).f0) ((R6 ((R3 lA a1).f5) a2).f1) ((R6 ((R3 lA a1).f5) a2).f2) ((R6 ((R3 lA a1).f5) a2).f3) ((R6 ((R3 lA a1).f5) a2).f4)))) else (mY.j0 k a1 a2 true lA lB ((R6 ((R3 lA a1).f5) a2).f0) ((R6 ((R3 lA a1).f5) a2).f1) ((R6 ((R3 lA a1).f5) a2).f2) ((R6 ((R3 lA a1).f5) a2).f3) ((R6 ((R3 lA a1).f5) a2).f4)))) = some r := by rw [if_pos rfl] at H; exact H
    clear H
    have H := H1
    clear H1
    by_cases c29 : t163 = true
    ·subst c29
     have H1 : (if t164 = true then (if t165 = true then (mY.j0 k a1 a2 false lA lB ((R6 ((R3 lA a1).f5) a2).f0) ((R6 ((R3 lA a1).f5) a2).f1) ((R6 ((R3 lA a1).f5) a2).f2) ((R6 ((R3 lA a1).f5) a2).f3) ((R6 ((R3 lA a1).f5) a2).f4)) else (mY.j0 k a1 a2 (decide ((((R6 ((R3 lA a1).f5) a2).f4).length : Int) > 0)) lA lB ((R6 ((R3 lA a1).f5) a2).f0) ((R6 ((R3 lA a1).f5) a2).f1) ((R6 ((R3 lA a1).f5) a2).f2) ((R6 ((R3 lA a1).f5) a2).f3) ((R6 ((R3 lA a1).f5) a2).f4))) else (if ((R6 ((R3 lA a1).f5) a2).f3).toList = ([] : List UInt8) then (if t165 = true then (mY.j0 k a1 a2 false lA lB ((R6 ((R3 lA a1).f5) a2).f0) ((R6 ((R3 lA a1).f5) a2).f1) ((R6 ((R3 lA a1).f5) a2).f2) ((R6 ((R3 lA a1).f5) a2).f3) ((R6 ((R3 lA a1).f5) a2).f4)) else (mY.j0 k a1 a2 (decide ((((R6 ((R3 lA a1).f5) a2).f4).length : Int) > 0)) lA lB ((R6 ((R3 lA a1).f5) a2).f0) ((R6 ((R3 lA a1).f5) a2).f1) ((R6 ((R3 lA a1).f5) a2).f2) ((R6 ((R3 lA a1).f5) a2).f3) ((R6 ((R3 lA a1).f5) a2).f4))) else (mY.j0 k a1 a2 true lA lB ((R6 ((R3 lA a1).f5) a2).f0) ((R6 ((R3 lA a1).f5) a2).f1) ((R6 ((R3 lA a1).f5) a2).f2) ((R6 ((R3 lA a1).f5) a2).f3) ((R6 ((R3 lA a1).f5) a2).f4)))) = some r := by rw [if_pos rfl] at H; exact H
     clear H
     have H := H1
     clear H1
     by_cases c30 : t164 = true
     ·subst c30
      have H1 : (if t165 = true then (mY.j0 k a1 a2 false lA lB ((R6 ((R3 lA a1).f5) a2).f0) ((R6 ((R3 lA a1).f5) a2).f1) ((R6 ((R3 lA a1).f5) a2).f2) ((R6 ((R3 lA a1).f5) a2).f3) ((R6 ((R3 lA a1).f5) a2).f4)) else (mY.j0 k a1 a2 (decide ((((R6 ((R3 lA a1).f5) a2).f4).length : Int) > 0)) lA lB ((R6 ((R3 lA a1).f5) a2).f0) ((R6 ((R3 lA a1).f5) a2).f1) ((R6 ((R3 lA a1).f5) a2).f2) ((R6 ((R3 lA a1).f5) a2).f3) ((R6 ((R3 lA a1).f5) a2).f4))) = some r := by rw [if_pos rfl] at H; exact H
      clear H
      have H := H1
      clear H1
      by_cases c31 : t165 = true
      ·subst c31
       have H1 : (mY.j0 k a1 a2 false lA lB ((R6 ((R3 lA a1).f5) a2).f0) ((R6 ((R3 lA a1).f5) a2).f1) ((R6 ((R3 lA a1).f5) a2).f2) ((R6 ((R3 lA a1).f5) a2).f3) ((R6 ((R3 lA a1).f5) a2).f4)) = some r := by rw [if_pos rfl] at H; exact H
       clear H
       have H := H1
       clear H1
       have H' := Ae.mk H
       clear H
       have hnb32 := NB161_158.out
       have hnc32 := NB158_161.out
       have hnb33 := NB161_166.out
       have hnc33 := NB166_161.out
       have hcz34_0 : w16.cell? ⟨gb161, 0, none⟩ = some (.int .i64 ((R6 ((R3 lA a1).f5) a2).f0)) := (bC BK161.out 0).trans rfl
       have hcz34_1 : w16.cell? ⟨gb161, 1, none⟩ = some (.int .i64 ((R6 ((R3 lA a1).f5) a2).f1)) := (bC BK161.out 1).trans rfl
       have hcz34_2 : w16.cell? ⟨gb161, 2, none⟩ = some (.int .i64 ((R6 ((R3 lA a1).f5) a2).f2)) := (bC BK161.out 2).trans rfl
       have hcz34_3 : w16.cell? ⟨gb161, 3, none⟩ = some (.string ((R6 ((R3 lA a1).f5) a2).f3)) := (bC BK161.out 3).trans rfl
       have hcz34_4 : w16.cell? ⟨gb161, 4, none⟩ = some (.slice A160_4 ((R6 ((R3 lA a1).f5) a2).f4).length c160_4) := (bC BK161.out 4).trans rfl
       have hfz34_0 := bF BK161.out 0
       have hfz34_1 := bF BK161.out 1
       have hfz34_2 := bF BK161.out 2
       have hfz34_3 := bF BK161.out 3
       have hfz34_4 := bF BK161.out 4
       have hnb35 := NB166_158.out
       have hnc35 := NB158_166.out
       have hcz36_0 : w16.cell? ⟨gb166, 0, none⟩ = some (.bool false) := (bC BK166.out 0).trans rfl
       have hcz36_1 : w16.cell? ⟨gb166, 1, none⟩ = some (.bool false) := (bC BK166.out 1).trans rfl
       have hcz36_2 : w16.cell? ⟨gb166, 2, none⟩ = some (.bool false) := (bC BK166.out 2).trans rfl
       have hcz36_3 : w16.cell? ⟨gb166, 3, none⟩ = some (.bool false) := (bC BK166.out 3).trans rfl
       have hfz36_0 := bF BK166.out 0
       have hfz36_1 := bF BK166.out 1
       have hfz36_2 := bF BK166.out 2
       have hfz36_3 := bF BK166.out 3
       go_wp2
       go_meet
       case rel => exact ⟨_, (false), pv, H', ⟨by first | omega | exact Nat.le_refl _⟩, ⟨bt⟩, ⟨bt⟩, ⟨bt⟩, ⟨bel⟩⟩
      ·replace c31 := Bool.eq_false_iff.mpr c31
       subst c31
       have H1 : (mY.j0 k a1 a2 (decide ((((R6 ((R3 lA a1).f5) a2).f4).length : Int) > 0)) lA lB ((R6 ((R3 lA a1).f5) a2).f0) ((R6 ((R3 lA a1).f5) a2).f1) ((R6 ((R3 lA a1).f5) a2).f2) ((R6 ((R3 lA a1).f5) a2).f3) ((R6 ((R3 lA a1).f5) a2).f4)) = some r := by rw [if_neg (show ¬ (false = true) by decide)] at H; exact H
       clear H
       have H := H1
       clear H1
       have H' := Ae.mk H
       clear H
       have hnb37 := NB161_158.out
       have hnc37 := NB158_161.out
       have hnb38 := NB161_166.out
       have hnc38 := NB166_161.out
       have hcz39_0 : w16.cell? ⟨gb161, 0, none⟩ = some (.int .i64 ((R6 ((R3 lA a1).f5) a2).f0)) := (bC BK161.out 0).trans rfl
       have hcz39_1 : w16.cell? ⟨gb161, 1, none⟩ = some (.int .i64 ((R6 ((R3 lA a1).f5) a2).f1)) := (bC BK161.out 1).trans rfl
       have hcz39_2 : w16.cell? ⟨gb161, 2, none⟩ = some (.int .i64 ((R6 ((R3 lA a1).f5) a2).f2)) := (bC BK161.out 2).trans rfl
       have hcz39_3 : w16.cell? ⟨gb161, 3, none⟩ = some (.string ((R6 ((R3 lA a1).f5) a2).f3)) := (bC BK161.out 3).trans rfl
       have hcz39_4 : w16.cell? ⟨gb161, 4, none⟩ = some (.slice A160_4 ((R6 ((R3 lA a1).f5) a2).f4).length c160_4) := (bC BK161.out 4).trans rfl
       have hfz39_0 := bF BK161.out 0
       have hfz39_1 := bF BK161.out 1
       have hfz39_2 := bF BK161.out 2
       have hfz39_3 := bF BK161.out 3
       have hfz39_4 := bF BK161.out 4
       have hnb40 := NB166_158.out
       have hnc40 := NB158_166.out
       have hcz41_0 : w16.cell? ⟨gb166, 0, none⟩ = some (.bool false) := (bC BK166.out 0).trans rfl
       have hcz41_1 : w16.cell? ⟨gb166, 1, none⟩ = some (.bool false) := (bC BK166.out 1).trans rfl
       have hcz41_2 : w16.cell? ⟨gb166, 2, none⟩ = some (.bool false) := (bC BK166.out 2).trans rfl
       have hcz41_3 : w16.cell? ⟨gb166, 3, none⟩ = some (.bool false) := (bC BK166.out 3).trans rfl
       have hfz41_0 := bF BK166.out 0
       have hfz41_1 := bF BK166.out 1
       have hfz41_2 := bF BK166.out 2
       have hfz41_3 := bF BK166.out 3
       go_wp2
       go_meet
       case rel => exact ⟨_, (decide ((((R6 ((R3 lA a1).f5) a2).f4).length : Int) > 0)), pv, H', ⟨by first | omega | exact Nat.le_refl _⟩, ⟨bt⟩, ⟨bt⟩, ⟨bt⟩, ⟨bel⟩⟩
     ·replace c30 := Bool.eq_false_iff.mpr c30
      subst c30
      have H1 : (if ((R6 ((R3 lA a1).f5) a2).f3).toList = ([] : List UInt8) then (if t165 = true then (mY.j0 k a1 a2 false lA lB ((R6 ((R3 lA a1).f5) a2).f0) ((R6 ((R3 lA a1).f5) a2).f1) ((R6 ((R3 lA a1).f5) a2).f2) ((R6 ((R3 lA a1).f5) a2).f3) ((R6 ((R3 lA a1).f5) a2).f4)) else (mY.j0 k a1 a2 (decide ((((R6 ((R3 lA a1).f5) a2).f4).length : Int) > 0)) lA lB ((R6 ((R3 lA a1).f5) a2).f0) ((R6 ((R3 lA a1).f5) a2).f1) ((R6 ((R3 lA a1).f5) a2).f2) ((R6 ((R3 lA a1).f5) a2).f3) ((R6 ((R3 lA a1).f5) a2).f4))) else (mY.j0 k a1 a2 true lA lB ((R6 ((R3 lA a1).f5) a2).f0) ((R6 ((R3 lA a1).f5) a2).f1) ((R6 ((R3 lA a1).f5) a2).f2) ((R6 ((R3 lA a1).f5) a2).f3) ((R6 ((R3 lA a1).f5) a2).f4))) = some r := by rw [if_neg (show ¬ (false = true) by decide)] at H; exact H
      clear H
      have H := H1
      clear H1
      by_cases c42 : ((R6 ((R3 lA a1).f5) a2).f3).toList = ([] : List UInt8)
      ·rw [if_pos c42] at H
       have c42b0 : (((R6 ((R3 lA a1).f5) a2).f3).toList == ([] : List UInt8)) = true := beq_iff_eq.mpr c42
       have c42b1 : (((R6 ((R3 lA a1).f5) a2).f3).toList != ([] : List UInt8)) = false := bne_eq_false_iff_eq.mpr c42
       clear c42
       by_cases c43 : t165 = true
       ·subst c43
        have H1 : (mY.j0 k a1 a2 false lA lB ((R6 ((R3 lA a1).f5) a2).f0) ((R6 ((R3 lA a1).f5) a2).f1) ((R6 ((R3 lA a1).f5) a2).f2) ((R6 ((R3 lA a1).f5) a2).f3) ((R6 ((R3 lA a1).f5) a2).f4)) = some r := by rw [if_pos rfl] at H; exact H
        clear H
        have H := H1
        clear H1
        have H' := Ae.mk H
        clear H
        have hnb44 := NB161_158.out
        have hnc44 := NB158_161.out
        have hnb45 := NB161_166.out
        have hnc45 := NB166_161.out
        have hcz46_0 : w16.cell? ⟨gb161, 0, none⟩ = some (.int .i64 ((R6 ((R3 lA a1).f5) a2).f0)) := (bC BK161.out 0).trans rfl
        have hcz46_1 : w16.cell? ⟨gb161, 1, none⟩ = some (.int .i64 ((R6 ((R3 lA a1).f5) a2).f1)) := (bC BK161.out 1).trans rfl
        have hcz46_2 : w16.cell? ⟨gb161, 2, none⟩ = some (.int .i64 ((R6 ((R3 lA a1).f5) a2).f2)) := (bC BK161.out 2).trans rfl
        have hcz46_3 : w16.cell? ⟨gb161, 3, none⟩ = some (.string ((R6 ((R3 lA a1).f5) a2).f3)) := (bC BK161.out 3).trans rfl
        have hcz46_4 : w16.cell? ⟨gb161, 4, none⟩ = some (.slice A160_4 ((R6 ((R3 lA a1).f5) a2).f4).length c160_4) := (bC BK161.out 4).trans rfl
        have hfz46_0 := bF BK161.out 0
        have hfz46_1 := bF BK161.out 1
        have hfz46_2 := bF BK161.out 2
        have hfz46_3 := bF BK161.out 3
        have hfz46_4 := bF BK161.out 4
        have hnb47 := NB166_158.out
        have hnc47 := NB158_166.out
        have hcz48_0 : w16.cell? ⟨gb166, 0, none⟩ = some (.bool false) := (bC BK166.out 0).trans rfl
        have hcz48_1 : w16.cell? ⟨gb166, 1, none⟩ = some (.bool false) := (bC BK166.out 1).trans rfl
        have hcz48_2 : w16.cell? ⟨gb166, 2, none⟩ = some (.bool false) := (bC BK166.out 2).trans rfl
        have hcz48_3 : w16.cell? ⟨gb166, 3, none⟩ = some (.bool false) := (bC BK166.out 3).trans rfl
        have hfz48_0 := bF BK166.out 0
        have hfz48_1 := bF BK166.out 1
        have hfz48_2 := bF BK166.out 2
        have hfz48_3 := bF BK166.out 3
        go_wp2
        go_meet
        case rel => exact ⟨_, (false), pv, H', ⟨by first | omega | exact Nat.le_refl _⟩, ⟨bt⟩, ⟨bt⟩, ⟨bt⟩, ⟨bel⟩⟩
       ·replace c43 := Bool.eq_false_iff.mpr c43
        subst c43
        have H1 : (mY.j0 k a1 a2 (decide ((((R6 ((R3 lA a1).f5) a2).f4).length : Int) > 0)) lA lB ((R6 ((R3 lA a1).f5) a2).f0) ((R6 ((R3 lA a1).f5) a2).f1) ((R6 ((R3 lA a1).f5) a2).f2) ((R6 ((R3 lA a1).f5) a2).f3) ((R6 ((R3 lA a1).f5) a2).f4)) = some r := by rw [if_neg (show ¬ (false = true) by decide)] at H; exact H
        clear H
        have H := H1
        clear H1
        have H' := Ae.mk H
        clear H
        have hnb49 := NB161_158.out
        have hnc49 := NB158_161.out
        have hnb50 := NB161_166.out
        have hnc50 := NB166_161.out
        have hcz51_0 : w16.cell? ⟨gb161, 0, none⟩ = some (.int .i64 ((R6 ((R3 lA a1).f5) a2).f0)) := (bC BK161.out 0).trans rfl
        have hcz51_1 : w16.cell? ⟨gb161, 1, none⟩ = some (.int .i64 ((R6 ((R3 lA a1).f5) a2).f1)) := (bC BK161.out 1).trans rfl
        have hcz51_2 : w16.cell? ⟨gb161, 2, none⟩ = some (.int .i64 ((R6 ((R3 lA a1).f5) a2).f2)) := (bC BK161.out 2).trans rfl
        have hcz51_3 : w16.cell? ⟨gb161, 3, none⟩ = some (.string ((R6 ((R3 lA a1).f5) a2).f3)) := (bC BK161.out 3).trans rfl
        have hcz51_4 : w16.cell? ⟨gb161, 4, none⟩ = some (.slice A160_4 ((R6 ((R3 lA a1).f5) a2).f4).length c160_4) := (bC BK161.out 4).trans rfl
        have hfz51_0 := bF BK161.out 0
        have hfz51_1 := bF BK161.out 1
        have hfz51_2 := bF BK161.out 2
        have hfz51_3 := bF BK161.out 3
        have hfz51_4 := bF BK161.out 4
        have hnb52 := NB166_158.out
        have hnc52 := NB158_166.out
        have hcz53_0 : w16.cell? ⟨gb166, 0, none⟩ = some (.bool false) := (bC BK166.out 0).trans rfl
        have hcz53_1 : w16.cell? ⟨gb166, 1, none⟩ = some (.bool false) := (bC BK166.out 1).trans rfl
        have hcz53_2 : w16.cell? ⟨gb166, 2, none⟩ = some (.bool false) := (bC BK166.out 2).trans rfl
        have hcz53_3 : w16.cell? ⟨gb166, 3, none⟩ = some (.bool false) := (bC BK166.out 3).trans rfl
        have hfz53_0 := bF BK166.out 0
        have hfz53_1 := bF BK166.out 1
        have hfz53_2 := bF BK166.out 2
        have hfz53_3 := bF BK166.out 3
        go_wp2
        go_meet
        case rel => exact ⟨_, (decide ((((R6 ((R3 lA a1).f5) a2).f4).length : Int) > 0)), pv, H', ⟨by first | omega | exact Nat.le_refl _⟩, ⟨bt⟩, ⟨bt⟩, ⟨bt⟩, ⟨bel⟩⟩
      ·rw [if_neg c42] at H
       have c42b0 : (((R6 ((R3 lA a1).f5) a2).f3).toList == ([] : List UInt8)) = false := beq_eq_false_iff_ne.mpr c42
       have c42b1 : (((R6 ((R3 lA a1).f5) a2).f3).toList != ([] : List UInt8)) = true := bne_iff_ne.mpr c42
       have H' := Ae.mk H
       clear H
       have hnb54 := NB161_158.out
       have hnc54 := NB158_161.out
       have hnb55 := NB161_166.out
       have hnc55 := NB166_161.out
       have hcz56_0 : w16.cell? ⟨gb161, 0, none⟩ = some (.int .i64 ((R6 ((R3 lA a1).f5) a2).f0)) := (bC BK161.out 0).trans rfl
       have hcz56_1 : w16.cell? ⟨gb161, 1, none⟩ = some (.int .i64 ((R6 ((R3 lA a1).f5) a2).f1)) := (bC BK161.out 1).trans rfl
       have hcz56_2 : w16.cell? ⟨gb161, 2, none⟩ = some (.int .i64 ((R6 ((R3 lA a1).f5) a2).f2)) := (bC BK161.out 2).trans rfl
       have hcz56_3 : w16.cell? ⟨gb161, 3, none⟩ = some (.string ((R6 ((R3 lA a1).f5) a2).f3)) := (bC BK161.out 3).trans rfl
       have hcz56_4 : w16.cell? ⟨gb161, 4, none⟩ = some (.slice A160_4 ((R6 ((R3 lA a1).f5) a2).f4).length c160_4) := (bC BK161.out 4).trans rfl
       have hfz56_0 := bF BK161.out 0
       have hfz56_1 := bF BK161.out 1
       have hfz56_2 := bF BK161.out 2
       have hfz56_3 := bF BK161.out 3
       have hfz56_4 := bF BK161.out 4
       have hnb57 := NB166_158.out
       have hnc57 := NB158_166.out
       have hcz58_0 : w16.cell? ⟨gb166, 0, none⟩ = some (.bool false) := (bC BK166.out 0).trans rfl
       have hcz58_1 : w16.cell? ⟨gb166, 1, none⟩ = some (.bool false) := (bC BK166.out 1).trans rfl
       have hcz58_2 : w16.cell? ⟨gb166, 2, none⟩ = some (.bool false) := (bC BK166.out 2).trans rfl
       have hcz58_3 : w16.cell? ⟨gb166, 3, none⟩ = some (.bool false) := (bC BK166.out 3).trans rfl
       have hfz58_0 := bF BK166.out 0
       have hfz58_1 := bF BK166.out 1
       have hfz58_2 := bF BK166.out 2
       have hfz58_3 := bF BK166.out 3
       go_wp2
       go_meet
       case rel => exact ⟨_, (true), pv, H', ⟨by first | omega | exact Nat.le_refl _⟩, ⟨bt⟩, ⟨bt⟩, ⟨bt⟩, ⟨bel⟩⟩
    ·replace c29 := Bool.eq_false_iff.mpr c29
     subst c29
     have H1 : (if ((R6 ((R3 lA a1).f5) a2).f2) = 0 then (if t164 = true then (if t165 = true then (mY.j0 k a1 a2 false lA lB ((R6 ((R3 lA a1).f5) a2).f0) ((R6 ((R3 lA a1).f5) a2).f1) ((R6 ((R3 lA a1).f5) a2).f2) ((R6 ((R3 lA a1).f5) a2).f3) ((R6 ((R3 lA a1).f5) a2).f4)) else (mY.j0 k a1 a2 (decide ((((R6 ((R3 lA a1).f5) a2).f4).length : Int) > 0)) lA lB ((R6 ((R3 lA a1).f5) a2).f0) ((R6 ((R3 lA a1).f5) a2).f1) ((R6 ((R3 lA a1).f5) a2).f2) ((R6 ((R3 lA a1).f5) a2).f3) ((R6 ((R3 lA a1).f5) a2).f4))) else (if ((R6 ((R3 lA a1).f5) a2).f3).toList = ([] : List UInt8) then (if t165 = true then (mY.j0 k a1 a2 false lA lB ((R6 ((R3 lA a1).f5) a2).f0) ((R6 ((R3 lA a1).f5) a2).f1) ((R6 ((R3 lA a1).f5) a2).f2) ((R6 ((R3 lA a1).f5) a2).f3) ((R6 ((R3 lA a1).f5) a2).f4)) else (mY.j0 k a1 a2 (decide ((((R6 ((R3 lA a1).f5) a2).f4).length : Int) > 0)) lA lB ((R6 ((R3 lA a1).f5) a2).f0) ((R6 ((R3 lA a1).f5) a2).f1) ((R6 ((R3 lA a1).f5) a2).f2) ((R6 ((R3 lA a1).f5) a2).f3) ((R6 ((R3 lA a1).f5) a2).f4))) else (mY.j0 k a1 a2 true lA lB ((R6 ((R3 lA a1).f5) a2).f0) ((R6 ((R3 lA a1).f5) a2).f1) ((R6 ((R3 lA a1).f5) a2).f2) ((R6 ((R3 lA a1).f5) a2).f3) ((R6 ((R3 lA a1).f5) a2).f4)))) else (mY.j0 k a1 a2 true lA lB ((R6 ((R3 lA a1).f5) a2).f0) ((R6 ((R3 lA a1).f5) a2).f1) ((R6 ((R3 lA a1).f5) a2).f2) ((R6 ((R3 lA a1).f5) a2).f3) ((R6 ((R3 lA a1).f5) a2).f4))) = some r := by rw [if_neg (show ¬ (false = true) by decide)] at H; exact H
     clear H
     have H := H1
     clear H1
     by_cases c59 : ((R6 ((R3 lA a1).f5) a2).f2) = 0
     ·rw [if_pos c59] at H
      have c59b0 : (((R6 ((R3 lA a1).f5) a2).f2) == 0) = true := beq_iff_eq.mpr c59
      have c59b1 : (((R6 ((R3 lA a1).f5) a2).f2) != 0) = false := bne_eq_false_iff_eq.mpr c59
      clear c59
      by_cases c60 : t164 = true
      ·subst c60
       have H1 : (if t165 = true then (mY.j0 k a1 a2 false lA lB ((R6 ((R3 lA a1).f5) a2).f0) ((R6 ((R3 lA a1).f5) a2).f1) ((R6 ((R3 lA a1).f5) a2).f2) ((R6 ((R3 lA a1).f5) a2).f3) ((R6 ((R3 lA a1).f5) a2).f4)) else (mY.j0 k a1 a2 (decide ((((R6 ((R3 lA a1).f5) a2).f4).length : Int) > 0)) lA lB ((R6 ((R3 lA a1).f5) a2).f0) ((R6 ((R3 lA a1).f5) a2).f1) ((R6 ((R3 lA a1).f5) a2).f2) ((R6 ((R3 lA a1).f5) a2).f3) ((R6 ((R3 lA a1).f5) a2).f4))) = some r := by rw [if_pos rfl] at H; exact H
       clear H
       have H := H1
       clear H1
       by_cases c61 : t165 = true
       ·subst c61
        have H1 : (mY.j0 k a1 a2 false lA lB ((R6 ((R3 lA a1).f5) a2).f0) ((R6 ((R3 lA a1).f5) a2).f1) ((R6 ((R3 lA a1).f5) a2).f2) ((R6 ((R3 lA a1).f5) a2).f3) ((R6 ((R3 lA a1).f5) a2).f4)) = some r := by rw [if_pos rfl] at H; exact H
        clear H
        have H := H1
        clear H1
        have H' := Ae.mk H
        clear H
        have hnb62 := NB161_158.out
        have hnc62 := NB158_161.out
        have hnb63 := NB161_166.out
        have hnc63 := NB166_161.out
        have hcz64_0 : w16.cell? ⟨gb161, 0, none⟩ = some (.int .i64 ((R6 ((R3 lA a1).f5) a2).f0)) := (bC BK161.out 0).trans rfl
        have hcz64_1 : w16.cell? ⟨gb161, 1, none⟩ = some (.int .i64 ((R6 ((R3 lA a1).f5) a2).f1)) := (bC BK161.out 1).trans rfl
        have hcz64_2 : w16.cell? ⟨gb161, 2, none⟩ = some (.int .i64 ((R6 ((R3 lA a1).f5) a2).f2)) := (bC BK161.out 2).trans rfl
        have hcz64_3 : w16.cell? ⟨gb161, 3, none⟩ = some (.string ((R6 ((R3 lA a1).f5) a2).f3)) := (bC BK161.out 3).trans rfl
        have hcz64_4 : w16.cell? ⟨gb161, 4, none⟩ = some (.slice A160_4 ((R6 ((R3 lA a1).f5) a2).f4).length c160_4) := (bC BK161.out 4).trans rfl
        have hfz64_0 := bF BK161.out 0
        have hfz64_1 := bF BK161.out 1
        have hfz64_2 := bF BK161.out 2
        have hfz64_3 := bF BK161.out 3
        have hfz64_4 := bF BK161.out 4
        have hnb65 := NB166_158.out
        have hnc65 := NB158_166.out
        have hcz66_0 : w16.cell? ⟨gb166, 0, none⟩ = some (.bool false) := (bC BK166.out 0).trans rfl
        have hcz66_1 : w16.cell? ⟨gb166, 1, none⟩ = some (.bool false) := (bC BK166.out 1).trans rfl
        have hcz66_2 : w16.cell? ⟨gb166, 2, none⟩ = some (.bool false) := (bC BK166.out 2).trans rfl
        have hcz66_3 : w16.cell? ⟨gb166, 3, none⟩ = some (.bool false) := (bC BK166.out 3).trans rfl
        have hfz66_0 := bF BK166.out 0
        have hfz66_1 := bF BK166.out 1
        have hfz66_2 := bF BK166.out 2
        have hfz66_3 := bF BK166.out 3
        go_wp2
        go_meet
        case rel => exact ⟨_, (false), pv, H', ⟨by first | omega | exact Nat.le_refl _⟩, ⟨bt⟩, ⟨bt⟩, ⟨bt⟩, ⟨bel⟩⟩
       ·replace c61 := Bool.eq_false_iff.mpr c61
        subst c61
        have H1 : (mY.j0 k a1 a2 (decide ((((R6 ((R3 lA a1).f5) a2).f4).length : Int) > 0)) lA lB ((R6 ((R3 lA a1).f5) a2).f0) ((R6 ((R3 lA a1).f5) a2).f1) ((R6 ((R3 lA a1).f5) a2).f2) ((R6 ((R3 lA a1).f5) a2).f3) ((R6 ((R3 lA a1).f5) a2).f4)) = some r := by rw [if_neg (show ¬ (false = true) by decide)] at H; exact H
        clear H
        have H := H1
        clear H1
        have H' := Ae.mk H
        clear H
        have hnb67 := NB161_158.out
        have hnc67 := NB158_161.out
        have hnb68 := NB161_166.out
        have hnc68 := NB166_161.out
        have hcz69_0 : w16.cell? ⟨gb161, 0, none⟩ = some (.int .i64 ((R6 ((R3 lA a1).f5) a2).f0)) := (bC BK161.out 0).trans rfl
        have hcz69_1 : w16.cell? ⟨gb161, 1, none⟩ = some (.int .i64 ((R6 ((R3 lA a1).f5) a2).f1)) := (bC BK161.out 1).trans rfl
        have hcz69_2 : w16.cell? ⟨gb161, 2, none⟩ = some (.int .i64 ((R6 ((R3 lA a1).f5) a2).f2)) := (bC BK161.out 2).trans rfl
        have hcz69_3 : w16.cell? ⟨gb161, 3, none⟩ = some (.string ((R6 ((R3 lA a1).f5) a2).f3)) := (bC BK161.out 3).trans rfl
        have hcz69_4 : w16.cell? ⟨gb161, 4, none⟩ = some (.slice A160_4 ((R6 ((R3 lA a1).f5) a2).f4).length c160_4) := (bC BK161.out 4).trans rfl
        have hfz69_0 := bF BK161.out 0
        have hfz69_1 := bF BK161.out 1
        have hfz69_2 := bF BK161.out 2
        have hfz69_3 := bF BK161.out 3
        have hfz69_4 := bF BK161.out 4
        have hnb70 := NB166_158.out
        have hnc70 := NB158_166.out
        have hcz71_0 : w16.cell? ⟨gb166, 0, none⟩ = some (.bool false) := (bC BK166.out 0).trans rfl
        have hcz71_1 : w16.cell? ⟨gb166, 1, none⟩ = some (.bool false) := (bC BK166.out 1).trans rfl
        have hcz71_2 : w16.cell? ⟨gb166, 2, none⟩ = some (.bool false) := (bC BK166.out 2).trans rfl
        have hcz71_3 : w16.cell? ⟨gb166, 3, none⟩ = some (.bool false) := (bC BK166.out 3).trans rfl
        have hfz71_0 := bF BK166.out 0
        have hfz71_1 := bF BK166.out 1
        have hfz71_2 := bF BK166.out 2
        have hfz71_3 := bF BK166.out 3
        go_wp2
        go_meet
        case rel => exact ⟨_, (decide ((((R6 ((R3 lA a1).f5) a2).f4).length : Int) > 0)), pv, H', ⟨by first | omega | exact Nat.le_refl _⟩, ⟨bt⟩, ⟨bt⟩, ⟨bt⟩, ⟨bel⟩⟩
      ·replace c60 := Bool.eq_false_iff.mpr c60
       subst c60
       have H1 : (if ((R6 ((R3 lA a1).f5) a2).f3).toList = ([] : List UInt8) then (if t165 = true then (mY.j0 k a1 a2 false lA lB ((R6 ((R3 lA a1).f5) a2).f0) ((R6 ((R3 lA a1).f5) a2).f1) ((R6 ((R3 lA a1).f5) a2).f2) ((R6 ((R3 lA a1).f5) a2).f3) ((R6 ((R3 lA a1).f5) a2).f4)) else (mY.j0 k a1 a2 (decide ((((R6 ((R3 lA a1).f5) a2).f4).length : Int) > 0)) lA lB ((R6 ((R3 lA a1).f5) a2).f0) ((R6 ((R3 lA a1).f5) a2).f1) ((R6 ((R3 lA a1).f5) a2).f2) ((R6 ((R3 lA a1).f5) a2).f3) ((R6 ((R3 lA a1).f5) a2).f4))) else (mY.j0 k a1 a2 true lA lB ((R6 ((R3 lA a1).f5) a2).f0) ((R6 ((R3 lA a1).f5) a2).f1) ((R6 ((R3 lA a1).f5) a2).f2) ((R6 ((R3 lA a1).f5) a2).f3) ((R6 ((R3 lA a1).f5) a2).f4))) = some r := by rw [if_neg (show ¬ (false = true) by decide)] at H; exact H
       clear H
       have H := H1
       clear H1
       by_cases c72 : ((R6 ((R3 lA a1).f5) a2).f3).toList = ([] : List UInt8)
       ·rw [if_pos c72] at H
        have c72b0 : (((R6 ((R3 lA a1).f5) a2).f3).toList == ([] : List UInt8)) = true := beq_iff_eq.mpr c72
        have c72b1 : (((R6 ((R3 lA a1).f5) a2).f3).toList != ([] : List UInt8)) = false := bne_eq_false_iff_eq.mpr c72
        clear c72
        by_cases c73 : t165 = true
        ·subst c73
         have H1 : (mY.j0 k a1 a2 false lA lB ((R6 ((R3 lA a1).f5) a2).f0) ((R6 ((R3 lA a1).f5) a2).f1) ((R6 ((R3 lA a1).f5) a2).f2) ((R6 ((R3 lA a1).f5) a2).f3) ((R6 ((R3 lA a1).f5) a2).f4)) = some r := by rw [if_pos rfl] at H; exact H
         clear H
         have H := H1
         clear H1
         have H' := Ae.mk H
         clear H
         have hnb74 := NB161_158.out
         have hnc74 := NB158_161.out
         have hnb75 := NB161_166.out
         have hnc75 := NB166_161.out
         have hcz76_0 : w16.cell? ⟨gb161, 0, none⟩ = some (.int .i64 ((R6 ((R3 lA a1).f5) a2).f0)) := (bC BK161.out 0).trans rfl
         have hcz76_1 : w16.cell? ⟨gb161, 1, none⟩ = some (.int .i64 ((R6 ((R3 lA a1).f5) a2).f1)) := (bC BK161.out 1).trans rfl
         have hcz76_2 : w16.cell? ⟨gb161, 2, none⟩ = some (.int .i64 ((R6 ((R3 lA a1).f5) a2).f2)) := (bC BK161.out 2).trans rfl
         have hcz76_3 : w16.cell? ⟨gb161, 3, none⟩ = some (.string ((R6 ((R3 lA a1).f5) a2).f3)) := (bC BK161.out 3).trans rfl
         have hcz76_4 : w16.cell? ⟨gb161, 4, none⟩ = some (.slice A160_4 ((R6 ((R3 lA a1).f5) a2).f4).length c160_4) := (bC BK161.out 4).trans rfl
         have hfz76_0 := bF BK161.out 0
         have hfz76_1 := bF BK161.out 1
         have hfz76_2 := bF BK161.out 2
         have hfz76_3 := bF BK161.out 3
         have hfz76_4 := bF BK161.out 4
         have hnb77 := NB166_158.out
         have hnc77 := NB158_166.out
         have hcz78_0 : w16.cell? ⟨gb166, 0, none⟩ = some (.bool false) := (bC BK166.out 0).trans rfl
         have hcz78_1 : w16.cell? ⟨gb166, 1, none⟩ = some (.bool false) := (bC BK166.out 1).trans rfl
         have hcz78_2 : w16.cell? ⟨gb166, 2, none⟩ = some (.bool false) := (bC BK166.out 2).trans rfl
         have hcz78_3 : w16.cell? ⟨gb166, 3, none⟩ = some (.bool false) := (bC BK166.out 3).trans rfl
         have hfz78_0 := bF BK166.out 0
         have hfz78_1 := bF BK166.out 1
         have hfz78_2 := bF BK166.out 2
         have hfz78_3 := bF BK166.out 3
         go_wp2
         go_meet
         case rel => exact ⟨_, (false), pv, H', ⟨by first | omega | exact Nat.le_refl _⟩, ⟨bt⟩, ⟨bt⟩, ⟨bt⟩, ⟨bel⟩⟩
        ·replace c73 := Bool.eq_false_iff.mpr c73
         subst c73
         have H1 : (mY.j0 k a1 a2 (decide ((((R6 ((R3 lA a1).f5) a2).f4).length : Int) > 0)) lA lB ((R6 ((R3 lA a1).f5) a2).f0) ((R6 ((R3 lA a1).f5) a2).f1) ((R6 ((R3 lA a1).f5) a2).f2) ((R6 ((R3 lA a1).f5) a2).f3) ((R6 ((R3 lA a1).f5) a2).f4)) = some r := by rw [if_neg (show ¬ (false = true) by decide)] at H; exact H
         clear H
         have H := H1
         clear H1
         have H' := Ae.mk H
         clear H
         have hnb79 := NB161_158.out
         have hnc79 := NB158_161.out
         have hnb80 := NB161_166.out
         have hnc80 := NB166_161.out
         have hcz81_0 : w16.cell? ⟨gb161, 0, none⟩ = some (.int .i64 ((R6 ((R3 lA a1).f5) a2).f0)) := (bC BK161.out 0).trans rfl
         have hcz81_1 : w16.cell? ⟨gb161, 1, none⟩ = some (.int .i64 ((R6 ((R3 lA a1).f5) a2).f1)) := (bC BK161.out 1).trans rfl
         have hcz81_2 : w16.cell? ⟨gb161, 2, none⟩ = some (.int .i64 ((R6 ((R3 lA a1).f5) a2).f2)) := (bC BK161.out 2).trans rfl
         have hcz81_3 : w16.cell? ⟨gb161, 3, none⟩ = some (.string ((R6 ((R3 lA a1).f5) a2).f3)) := (bC BK161.out 3).trans rfl
         have hcz81_4 : w16.cell? ⟨gb161, 4, none⟩ = some (.slice A160_4 ((R6 ((R3 lA a1).f5) a2).f4).length c160_4) := (bC BK161.out 4).trans rfl
         have hfz81_0 := bF BK161.out 0
         have hfz81_1 := bF BK161.out 1
         have hfz81_2 := bF BK161.out 2
         have hfz81_3 := bF BK161.out 3
         have hfz81_4 := bF BK161.out 4
         have hnb82 := NB166_158.out
         have hnc82 := NB158_166.out
         have hcz83_0 : w16.cell? ⟨gb166, 0, none⟩ = some (.bool false) := (bC BK166.out 0).trans rfl
         have hcz83_1 : w16.cell? ⟨gb166, 1, none⟩ = some (.bool false) := (bC BK166.out 1).trans rfl
         have hcz83_2 : w16.cell? ⟨gb166, 2, none⟩ = some (.bool false) := (bC BK166.out 2).trans rfl
         have hcz83_3 : w16.cell? ⟨gb166, 3, none⟩ = some (.bool false) := (bC BK166.out 3).trans rfl
         have hfz83_0 := bF BK166.out 0
         have hfz83_1 := bF BK166.out 1
         have hfz83_2 := bF BK166.out 2
         have hfz83_3 := bF BK166.out 3
         go_wp2
         go_meet
         case rel => exact ⟨_, (decide ((((R6 ((R3 lA a1).f5) a2).f4).length : Int) > 0)), pv, H', ⟨by first | omega | exact Nat.le_refl _⟩, ⟨bt⟩, ⟨bt⟩, ⟨bt⟩, ⟨bel⟩⟩
       ·rw [if_neg c72] at H
        have c72b0 : (((R6 ((R3 lA a1).f5) a2).f3).toList == ([] : List UInt8)) = false := beq_eq_false_iff_ne.mpr c72
        have c72b1 : (((R6 ((R3 lA a1).f5) a2).f3).toList != ([] : List UInt8)) = true := bne_iff_ne.mpr c72
        have H' := Ae.mk H
        clear H
        have hnb84 := NB161_158.out
        have hnc84 := NB158_161.out
        have hnb85 := NB161_166.out
        have hnc85 := NB166_161.out
        have hcz86_0 : w16.cell? ⟨gb161, 0, none⟩ = some (.int .i64 ((R6 ((R3 lA a1).f5) a2).f0)) := (bC BK161.out 0).trans rfl
        have hcz86_1 : w16.cell? ⟨gb161, 1, none⟩ = some (.int .i64 ((R6 ((R3 lA a1).f5) a2).f1)) := (bC BK161.out 1).trans rfl
        have hcz86_2 : w16.cell? ⟨gb161, 2, none⟩ = some (.int .i64 ((R6 ((R3 lA a1).f5) a2).f2)) := (bC BK161.out 2).trans rfl
        have hcz86_3 : w16.cell? ⟨gb161, 3, none⟩ = some (.string ((R6 ((R3 lA a1).f5) a2).f3)) := (bC BK161.out 3).trans rfl
        have hcz86_4 : w16.cell? ⟨gb161, 4, none⟩ = some (.slice A160_4 ((R6 ((R3 lA a1).f5) a2).f4).length c160_4) := (bC BK161.out 4).trans rfl
        have hfz86_0 := bF BK161.out 0
        have hfz86_1 := bF BK161.out 1
        have hfz86_2 := bF BK161.out 2
        have hfz86_3 := bF BK161.out 3
        have hfz86_4 := bF BK161.out 4
        have hnb87 := NB166_158.out
        have hnc87 := NB158_166.out
        have hcz88_0 : w16.cell? ⟨gb166, 0, none⟩ = some (.bool false) := (bC BK166.out 0).trans rfl
        have hcz88_1 : w16.cell? ⟨gb166, 1, none⟩ = some (.bool false) := (bC BK166.out 1).trans rfl
        have hcz88_2 : w16.cell? ⟨gb166, 2, none⟩ = some (.bool false) := (bC BK166.out 2).trans rfl
        have hcz88_3 : w16.cell? ⟨gb166, 3, none⟩ = some (.bool false) := (bC BK166.out 3).trans rfl
        have hfz88_0 := bF BK166.out 0
        have hfz88_1 := bF BK166.out 1
        have hfz88_2 := bF BK166.out 2
        have hfz88_3 := bF BK166.out 3
        go_wp2
        go_meet
        case rel => exact ⟨_, (true), pv, H', ⟨by first | omega | exact Nat.le_refl _⟩, ⟨bt⟩, ⟨bt⟩, ⟨bt⟩, ⟨bel⟩⟩
     ·rw [if_neg c59] at H
      have c59b0 : (((R6 ((R3 lA a1).f5) a2).f2) == 0) = false := beq_eq_false_iff_ne.mpr c59
      have c59b1 : (((R6 ((R3 lA a1).f5) a2).f2) != 0) = true := bne_iff_ne.mpr c59
      have H' := Ae.mk H
      clear H
      have hnb89 := NB161_158.out
      have hnc89 := NB158_161.out
      have hnb90 := NB161_166.out
      have hnc90 := NB166_161.out
      have hcz91_0 : w16.cell? ⟨gb161, 0, none⟩ = some (.int .i64 ((R6 ((R3 lA a1).f5) a2).f0)) := (bC BK161.out 0).trans rfl
      have hcz91_1 : w16.cell? ⟨gb161, 1, none⟩ = some (.int .i64 ((R6 ((R3 lA a1).f5) a2).f1)) := (bC BK161.out 1).trans rfl
      have hcz91_2 : w16.cell? ⟨gb161, 2, none⟩ = some (.int .i64 ((R6 ((R3 lA a1).f5) a2).f2)) := (bC BK161.out 2).trans rfl
      have hcz91_3 : w16.cell? ⟨gb161, 3, none⟩ = some (.string ((R6 ((R3 lA a1).f5) a2).f3)) := (bC BK161.out 3).trans rfl
      have hcz91_4 : w16.cell? ⟨gb161, 4, none⟩ = some (.slice A160_4 ((R6 ((R3 lA a1).f5) a2).f4).length c160_4) := (bC BK161.out 4).trans rfl
      have hfz91_0 := bF BK161.out 0
      have hfz91_1 := bF BK161.out 1
      have hfz91_2 := bF BK161.out 2
      have hfz91_3 := bF BK161.out 3
      have hfz91_4 := bF BK161.out 4
      have hnb92 := NB166_158.out
      have hnc92 := NB158_166.out
      have hcz93_0 : w16.cell? ⟨gb166, 0, none⟩ = some (.bool false) := (bC BK166.out 0).trans rfl
      have hcz93_1 : w16.cell? ⟨gb166, 1, none⟩ = some (.bool false) := (bC BK166.out 1).trans rfl
      have hcz93_2 : w16.cell? ⟨gb166, 2, none⟩ = some (.bool false) := (bC BK166.out 2).trans rfl
      have hcz93_3 : w16.cell? ⟨gb166, 3, none⟩ = some (.bool false) := (bC BK166.out 3).trans rfl
      have hfz93_0 := bF BK166.out 0
      have hfz93_1 := bF BK166.out 1
      have hfz93_2 := bF BK166.out 2
      have hfz93_3 := bF BK166.out 3
      go_wp2
      go_meet
      case rel => exact ⟨_, (true), pv, H', ⟨by first | omega | exact Nat.le_refl _⟩, ⟨bt⟩, ⟨bt⟩, ⟨bt⟩, ⟨bel⟩⟩
   ·replace c28 := Bool.eq_false_iff.mpr c28
    subst c28
    have H1 : (if ((R6 ((R3 lA a1).f5) a2).f1) = 0 then (if t163 = true then (if t164 = true then (if t165 = true then (mY.j0 k a1 a2 false lA lB ((R6 ((R3 lA a1).f5) a2).f0) ((R6 ((R3 lA a1).f5) a2).f1) ((R6 ((R3 lA a1).f5) a2).f2) ((R6 ((R3 lA a1).f5) a2).f3) ((R6 ((R3 lA a1).f5) a2).f4)) else (mY.j0 k a1 a2 (decide ((((R6 ((R3 lA a1).f5) a2).f4).length : Int) > 0)) lA lB ((R6 ((R3 lA a1).f5) a2).f0) ((R6 ((R3 lA a1).f5) a2).f1) ((R6 ((R3 lA a1).f5) a2).f2) ((R6 ((R3 lA a1).f5) a2).f3) ((R6 ((R3 lA a1).f5) a2).f4))) else (if ((R6 ((R3 lA a1).f5) a2).f3).toList = ([] : List UInt8) then (if t165 = true then (mY.j0 k a1 a2 false lA lB ((R6 ((R3 lA a1).f5) a2).f0) ((R6 ((R3 lA a1).f5) a2).f1) ((R6 ((R3 lA a1).f5) a2).f2) ((R6 ((R3 lA a1).f5) a2).f3) ((R6 ((R3 lA a1).f5) a2).f4)) else (mY.j0 k a1 a2 (decide ((((R6 ((R3 lA a1).f5) a2).f4).length : Int) > 0)) lA lB ((R6 ((R3 lA a1).f5) a2).f0) ((R6 ((R3 lA a1).f5) a2).f1) ((R6 ((R3 lA a1).f5) a2).f2) ((R6 ((R3 lA a1).f5) a2).f3) ((R6 ((R3 lA a1).f5) a2).f4))) else (mY.j0 k a1 a2 true lA lB ((R6 ((R3 lA a1).f5) a2).f0) ((R6 ((R3 lA a1).f5) a2).f1) ((R6 ((R3 lA a1).f5) a2).f2) ((R6 ((R3 lA a1).f5) a2).f3) ((R6 ((R3 lA a1).f5) a2).f4)))) else (if ((R6 ((R3 lA a1).f5) a2).f2) = 0 then (if t164 = true then (if t165 = true then (mY.j0 k a1 a2 false lA lB ((R6 ((R3 lA a1).f5) a2).f0) ((R6 ((R3 lA a1).f5) a2).f1) ((R6 ((R3 lA a1).f5) a2).f2) ((R6 ((R3 lA a1).f5) a2).f3) ((R6 ((R3 lA a1).f5) a2).f4)) else (mY.j0 k a1 a2 (decide ((((R6 ((R3 lA a1).f5) a2).f4).length : Int) > 0)) lA lB ((R6 ((R3 lA a1).f5) a2).f0) ((R6 ((R3 lA a1).f5) a2).f1) ((R6 ((R3 lA a1).f5) a2).f2) ((R6 ((R3 lA a1).f5) a2).f3) ((R6 ((R3 lA a1).f5) a2).f4))) else (if ((R6 ((R3 lA a1).f5) a2).f3).toList = ([] : List UInt8) then (if t165 = true then (mY.j0 k a1 a2 false lA lB ((R6 ((R3 lA a1).f5) a2).f0) ((R6 ((R3 lA a1).f5) a2).f1) ((R6 ((R3 lA a1).f5) a2).f2) ((R6 ((R3 lA a1).f5) a2).f3) ((R6 ((R3 lA a1).f5) a2).f4)) else (mY.j0 k a1 a2 (decide ((((R6 ((R3 lA a1).f5) a2).f4).length : Int) > 0)) lA lB ((R6 ((R3 lA a1).f5) a2).f0) ((R6 ((R3 lA a1).f5) a2).f1) ((R6 ((R3 lA a1).f5) a2).f2) ((R6 ((R3 lA a1).f5) a2).f3) ((R6 ((R3 lA a1).f5) a2).f4))) else (mY.j0 k a1 a2 true lA lB ((R6 ((R3 lA a1).f5) a2).f0) ((R6 ((R3 lA a1).f5) a2).f1) ((R6 ((R3 lA a1).f5) a2).f2) ((R6 ((R3 lA a1).f5) a2).f3) ((R6 ((R3 lA a1).f5) a2).f4)))) else (mY.j0 k a1 a2 true lA lB ((R6 ((R3 lA a1).f5) a2).f0) ((R6 ((R3 lA a1).f5) a2).f1) ((R6 ((R3 lA a1).f5) a2).f2) ((R6 ((R3 lA a1).f5) a2).f3) ((R6 ((R3 lA a1).f5) a2).f4)))) else (mY.j0 k a1 a2 true lA lB ((R6 ((R3 lA a1).f5) a2).f0) ((R6 ((R3 lA a1).f5) a2).f1) ((R6 ((R3 lA a1).f5) a2).f2) ((R6 ((R3 lA a1).f5) a2).f3) ((R6 ((R3 lA a1).f5) a2).f4))) = some r := by rw [if_neg (show ¬ (false = true) by decide)] at H; exact H
    clear H
    have H := H1
    clear H1
    by_cases c94 : ((R6 ((R3 lA a1).f5) a2).f1) = 0
    ·rw [if_pos c94] at H
     have c94b0 : (((R6 ((R3 lA a1).f5) a2).f1) == 0) = true := beq_iff_eq.mpr c94
     have c94b1 : (((R6 ((R3 lA a1).f5) a2).f1) != 0) = false := bne_eq_false_iff_eq.mpr c94
     clear c94
     by_cases c95 : t163 = true
     ·subst c95
      have H1 : (if t164 = true then (if t165 = true then (mY.j0 k a1 a2 false lA lB ((R6 ((R3 lA a1).f5) a2).f0) ((R6 ((R3 lA a1).f5) a2).f1) ((R6 ((R3 lA a1).f5) a2).f2) ((R6 ((R3 lA a1).f5) a2).f3) ((R6 ((R3 lA a1).f5) a2).f4)) else (mY.j0 k a1 a2 (decide ((((R6 ((R3 lA a1).f5) a2).f4).length : Int) > 0)) lA lB ((R6 ((R3 lA a1).f5) a2).f0) ((R6 ((R3 lA a1).f5) a2).f1) ((R6 ((R3 lA a1).f5) a2).f2) ((R6 ((R3 lA a1).f5) a2).f3) ((R6 ((R3 lA a1).f5) a2).f4))) else (if ((R6 ((R3 lA a1).f5) a2).f3).toList = ([] : List UInt8) then (if t165 = true then (mY.j0 k a1 a2 false lA lB ((R6 ((R3 lA a1).f5) a2).f0) ((R6 ((R3 lA a1).f5) a2).f1) ((R6 ((R3 lA a1).f5) a2).f2) ((R6 ((R3 lA a1).f5) a2).f3) ((R6 ((R3 lA a1).f5) a2).f4)) else (mY.j0 k a1 a2 (decide ((((R6 ((R3 lA a1).f5) a2).f4).length : Int) > 0)) lA lB ((R6 ((R3 lA a1).f5) a2).f0) ((R6 ((R3 lA a1).f5) a2).f1) ((R6 ((R3 lA a1).f5) a2).f2) ((R6 ((R3 lA a1).f5) a2).f3) ((R6 ((R3 lA a1).f5) a2).f4))) else (mY.j0 k a1 a2 true lA lB ((R6 ((R3 lA a1).f5) a2).f0) ((R6 ((R3 lA a1).f5) a2).f1) ((R6 ((R3 lA a1).f5) a2).f2) ((R6 ((R3 lA a1).f5) a2).f3) ((R6 ((R3 lA a1).f5) a2).f4)))) = some r := by rw [if_pos rfl] at H; exact H
      clear H
      have H := H1
      clear H1
      by_cases c96 : t164 = true
      ·subst c96
       have H1 : (if t165 = true then (mY.j0 k a1 a2 false lA lB ((R6 ((R3 lA a1).f5) a2).f0) ((R6 ((R3 lA a1).f5) a2).f1) ((R6 ((R3 lA a1).f5) a2).f2) ((R6 ((R3 lA a1).f5) a2).f3) ((R6 ((R3 lA a1).f5) a2).f4)) else (mY.j0 k a1 a2 (decide ((((R6 ((R3 lA a1).f5) a2).f4).length : Int) > 0)) lA lB ((R6 ((R3 lA a1).f5) a2).f0) ((R6 ((R3 lA a1).f5) a2).f1) ((R6 ((R3 lA a1).f5) a2).f2) ((R6 ((R3 lA a1).f5) a2).f3) ((R6 ((R3 lA a1).f5) a2).f4))) = some r := by rw [if_pos rfl] at H; exact H
       clear H
       have H := H1
       clear H1
       by_cases c97 : t165 = true
       ·subst c97
        have H1 : (mY.j0 k a1 a2 false lA lB ((R6 ((R3 lA a1).f5) a2).f0) ((R6 ((R3 lA a1).f5) a2).f1) ((R6 ((R3 lA a1).f5) a2).f2) ((R6 ((R3 lA a1).f5) a2).f3) ((R6 ((R3 lA a1).f5) a2).f4)) = some r := by rw [if_pos rfl] at H; exact H
        clear H
        have H := H1
        clear H1
        have H' := Ae.mk H
        clear H
        have hnb98 := NB161_158.out
        have hnc98 := NB158_161.out
        have hnb99 := NB161_166.out
        have hnc99 := NB166_161.out
        have hcz100_0 : w16.cell? ⟨gb161, 0, none⟩ = some (.int .i64 ((R6 ((R3 lA a1).f5) a2).f0)) := (bC BK161.out 0).trans rfl
        have hcz100_1 : w16.cell? ⟨gb161, 1, none⟩ = some (.int .i64 ((R6 ((R3 lA a1).f5) a2).f1)) := (bC BK161.out 1).trans rfl
        have hcz100_2 : w16.cell? ⟨gb161, 2, none⟩ = some (.int .i64 ((R6 ((R3 lA a1).f5) a2).f2)) := (bC BK161.out 2).trans rfl
        have hcz100_3 : w16.cell? ⟨gb161, 3, none⟩ = some (.string ((R6 ((R3 lA a1).f5) a2).f3)) := (bC BK161.out 3).trans rfl
        have hcz100_4 : w16.cell? ⟨gb161, 4, none⟩ = some (.slice A160_4 ((R6 ((R3 lA a1).f5) a2).f4).length c160_4) := (bC BK161.out 4).trans rfl
        have hfz100_0 := bF BK161.out 0
        have hfz100_1 := bF BK161.out 1
        have hfz100_2 := bF BK161.out 2
        have hfz100_3 := bF BK161.out 3
        have hfz100_4 := bF BK161.out 4
        have hnb101 := NB166_158.out
        have hnc101 := NB158_166.out
        have hcz102_0 : w16.cell? ⟨gb166, 0, none⟩ = some (.bool false) := (bC BK166.out 0).trans rfl
        have hcz102_1 : w16.cell? ⟨gb166, 1, none⟩ = some (.bool false) := (bC BK166.out 1).trans rfl
        have hcz102_2 : w16.cell? ⟨gb166, 2, none⟩ = some (.bool false) := (bC BK166.out 2).trans rfl
        have hcz102_3 : w16.cell? ⟨gb166, 3, none⟩ = some (.bool false) := (bC BK166.out 3).trans rfl
        have hfz102_0 := bF BK166.out 0
        have hfz102_1 := bF BK166.out 1
        have hfz102_2 := bF BK166.out 2
        have hfz102_3 := bF BK166.out 3
        go_wp2
        go_meet
        case rel => exact ⟨_, (false), pv, H', ⟨by first | omega | exact Nat.le_refl _⟩, ⟨bt⟩, ⟨bt⟩, ⟨bt⟩, ⟨bel⟩⟩
       ·replace c97 := Bool.eq_false_iff.mpr c97
        subst c97
        have H1 : (mY.j0 k a1 a2 (decide ((((R6 ((R3 lA a1).f5) a2).f4).length : Int) > 0)) lA lB ((R6 ((R3 lA a1).f5) a2).f0) ((R6 ((R3 lA a1).f5) a2).f1) ((R6 ((R3 lA a1).f5) a2).f2) ((R6 ((R3 lA a1).f5) a2).f3) ((R6 ((R3 lA a1).f5) a2).f4)) = some r := by rw [if_neg (show ¬ (false = true) by decide)] at H; exact H
        clear H
        have H := H1
        clear H1
        have H' := Ae.mk H
        clear H
        have hnb103 := NB161_158.out
        have hnc103 := NB158_161.out
        have hnb104 := NB161_166.out
        have hnc104 := NB166_161.out
        have hcz105_0 : w16.cell? ⟨gb161, 0, none⟩ = some (.int .i64 ((R6 ((R3 lA a1).f5) a2).f0)) := (bC BK161.out 0).trans rfl
        have hcz105_1 : w16.cell? ⟨gb161, 1, none⟩ = some (.int .i64 ((R6 ((R3 lA a1).f5) a2).f1)) := (bC BK161.out 1).trans rfl
        have hcz105_2 : w16.cell? ⟨gb161, 2, none⟩ = some (.int .i64 ((R6 ((R3 lA a1).f5) a2).f2)) := (bC BK161.out 2).trans rfl
        have hcz105_3 : w16.cell? ⟨gb161, 3, none⟩ = some (.string ((R6 ((R3 lA a1).f5) a2).f3)) := (bC BK161.out 3).trans rfl
        have hcz105_4 : w16.cell? ⟨gb161, 4, none⟩ = some (.slice A160_4 ((R6 ((R3 lA a1).f5) a2).f4).length c160_4) := (bC BK161.out 4).trans rfl
        have hfz105_0 := bF BK161.out 0
        have hfz105_1 := bF BK161.out 1
        have hfz105_2 := bF BK161.out 2
        have hfz105_3 := bF BK161.out 3
        have hfz105_4 := bF BK161.out 4
        have hnb106 := NB166_158.out
        have hnc106 := NB158_166.out
        have hcz107_0 : w16.cell? ⟨gb166, 0, none⟩ = some (.bool false) := (bC BK166.out 0).trans rfl
        have hcz107_1 : w16.cell? ⟨gb166, 1, none⟩ = some (.bool false) := (bC BK166.out 1).trans rfl
        have hcz107_2 : w16.cell? ⟨gb166, 2, none⟩ = some (.bool false) := (bC BK166.out 2).trans rfl
        have hcz107_3 : w16.cell? ⟨gb166, 3, none⟩ = some (.bool false) := (bC BK166.out 3).trans rfl
        have hfz107_0 := bF BK166.out 0
        have hfz107_1 := bF BK166.out 1
        have hfz107_2 := bF BK166.out 2
        have hfz107_3 := bF BK166.out 3
        go_wp2
        go_meet
        case rel => exact ⟨_, (decide ((((R6 ((R3 lA a1).f5) a2).f4).length : Int) > 0)), pv, H', ⟨by first | omega | exact Nat.le_refl _⟩, ⟨bt⟩, ⟨bt⟩, ⟨bt⟩, ⟨bel⟩⟩
      ·replace c96 := Bool.eq_false_iff.mpr c96
       subst c96
       have H1 : (if ((R6 ((R3 lA a1).f5) a2).f3).toList = ([] : List UInt8) then (if t165 = true then (mY.j0 k a1 a2 false lA lB ((R6 ((R3 lA a1).f5) a2).f0) ((R6 ((R3 lA a1).f5) a2).f1) ((R6 ((R3 lA a1).f5) a2).f2) ((R6 ((R3 lA a1).f5) a2).f3) ((R6 ((R3 lA a1).f5) a2).f4)) else (mY.j0 k a1 a2 (decide ((((R6 ((R3 lA a1).f5) a2).f4).length : Int) > 0)) lA lB ((R6 ((R3 lA a1).f5) a2).f0) ((R6 ((R3 lA a1).f5) a2).f1) ((R6 ((R3 lA a1).f5) a2).f2) ((R6 ((R3 lA a1).f5) a2).f3) ((R6 ((R3 lA a1).f5) a2).f4))) else (mY.j0 k a1 a2 true lA lB ((R6 ((R3 lA a1).f5) a2).f0) ((R6 ((R3 lA a1).f5) a2).f1) ((R6 ((R3 lA a1).f5) a2).f2) ((R6 ((R3 lA a1).f5) a2).f3) ((R6 ((R3 lA a1).f5) a2).f4))) = some r := by rw [if_neg (show ¬ (false = true) by decide)] at H; exact H
       clear H
       have H := H1
       clear H1
       by_cases c108 : ((R6 ((R3 lA a1).f5) a2).f3).toList = ([] : List UInt8)
       ·rw [if_pos c108] at H
        have c108b0 : (((R6 ((R3 lA a1).f5) a2).f3).toList == ([] : List UInt8)) = true := beq_iff_eq.mpr c108
        have c108b1 : (((R6 ((R3 lA a1).f5) a2).f3).toList != ([] : List UInt8)) = false := bne_eq_false_iff_eq.mpr c108
        clear c108
        by_cases c109 : t165 = true
        ·subst c109
         have H1 : (mY.j0 k a1 a2 false lA lB ((R6 ((R3 lA a1).f5) a2).f0) ((R6 ((R3 lA a1).f5) a2).f1) ((R6 ((R3 lA a1).f5) a2).f2) ((R6 ((R3 lA a1).f5) a2).f3) ((R6 ((R3 lA a1).f5) a2).f4)) = some r := by rw [if_pos rfl] at H; exact H
         clear H
         have H := H1
         clear H1
         have H' := Ae.mk H
         clear H
         have hnb110 := NB161_158.out
         have hnc110 := NB158_161.out
         have hnb111 := NB161_166.out
         have hnc111 := NB166_161.out
         have hcz112_0 : w16.cell? ⟨gb161, 0, none⟩ = some (.int .i64 ((R6 ((R3 lA a1).f5) a2).f0)) := (bC BK161.out 0).trans rfl
         have hcz112_1 : w16.cell? ⟨gb161, 1, none⟩ = some (.int .i64 ((R6 ((R3 lA a1).f5) a2).f1)) := (bC BK161.out 1).trans rfl
         have hcz112_2 : w16.cell? ⟨gb161, 2, none⟩ = some (.int .i64 ((R6 ((R3 lA a1).f5) a2).f2)) := (bC BK161.out 2).trans rfl
         have hcz112_3 : w16.cell? ⟨gb161, 3, none⟩ = some (.string ((R6 ((R3 lA a1).f5) a2).f3)) := (bC BK161.out 3).trans rfl
         have hcz112_4 : w16.cell? ⟨gb161, 4, none⟩ = some (.slice A160_4 ((R6 ((R3 lA a1).f5) a2).f4).length c160_4) := (bC BK161.out 4).trans rfl
         have hfz112_0 := bF BK161.out 0
         have hfz112_1 := bF BK161.out 1
         have hfz112_2 := bF BK161.out 2
         have hfz112_3 := bF BK161.out 3
         have hfz112_4 := bF BK161.out 4
         have hnb113 := NB166_158.out
         have hnc113 := NB158_166.out
         have hcz114_0 : w16.cell? ⟨gb166, 0, none⟩ = some (.bool false) := (bC BK166.out 0).trans rfl
         have hcz114_1 : w16.cell? ⟨gb166, 1, none⟩ = some (.bool false) := (bC BK166.out 1).trans rfl
         have hcz114_2 : w16.cell? ⟨gb166, 2, none⟩ = some (.bool false) := (bC BK166.out 2).trans rfl
         have hcz114_3 : w16.cell? ⟨gb166, 3, none⟩ = some (.bool false) := (bC BK166.out 3).trans rfl
         have hfz114_0 := bF BK166.out 0
         have hfz114_1 := bF BK166.out 1
         have hfz114_2 := bF BK166.out 2
         have hfz114_3 := bF BK166.out 3
         go_wp2
         go_meet
         case rel => exact ⟨_, (false), pv, H', ⟨by first | omega | exact Nat.le_refl _⟩, ⟨bt⟩, ⟨bt⟩, ⟨bt⟩, ⟨bel⟩⟩
        ·replace c109 := Bool.eq_false_iff.mpr c109
         subst c109
         have H1 : (mY.j0 k a1 a2 (decide ((((R6 ((R3 lA a1).f5) a2).f4).length : Int) > 0)) lA lB ((R6 ((R3 lA a1).f5) a2).f0) ((R6 ((R3 lA a1).f5) a2).f1) ((R6 ((R3 lA a1).f5) a2).f2) ((R6 ((R3 lA a1).f5) a2).f3) ((R6 ((R3 lA a1).f5) a2).f4)) = some r := by rw [if_neg (show ¬ (false = true) by decide)] at H; exact H
         clear H
         have H := H1
         clear H1
         have H' := Ae.mk H
         clear H
         have hnb115 := NB161_158.out
         have hnc115 := NB158_161.out
         have hnb116 := NB161_166.out
         have hnc116 := NB166_161.out
         have hcz117_0 : w16.cell? ⟨gb161, 0, none⟩ = some (.int .i64 ((R6 ((R3 lA a1).f5) a2).f0)) := (bC BK161.out 0).trans rfl
         have hcz117_1 : w16.cell? ⟨gb161, 1, none⟩ = some (.int .i64 ((R6 ((R3 lA a1).f5) a2).f1)) := (bC BK161.out 1).trans rfl
         have hcz117_2 : w16.cell? ⟨gb161, 2, none⟩ = some (.int .i64 ((R6 ((R3 lA a1).f5) a2).f2)) := (bC BK161.out 2).trans rfl
         have hcz117_3 : w16.cell? ⟨gb161, 3, none⟩ = some (.string ((R6 ((R3 lA a1).f5) a2).f3)) := (bC BK161.out 3).trans rfl
         have hcz117_4 : w16.cell? ⟨gb161, 4, none⟩ = some (.slice A160_4 ((R6 ((R3 lA a1).f5) a2).f4).length c160_4) := (bC BK161.out 4).trans rfl
         have hfz117_0 := bF BK161.out 0
         have hfz117_1 := bF BK161.out 1
         have hfz117_2 := bF BK161.out 2
         have hfz117_3 := bF BK161.out 3
         have hfz117_4 := bF BK161.out 4
         have hnb118 := NB166_158.out
         have hnc118 := NB158_166.out
         have hcz119_0 : w16.cell? ⟨gb166, 0, none⟩ = some (.bool false) := (bC BK166.out 0).trans rfl
         have hcz119_1 : w16.cell? ⟨gb166, 1, none⟩ = some (.bool false) := (bC BK166.out 1).trans rfl
         have hcz119_2 : w16.cell? ⟨gb166, 2, none⟩ = some (.bool false) := (bC BK166.out 2).trans rfl
         have hcz119_3 : w16.cell? ⟨gb166, 3, none⟩ = some (.bool false) := (bC BK166.out 3).trans rfl
         have hfz119_0 := bF BK166.out 0
         have hfz119_1 := bF BK166.out 1
         have hfz119_2 := bF BK166.out 2
         have hfz119_3 := bF BK166.out 3
         go_wp2
         go_meet
         case rel => exact ⟨_, (decide ((((R6 ((R3 lA a1).f5) a2).f4).length : Int) > 0)), pv, H', ⟨by first | omega | exact Nat.le_refl _⟩, ⟨bt⟩, ⟨bt⟩, ⟨bt⟩, ⟨bel⟩⟩
       ·rw [if_neg c108] at H
        have c108b0 : (((R6 ((R3 lA a1).f5) a2).f3).toList == ([] : List UInt8)) = false := beq_eq_false_iff_ne.mpr c108
        have c108b1 : (((R6 ((R3 lA a1).f5) a2).f3).toList != ([] : List UInt8)) = true := bne_iff_ne.mpr c108
        have H' := Ae.mk H
        clear H
        have hnb120 := NB161_158.out
        have hnc120 := NB158_161.out
        have hnb121 := NB161_166.out
        have hnc121 := NB166_161.out
        have hcz122_0 : w16.cell? ⟨gb161, 0, none⟩ = some (.int .i64 ((R6 ((R3 lA a1).f5) a2).f0)) := (bC BK161.out 0).trans rfl
        have hcz122_1 : w16.cell? ⟨gb161, 1, none⟩ = some (.int .i64 ((R6 ((R3 lA a1).f5) a2).f1)) := (bC BK161.out 1).trans rfl
        have hcz122_2 : w16.cell? ⟨gb161, 2, none⟩ = some (.int .i64 ((R6 ((R3 lA a1).f5) a2).f2)) := (bC BK161.out 2).trans rfl
        have hcz122_3 : w16.cell? ⟨gb161, 3, none⟩ = some (.string ((R6 ((R3 lA a1).f5) a2).f3)) := (bC BK161.out 3).trans rfl
        have hcz122_4 : w16.cell? ⟨gb161, 4, none⟩ = some (.slice A160_4 ((R6 ((R3 lA a1).f5) a2).f4).length c160_4) := (bC BK161.out 4).trans rfl
        have hfz122_0 := bF BK161.out 0
        have hfz122_1 := bF BK161.out 1
        have hfz122_2 := bF BK161.out 2
        have hfz122_3 := bF BK161.out 3
        have hfz122_4 := bF BK161.out 4
        have hnb123 := NB166_158.out
        have hnc123 := NB158_166.out
        have hcz124_0 : w16.cell? ⟨gb166, 0, none⟩ = some (.bool false) := (bC BK166.out 0).trans rfl
        have hcz124_1 : w16.cell? ⟨gb166, 1, none⟩ = some (.bool false) := (bC BK166.out 1).trans rfl
        have hcz124_2 : w16.cell? ⟨gb166, 2, none⟩ = some (.bool false) := (bC BK166.out 2).trans rfl
        have hcz124_3 : w16.cell? ⟨gb166, 3, none⟩ = some (.bool false) := (bC BK166.out 3).trans rfl
        have hfz124_0 := bF BK166.out 0
        have hfz124_1 := bF BK166.out 1
        have hfz124_2 := bF BK166.out 2
        have hfz124_3 := bF BK166.out 3
        go_wp2
        go_meet
        case rel => exact ⟨_, (true), pv, H', ⟨by first | omega | exact Nat.le_refl _⟩, ⟨bt⟩, ⟨bt⟩, ⟨bt⟩, ⟨bel⟩⟩
     ·replace c95 := Bool.eq_false_iff.mpr c95
      subst c95
      have H1 : (if ((R6 ((R3 lA a1).f5) a2).f2) = 0 then (if t164 = true then (if t165 = true then (mY.j0 k a1 a2 false lA lB ((R6 ((R3 lA a1).f5) a2).f0) ((R6 ((R3 lA a1).f5) a2).f1) ((R6 ((R3 lA a1).f5) a2).f2) ((R6 ((R3 lA a1).f5) a2).f3) ((R6 ((R3 lA a1).f5) a2).f4)) else (mY.j0 k a1 a2 (decide ((((R6 ((R3 lA a1).f5) a2).f4).length : Int) > 0)) lA lB ((R6 ((R3 lA a1).f5) a2).f0) ((R6 ((R3 lA a1).f5) a2).f1) ((R6 ((R3 lA a1).f5) a2).f2) ((R6 ((R3 lA a1).f5) a2).f3) ((R6 ((R3 lA a1).f5) a2).f4))) else (if ((R6 ((R3 lA a1).f5) a2).f3).toList = ([] : List UInt8) then (if t165 = true then (mY.j0 k a1 a2 false lA lB ((R6 ((R3 lA a1).f5) a2).f0) ((R6 ((R3 lA a1).f5) a2).f1) ((R6 ((R3 lA a1).f5) a2).f2) ((R6 ((R3 lA a1).f5) a2).f3) ((R6 ((R3 lA a1).f5) a2).f4)) else (mY.j0 k a1 a2 (decide ((((R6 ((R3 lA a1).f5) a2).f4).length : Int) > 0)) lA lB ((R6 ((R3 lA a1).f5) a2).f0) ((R6 ((R3 lA a1).f5) a2).f1) ((R6 ((R3 lA a1).f5) a2).f2) ((R6 ((R3 lA a1).f5) a2).f3) ((R6 ((R3 lA a1).f5) a2).f4))) else (mY.j0 k a1 a2 true lA lB ((R6 ((R3 lA a1).f5) a2).f0) ((R6 ((R3 lA a1).f5) a2).f1) ((R6 ((R3 lA a1).f5) a2).f2) ((R6 ((R3 lA a1).f5) a2).f3) ((R6 ((R3 lA a1).f5) a2).f4)))) else (mY.j0 k a1 a2 true lA lB ((R6 ((R3 lA a1).f5) a2).f0) ((R6 ((R3 lA a1).f5) a2).f1) ((R6 ((R3 lA a1).f5) a2).f2) ((R6 ((R3 lA a1).f5) a2).f3) ((R6 ((R3 lA a1).f5) a2).f4))) = some r := by rw [if_neg (show ¬ (false = true) by decide)] at H; exact H
      clear H
      have H := H1
      clear H1
      by_cases c125 : ((R6 ((R3 lA a1).f5) a2).f2) = 0
      ·rw [if_pos c125] at H
       have c125b0 : (((R6 ((R3 lA a1).f5) a2).f2) == 0) = true := beq_iff_eq.mpr c125
       have c125b1 : (((R6 ((R3 lA a1).f5) a2).f2) != 0) = false := bne_eq_false_iff_eq.mpr c125
       clear c125
       by_cases c126 : t164 = true
       ·subst c126
        have H1 : (if t165 = true then (mY.j0 k a1 a2 false lA lB ((R6 ((R3 lA a1).f5) a2).f0) ((R6 ((R3 lA a1).f5) a2).f1) ((R6 ((R3 lA a1).f5) a2).f2) ((R6 ((R3 lA a1).f5) a2).f3) ((R6 ((R3 lA a1).f5) a2).f4)) else (mY.j0 k a1 a2 (decide ((((R6 ((R3 lA a1).f5) a2).f4).length : Int) > 0)) lA lB ((R6 ((R3 lA a1).f5) a2).f0) ((R6 ((R3 lA a1).f5) a2).f1) ((R6 ((R3 lA a1).f5) a2).f2) ((R6 ((R3 lA a1).f5) a2).f3) ((R6 ((R3 lA a1).f5) a2).f4))) = some r := by rw [if_pos rfl] at H; exact H
        clear H
        have H := H1
        clear H1
        by_cases c127 : t165 = true
        ·subst c127
         have H1 : (mY.j0 k a1 a2 false lA lB ((R6 ((R3 lA a1).f5) a2).f0) ((R6 ((R3 lA a1).f5) a2).f1) ((R6 ((R3 lA a1).f5) a2).f2) ((R6 ((R3 lA a1).f5) a2).f3) ((R6 ((R3 lA a1).f5) a2).f4)) = some r := by rw [if_pos rfl] at H; exact H
         clear H
         have H := H1
         clear H1
         have H' := Ae.mk H
         clear H
         have hnb128 := NB161_158.out
         have hnc128 := NB158_161.out
         have hnb129 := NB161_166.out
         have hnc129 := NB166_161.out
         have hcz130_0 : w16.cell? ⟨gb161, 0, none⟩ = some (.int .i64 ((R6 ((R3 lA a1).f5) a2).f0)) := (bC BK161.out 0).trans rfl
         have hcz130_1 : w16.cell? ⟨gb161, 1, none⟩ = some (.int .i64 ((R6 ((R3 lA a1).f5) a2).f1)) := (bC BK161.out 1).trans rfl
         have hcz130_2 : w16.cell? ⟨gb161, 2, none⟩ = some (.int .i64 ((R6 ((R3 lA a1).f5) a2).f2)) := (bC BK161.out 2).trans rfl
         have hcz130_3 : w16.cell? ⟨gb161, 3, none⟩ = some (.string ((R6 ((R3 lA a1).f5) a2).f3)) := (bC BK161.out 3).trans rfl
         have hcz130_4 : w16.cell? ⟨gb161, 4, none⟩ = some (.slice A160_4 ((R6 ((R3 lA a1).f5) a2).f4).length c160_4) := (bC BK161.out 4).trans rfl
         have hfz130_0 := bF BK161.out 0
         have hfz130_1 := bF BK161.out 1
         have hfz130_2 := bF BK161.out 2
         have hfz130_3 := bF BK161.out 3
         have hfz130_4 := bF BK161.out 4
         have hnb131 := NB166_158.out
         have hnc131 := NB158_166.out
         have hcz132_0 : w16.cell? ⟨gb166, 0, none⟩ = some (.bool false) := (bC BK166.out 0).trans rfl
         have hcz132_1 : w16.cell? ⟨gb166, 1, none⟩ = some (.bool false) := (bC BK166.out 1).trans rfl
         have hcz132_2 : w16.cell? ⟨gb166, 2, none⟩ = some (.bool false) := (bC BK166.out 2).trans rfl
         have hcz132_3 : w16.cell? ⟨gb166, 3, none⟩ = some (.bool false) := (bC BK166.out 3).trans rfl
         have hfz132_0 := bF BK166.out 0
         have hfz132_1 := bF BK166.out 1
         have hfz132_2 := bF BK166.out 2
         have hfz132_3 := bF BK166.out 3
         go_wp2
         go_meet
         case rel => exact ⟨_, (false), pv, H', ⟨by first | omega | exact Nat.le_refl _⟩, ⟨bt⟩, ⟨bt⟩, ⟨bt⟩, ⟨bel⟩⟩
        ·replace c127 := Bool.eq_false_iff.mpr c127
         subst c127
         have H1 : (mY.j0 k a1 a2 (decide ((((R6 ((R3 lA a1).f5) a2).f4).length : Int) > 0)) lA lB ((R6 ((R3 lA a1).f5) a2).f0) ((R6 ((R3 lA a1).f5) a2).f1) ((R6 ((R3 lA a1).f5) a2).f2) ((R6 ((R3 lA a1).f5) a2).f3) ((R6 ((R3 lA a1).f5) a2).f4)) = some r := by rw [if_neg (show ¬ (false = true) by decide)] at H; exact H
         clear H
         have H := H1
         clear H1
         have H' := Ae.mk H
         clear H
         have hnb133 := NB161_158.out
         have hnc133 := NB158_161.out
         have hnb134 := NB161_166.out
         have hnc134 := NB166_161.out
         have hcz135_0 : w16.cell? ⟨gb161, 0, none⟩ = some (.int .i64 ((R6 ((R3 lA a1).f5) a2).f0)) := (bC BK161.out 0).trans rfl
         have hcz135_1 : w16.cell? ⟨gb161, 1, none⟩ = some (.int .i64 ((R6 ((R3 lA a1).f5) a2).f1)) := (bC BK161.out 1).trans rfl
         have hcz135_2 : w16.cell? ⟨gb161, 2, none⟩ = some (.int .i64 ((R6 ((R3 lA a1).f5) a2).f2)) := (bC BK161.out 2).trans rfl
         have hcz135_3 : w16.cell? ⟨gb161, 3, none⟩ = some (.string ((R6 ((R3 lA a1).f5) a2).f3)) := (bC BK161.out 3).trans rfl
         have hcz135_4 : w16.cell? ⟨gb161, 4, none⟩ = some (.slice A160_4 ((R6 ((R3 lA a1).f5) a2).f4).length c160_4) := (bC BK161.out 4).trans rfl
         have hfz135_0 := bF BK161.out 0
         have hfz135_1 := bF BK161.out 1
         have hfz135_2 := bF BK161.out 2
         have hfz135_3 := bF BK161.out 3
         have hfz135_4 := bF BK161.out 4
         have hnb136 := NB166_158.out
         have hnc136 := NB158_166.out
         have hcz137_0 : w16.cell? ⟨gb166, 0, none⟩ = some (.bool false) := (bC BK166.out 0).trans rfl
         have hcz137_1 : w16.cell? ⟨gb166, 1, none⟩ = some (.bool false) := (bC BK166.out 1).trans rfl
         have hcz137_2 : w16.cell? ⟨gb166, 2, none⟩ = some (.bool false) := (bC BK166.out 2).trans rfl
         have hcz137_3 : w16.cell? ⟨gb166, 3, none⟩ = some (.bool false) := (bC BK166.out 3).trans rfl
         have hfz137_0 := bF BK166.out 0
         have hfz137_1 := bF BK166.out 1
         have hfz137_2 := bF BK166.out 2
         have hfz137_3 := bF BK166.out 3
         go_wp2
         go_meet
         case rel => exact ⟨_, (decide ((((R6 ((R3 lA a1).f5) a2).f4).length : Int) > 0)), pv, H', ⟨by first | omega | exact Nat.le_refl _⟩, ⟨bt⟩, ⟨bt⟩, ⟨bt⟩, ⟨bel⟩⟩
       ·replace c126 := Bool.eq_false_iff.mpr c126
        subst c126
        have H1 : (if ((R6 ((R3 lA a1).f5) a2).f3).toList = ([] : List UInt8) then (if t165 = true then (mY.j0 k a1 a2 false lA lB ((R6 ((R3 lA a1).f5) a2).f0) ((R6 ((R3 lA a1).f5) a2).f1) ((R6 ((R3 lA a1).f5) a2).f2) ((R6 ((R3 lA a1).f5) a2).f3) ((R6 ((R3 lA a1).f5) a2).f4)) else (mY.j0 k a1 a2 (decide ((((R6 ((R3 lA a1).f5) a2).f4).length : Int) > 0)) lA lB ((R6 ((R3 lA a1).f5) a2).f0) ((R6 ((R3 lA a1).f5) a2).f1) ((R6 ((R3 lA a1).f5) a2).f2) ((R6 ((R3 lA a1).f5) a2).f3) ((R6 ((R3 lA a1).f5) a2).f4))) else (mY.j0 k a1 a2 true lA lB ((R6 ((R3 lA a1).f5) a2).f0) ((R6 ((R3 lA a1).f5) a2).f1) ((R6 ((R3 lA a1).f5) a2).f2) ((R6 ((R3 lA a1).f5) a2).f3) ((R6 ((R3 lA a1).f5) a2).f4))) = some r := by rw [if_neg (show ¬ (false = true) by decide)] at H; exact H
        clear H
        have H := H1
        clear H1
        by_cases c138 : ((R6 ((R3 lA a1).f5) a2).f3).toList = ([] : List UInt8)
        ·rw [if_pos c138] at H
         have c138b0 : (((R6 ((R3 lA a1).f5) a2).f3).toList == ([] : List UInt8)) = true := beq_iff_eq.mpr c138
         have c138b1 : (((R6 ((R3 lA a1).f5) a2).f3).toList != ([] : List UInt8)) = false := bne_eq_false_iff_eq.mpr c138
         clear c138
         by_cases c139 : t165 = true
         ·subst c139
          have H1 : (mY.j0 k a1 a2 false lA lB ((R6 ((R3 lA a1).f5) a2).f0) ((R6 ((R3 lA a1).f5) a2).f1) ((R6 ((R3 lA a1).f5) a2).f2) ((R6 ((R3 lA a1).f5) a2).f3) ((R6 ((R3 lA a1).f5) a2).f4)) = some r := by rw [if_pos rfl] at H; exact H
          clear H
          have H := H1
          clear H1
          have H' := Ae.mk H
          clear H
          have hnb140 := NB161_158.out
          have hnc140 := NB158_161.out
          have hnb141 := NB161_166.out
          have hnc141 := NB166_161.out
          have hcz142_0 : w16.cell? ⟨gb161, 0, none⟩ = some (.int .i64 ((R6 ((R3 lA a1).f5) a2).f0)) := (bC BK161.out 0).trans rfl
          have hcz142_1 : w16.cell? ⟨gb161, 1, none⟩ = some (.int .i64 ((R6 ((R3 lA a1).f5) a2).f1)) := (bC BK161.out 1).trans rfl
          have hcz142_2 : w16.cell? ⟨gb161, 2, none⟩ = some (.int .i64 ((R6 ((R3 lA a1).f5) a2).f2)) := (bC BK161.out 2).trans rfl
          have hcz142_3 : w16.cell? ⟨gb161, 3, none⟩ = some (.string ((R6 ((R3 lA a1).f5) a2).f3)) := (bC BK161.out 3).trans rfl
          have hcz142_4 : w16.cell? ⟨gb161, 4, none⟩ = some (.slice A160_4 ((R6 ((R3 lA a1).f5) a2).f4).length c160_4) := (bC BK161.out 4).trans rfl
          have hfz142_0 := bF BK161.out 0
          have hfz142_1 := bF BK161.out 1
          have hfz142_2 := bF BK161.out 2
          have hfz142_3 := bF BK161.out 3
          have hfz142_4 := bF BK161.out 4
          have hnb143 := NB166_158.out
          have hnc143 := NB158_166.out
          have hcz144_0 : w16.cell? ⟨gb166, 0, none⟩ = some (.bool false) := (bC BK166.out 0).trans rfl
          have hcz144_1 : w16.cell? ⟨gb166, 1, none⟩ = some (.bool false) := (bC BK166.out 1).trans rfl
          have hcz144_2 : w16.cell? ⟨gb166, 2, none⟩ = some (.bool false) := (bC BK166.out 2).trans rfl
          have hcz144_3 : w16.cell? ⟨gb166, 3, none⟩ = some (.bool false) := (bC BK166.out 3).trans rfl
          have hfz144_0 := bF BK166.out 0
          have hfz144_1 := bF BK166.out 1
          have hfz144_2 := bF BK166.out 2
          have hfz144_3 := bF BK166.out 3
          go_wp2
          go_meet
          case rel => exact ⟨_, (false), pv, H', ⟨by first | omega | exact Nat.le_refl _⟩, ⟨bt⟩, ⟨bt⟩, ⟨bt⟩, ⟨bel⟩⟩
         ·replace c139 := Bool.eq_false_iff.mpr c139
          subst c139
          have H1 : (mY.j0 k a1 a2 (decide ((((R6 ((R3 lA a1).f5) a2).f4).length : Int) > 0)) lA lB ((R6 ((R3 lA a1).f5) a2).f0) ((R6 ((R3 lA a1).f5) a2).f1) ((R6 ((R3 lA a1).f5) a2).f2) ((R6 ((R3 lA a1).f5) a2).f3) ((R6 ((R3 lA a1).f5) a2).f4)) = some r := by rw [if_neg (show ¬ (false = true) by decide)] at H; exact H
          clear H
          have H := H1
          clear H1
          have H' := Ae.mk H
          clear H
          have hnb145 := NB161_158.out
          have hnc145 := NB158_161.out
          have hnb146 := NB161_166.out
          have hnc146 := NB166_161.out
          have hcz147_0 : w16.cell? ⟨gb161, 0, none⟩ = some (.int .i64 ((R6 ((R3 lA a1).f5) a2).f0)) := (bC BK161.out 0).trans rfl
          have hcz147_1 : w16.cell? ⟨gb161, 1, none⟩ = some (.int .i64 ((R6 ((R3 lA a1).f5) a2).f1)) := (bC BK161.out 1).trans rfl
          have hcz147_2 : w16.cell? ⟨gb161, 2, none⟩ = some (.int .i64 ((R6 ((R3 lA a1).f5) a2).f2)) := (bC BK161.out 2).trans rfl
          have hcz147_3 : w16.cell? ⟨gb161, 3, none⟩ = some (.string ((R6 ((R3 lA a1).f5) a2).f3)) := (bC BK161.out 3).trans rfl
          have hcz147_4 : w16.cell? ⟨gb161, 4, none⟩ = some (.slice A160_4 ((R6 ((R3 lA a1).f5) a2).f4).length c160_4) := (bC BK161.out 4).trans rfl
          have hfz147_0 := bF BK161.out 0
          have hfz147_1 := bF BK161.out 1
          have hfz147_2 := bF BK161.out 2
          have hfz147_3 := bF BK161.out 3
          have hfz147_4 := bF BK161.out 4
          have hnb148 := NB166_158.out
          have hnc148 := NB158_166.out
          have hcz149_0 : w16.cell? ⟨gb166, 0, none⟩ = some (.bool false) := (bC BK166.out 0).trans rfl
          have hcz149_1 : w16.cell? ⟨gb166, 1, none⟩ = some (.bool false) := (bC BK166.out 1).trans rfl
          have hcz149_2 : w16.cell? ⟨gb166, 2, none⟩ = some (.bool false) := (bC BK166.out 2).trans rfl
          have hcz149_3 : w16.cell? ⟨gb166, 3, none⟩ = some (.bool false) := (bC BK166.out 3).trans rfl
          have hfz149_0 := bF BK166.out 0
          have hfz149_1 := bF BK166.out 1
          have hfz149_2 := bF BK166.out 2
          have hfz149_3 := bF BK166.out 3
          go_wp2
          go_meet
          case rel => exact ⟨_, (decide ((((R6 ((R3 lA a1).f5) a2).f4).length : Int) > 0)), pv, H', ⟨by first | omega | exact Nat.le_refl _⟩, ⟨bt⟩, ⟨bt⟩, ⟨bt⟩, ⟨bel⟩⟩
        ·rw [if_neg c138] at H
         have c138b0 : (((R6 ((R3 lA a1).f5) a2).f3).toList == ([] : List UInt8)) = false := beq_eq_false_iff_ne.mpr c138
         have c138b1 : (((R6 ((R3 lA a1).f5) a2).f3).toList != ([] : List UInt8)) = true := bne_iff_ne.mpr c138
         have H' := Ae.mk H
         clear H
         have hnb150 := NB161_158.out
         have hnc150 := NB158_161.out
         have hnb151 := NB161_166.out
         have hnc151 := NB166_161.out
         have hcz152_0 : w16.cell? ⟨gb161, 0, none⟩ = some (.int .i64 ((R6 ((R3 lA a1).f5) a2).f0)) := (bC BK161.out 0).trans rfl
         have hcz152_1 : w16.cell? ⟨gb161, 1, none⟩ = some (.int .i64 ((R6 ((R3 lA a1).f5) a2).f1)) := (bC BK161.out 1).trans rfl
         have hcz152_2 : w16.cell? ⟨gb161, 2, none⟩ = some (.int .i64 ((R6 ((R3 lA a1).f5) a2).f2)) := (bC BK161.out 2).trans rfl
         have hcz152_3 : w16.cell? ⟨gb161, 3, none⟩ = some (.string ((R6 ((R3 lA a1).f5) a2).f3)) := (bC BK161.out 3).trans rfl
         have hcz152_4 : w16.cell? ⟨gb161, 4, none⟩ = some (.slice A160_4 ((R6 ((R3 lA a1).f5) a2).f4).length c160_4) := (bC BK161.out 4).trans rfl
         have hfz152_0 := bF BK161.out 0
         have hfz152_1 := bF BK161.out 1
         have hfz152_2 := bF BK161.out 2
         have hfz152_3 := bF BK161.out 3
         have hfz152_4 := bF BK161.out 4
         have hnb153 := NB166_158.out
         have hnc153 := NB158_166.out
         have hcz154_0 : w16.cell? ⟨gb166, 0, none⟩ = some (.bool false) := (bC BK166.out 0).trans rfl
         have hcz154_1 : w16.cell? ⟨gb166, 1, none⟩ = some (.bool false) := (bC BK166.out 1).trans rfl
         have hcz154_2 : w16.cell? ⟨gb166, 2, none⟩ = some (.bool false) := (bC BK166.out 2).trans rfl
         have hcz154_3 : w16.cell? ⟨gb166, 3, none⟩ = some (.bool false) := (bC BK166.out 3).trans rfl
         have hfz154_0 := bF BK166.out 0
         have hfz154_1 := bF BK166.out 1
         have hfz154_2 := bF BK166.out 2
         have hfz154_3 := bF BK166.out 3
         go_wp2
         go_meet
         case rel => exact ⟨_, (true), pv, H', ⟨by first | omega | exact Nat.le_refl _⟩, ⟨bt⟩, ⟨bt⟩, ⟨bt⟩, ⟨bel⟩⟩
      ·rw [if_neg c125] at H
       have c125b0 : (((R6 ((R3 lA a1).f5) a2).f2) == 0) = false := beq_eq_false_iff_ne.mpr c125
       have c125b1 : (((R6 ((R3 lA a1).f5) a2).f2) != 0) = true := bne_iff_ne.mpr c125
       have H' := Ae.mk H
       clear H
       have hnb155 := NB161_158.out
       have hnc155 := NB158_161.out
       have hnb156 := NB161_166.out
       have hnc156 := NB166_161.out
       have hcz157_0 : w16.cell? ⟨gb161, 0, none⟩ = some (.int .i64 ((R6 ((R3 lA a1).f5) a2).f0)) := (bC BK161.out 0).trans rfl
       have hcz157_1 : w16.cell? ⟨gb161, 1, none⟩ = some (.int .i64 ((R6 ((R3 lA a1).f5) a2).f1)) := (bC BK161.out 1).trans rfl
       have hcz157_2 : w16.cell? ⟨gb161, 2, none⟩ = some (.int .i64 ((R6 ((R3 lA a1).f5) a2).f2)) := (bC BK161.out 2).trans rfl
       have hcz157_3 : w16.cell? ⟨gb161, 3, none⟩ = some (.string ((R6 ((R3 lA a1).f5) a2).f3)) := (bC BK161.out 3).trans rfl
       have hcz157_4 : w16.cell? ⟨gb161, 4, none⟩ = some (.slice A160_4 ((R6 ((R3 lA a1).f5) a2).f4).length c160_4) := (bC BK161.out 4).trans rfl
       have hfz157_0 := bF BK161.out 0
       have hfz157_1 := bF BK161.out 1
       have hfz157_2 := bF BK161.out 2
       have hfz157_3 := bF BK161.out 3
       have hfz157_4 := bF BK161.out 4
       have hnb158 := NB166_158.out
       have hnc158 := NB158_166.out
       have hcz159_0 : w16.cell? ⟨gb166, 0, none⟩ = some (.bool false) := (bC BK166.out 0).trans rfl
       have hcz159_1 : w16.cell? ⟨gb166, 1, none⟩ = some (.bool false) := (bC BK166.out 1).trans rfl
       have hcz159_2 : w16.cell? ⟨gb166, 2, none⟩ = some (.bool false) := (bC BK166.out 2).trans rfl
       have hcz159_3 : w16.cell? ⟨gb166, 3, none⟩ = some (.bool false) := (bC BK166.out 3).trans rfl
       have hfz159_0 := bF BK166.out 0
       have hfz159_1 := bF BK166.out 1
       have hfz159_2 := bF BK166.out 2
       have hfz159_3 := bF BK166.out 3
       go_wp2
       go_meet
       case rel => exact ⟨_, (true), pv, H', ⟨by first | omega | exact Nat.le_refl _⟩, ⟨bt⟩, ⟨bt⟩, ⟨bt⟩, ⟨bel⟩⟩
    ·rw [if_neg c94] at H
     have c94b0 : (((R6 ((R3 lA a1).f5) a2).f1) == 0) = false := beq_eq_false_iff_ne.mpr c94
     have c94b1 : (((R6 ((R3 lA a1).f5) a2).f1) != 0) = true := bne_iff_ne.mpr c94
     have H' := Ae.mk H
     clear H
     have hnb160 := NB161_158.out
     have hnc160 := NB158_161.out
     have hnb161 := NB161_166.out
     have hnc161 := NB166_161.out
     have hcz162_0 : w16.cell? ⟨gb161, 0, none⟩ = some (.int .i64 ((R6 ((R3 lA a1).f5) a2).f0)) := (bC BK161.out 0).trans rfl
     have hcz162_1 : w16.cell? ⟨gb161, 1, none⟩ = some (.int .i64 ((R6 ((R3 lA a1).f5) a2).f1)) := (bC BK161.out 1).trans rfl
     have hcz162_2 : w16.cell? ⟨gb161, 2, none⟩ = some (.int .i64 ((R6 ((R3 lA a1).f5) a2).f2)) := (bC BK161.out 2).trans rfl
     have hcz162_3 : w16.cell? ⟨gb161, 3, none⟩ = some (.string ((R6 ((R3 lA a1).f5) a2).f3)) := (bC BK161.out 3).trans rfl
     have hcz162_4 : w16.cell? ⟨gb161, 4, none⟩ = some (.slice A160_4 ((R6 ((R3 lA a1).f5) a2).f4).length c160_4) := (bC BK161.out 4).trans rfl
     have hfz162_0 := bF BK161.out 0
     have hfz162_1 := bF BK161.out 1
     have hfz162_2 := bF BK161.out 2
     have hfz162_3 := bF BK161.out 3
     have hfz162_4 := bF BK161.out 4
     have hnb163 := NB166_158.out
     have hnc163 := NB158_166.out
     have hcz164_0 : w16.cell? ⟨gb166, 0, none⟩ = some (.bool false) := (bC BK166.out 0).trans rfl
     have hcz164_1 : w16.cell? ⟨gb166, 1, none⟩ = some (.bool false) := (bC BK166.out 1).trans rfl
     have hcz164_2 : w16.cell? ⟨gb166, 2, none⟩ = some (.bool false) := (bC BK166.out 2).trans rfl
     have hcz164_3 : w16.cell? ⟨gb166, 3, none⟩ = some (.bool false) := (bC BK166.out 3).trans rfl
     have hfz164_0 := bF BK166.out 0
     have hfz164_1 := bF BK166.out 1
     have hfz164_2 := bF BK166.out 2
     have hfz164_3 := bF BK166.out 3
     go_wp2
     go_meet
     case rel => exact ⟨_, (true), pv, H', ⟨by first | omega | exact Nat.le_refl _⟩, ⟨bt⟩, ⟨bt⟩, ⟨bt⟩, ⟨bel⟩⟩
end Go.Proofs.YtlbcnacfgickcaaGreatDoor.A
