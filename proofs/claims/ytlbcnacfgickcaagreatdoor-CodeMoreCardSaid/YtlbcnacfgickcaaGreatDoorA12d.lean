/- code.may: behind the first test. -/
import Derived.Test.YtlbcnacfgickcaaGreatDoorShort
import Derived.Test.YtlbcnacfgickcaaGreatDoorA12b
namespace Go.Proofs.YtlbcnacfgickcaaGreatDoor.A
open Go.RowKit Go.Proofs.YtlbcnacfgickcaaGreatDoorW.PrintWords Go.Proofs.YtlbcnacfgickcaaGreatDoorW.PrintLast Go.Proofs.YtlbcnacfgickcaaGreatDoorW.PrintMore Go.Proofs.YtlbcnacfgickcaaGreatDoorW.Short
attribute [local go_sem] max2_int min2_int max_two min_two max_three min_three max_four min_four
set_option linter.unusedVariables false
set_option linter.unusedSimpArgs false
set_option maxHeartbeats 0 in
set_option maxRecDepth 100000 in
theorem mY.rest : mY.parts.2.1 := by
 unfold mY.parts
 dsimp -zeta only
 intro k c0_0 lA A0_1 c0_1 lB a1 a2 r w hT hu58 hu56 hu84 HC0_0 HR0_1 HC0_1 c4b0 c5b0 c6b0 c7b0 t162 t163 t164 t165 A8 HC9 Qq gb158 w10 GW158 GE158 hcz11_1 hfz11_0 hfz11_1 ad159 c159_5 HR0_0 hcz11_0 hx159_0 hx159_1 hx159_2 hx159_3 hx159_4 HC159_5 p159 q159 ad160 A160_4 c160_4 hx159_5 HR159_5 hx160_0 hx160_1 hx160_2 hx160_3 hx160_4 HR160_4 HC160_4 p160 q160 gb161 w12 GW161 GE161 NB158_161 NB161_158 hnb13 hnc13 hcz14_0 hcz14_1 hcz14_2 hcz14_3 hcz14_4 hfz14_0 hfz14_1 hfz14_2 hfz14_3 hfz14_4 w15 gb166 w16 BK158 BK161 HB BK166 GW166 GE166 NB158_166 NB166_158 NB161_166 NB166_161 hnb17 hnc17 hnb18 hnc18 hcz19_0 hcz19_1 hcz19_2 hcz19_3 hfz19_0 hfz19_1 hfz19_2 hfz19_3 Ka ha Kb hb_ wc u9 u10 u11 u12 u13 u14 u15 u16 u17 u18 u19 u20 u21 u22 u23 u24 u25 u26 u27 u28 u29 u30 u31 u32 u33 u34 u35 u36 u37 u38 u39 u40 u41 u42 u43 u44 u45 u46 u47 u48 u49 u50 u51 u52 u53 u54 u55 u56 u57 u58 u59 u60 u61 u62 u63 u64 u65 u66 u67 u68 u69 u70 u71 u74 u75 u76 u77 u78 u79 u80 u81 u82 u84 u85 u86 u87 u89 u90 u91 u92 u93 u94 u95 u96 u97 u98 u99 u101 u102 u103 u104 u105 u106 u107 u108 u109 u111 u112 u113 u114 u115 u116 u117 u118 u120 u121 u122 u123 u124 u125 u126 u127 u128 u129 u130 u131 u132 u133 u134 u135 u136 u137 u138 u139 u140 u142 u143 u144 u145 u146 u148 u149 u150 u151 u152 u153 u154 u155 u156 u157 u158 u159 u160 u161 u162 u164 u165 u166 u167 u168 u170 u171 u172 u173 u175 u176 u177 u178 u179 u181 u182 u183 u184 u185 hcut
 clear HC9
 obtain ⟨kq, x70_8, rfl, HA, HJ8, BK158, BK161, BK166, HB⟩ := hcut
 cases kq with
 | zero => exact absurd HA.out (by simp [mY.j0])
 | succ kj8 =>
  have H := HA.out
  clear HA
  simp only [mY.j0] at H
  by_cases c165 : x70_8 = true
  ·subst c165
   have H1 : (some false) = some r := by rw [if_pos rfl] at H; exact H
   clear H
   have H := H1
   clear H1
   obtain rfl := Option.some.inj H
   go_wp2
   go_ret
   exact fn
  ·replace c165 := Bool.eq_false_iff.mpr c165
   subst c165
   have H1 : (if ((R6 ((R3 lA a1).f5) a2).f0) = 1 then ((code_inside.f ((R6 ((R3 lA a1).f5) a2).f1) (wrap64 ((lB.length : Int) - 1))).bind fun t167 => (some t167)) else (if ((R6 ((R3 lA a1).f5) a2).f0) = 2 then ((code_inside.f ((R6 ((R3 lA a1).f5) a2).f1) 65535).bind fun t168 => (some t168)) else (if ((R6 ((R3 lA a1).f5) a2).f0) = 9 then (mY.j1 kj8 a1 a2 ((R6 ((R3 lA a1).f5) a2).f0) (((R6 ((R3 lA a1).f5) a2).f0) == 9) lA lB ((R6 ((R3 lA a1).f5) a2).f0) ((R6 ((R3 lA a1).f5) a2).f1) ((R6 ((R3 lA a1).f5) a2).f2) ((R6 ((R3 lA a1).f5) a2).f3) ((R6 ((R3 lA a1).f5) a2).f4)) else (if ((R6 ((R3 lA a1).f5) a2).f0) = 10 then (mY.j1 kj8 a1 a2 ((R6 ((R3 lA a1).f5) a2).f0) (((R6 ((R3 lA a1).f5) a2).f0) == 10) lA lB ((R6 ((R3 lA a1).f5) a2).f0) ((R6 ((R3 lA a1).f5) a2).f1) ((R6 ((R3 lA a1).f5) a2).f2) ((R6 ((R3 lA a1).f5) a2).f3) ((R6 ((R3 lA a1).f5) a2).f4)) else (if ((R6 ((R3 lA a1).f5) a2).f0) = 11 then (mY.j1 kj8 a1 a2 ((R6 ((R3 lA a1).f5) a2).f0) (((R6 ((R3 lA a1).f5) a2).f0) == 11) lA lB ((R6 ((R3 lA a1).f5) a2).f0) ((R6 ((R3 lA a1).f5) a2).f1) ((R6 ((R3 lA a1).f5) a2).f2) ((R6 ((R3 lA a1).f5) a2).f3) ((R6 ((R3 lA a1).f5) a2).f4)) else (if ((R6 ((R3 lA a1).f5) a2).f0) = 27 then (mY.j1 kj8 a1 a2 ((R6 ((R3 lA a1).f5) a2).f0) (((R6 ((R3 lA a1).f5) a2).f0) == 27) lA lB ((R6 ((R3 lA a1).f5) a2).f0) ((R6 ((R3 lA a1).f5) a2).f1) ((R6 ((R3 lA a1).f5) a2).f2) ((R6 ((R3 lA a1).f5) a2).f3) ((R6 ((R3 lA a1).f5) a2).f4)) else (if ((R6 ((R3 lA a1).f5) a2).f0) = 36 then (mY.j1 kj8 a1 a2 ((R6 ((R3 lA a1).f5) a2).f0) (((R6 ((R3 lA a1).f5) a2).f0) == 36) lA lB ((R6 ((R3 lA a1).f5) a2).f0) ((R6 ((R3 lA a1).f5) a2).f1) ((R6 ((R3 lA a1).f5) a2).f2) ((R6 ((R3 lA a1).f5) a2).f3) ((R6 ((R3 lA a1).f5) a2).f4)) else (mY.j1 kj8 a1 a2 ((R6 ((R3 lA a1).f5) a2).f0) (((R6 ((R3 lA a1).f5) a2).f0) == 37) lA lB ((R6 ((R3 lA a1).f5) a2).f0) ((R6 ((R3 lA a1).f5) a2).f1) ((R6 ((R3 lA a1).f5) a2).f2) ((R6 ((R3 lA a1).f5) a2).f3) ((R6 ((R3 lA a1).f5) a2).f4))))))))) = some r := by rw [if_neg (show ¬ (false = true) by decide)] at H; exact H
   clear H
   have H := H1
   clear H1
   by_cases c166 : ((R6 ((R3 lA a1).f5) a2).f0) = 1
   ·rw [if_pos c166] at H
    have c166b0 : (((R6 ((R3 lA a1).f5) a2).f0) == 1) = true := beq_iff_eq.mpr c166
    have c166b1 : (((R6 ((R3 lA a1).f5) a2).f0) != 1) = false := bne_eq_false_iff_eq.mpr c166
    clear c166
    replace H := Option.bind_eq_some_iff.mp H
    obtain ⟨t167, A1670, H⟩ := H
    replace H : (some t167) = some r := H
    have A167 := Ae.mk A1670
    clear A1670
    obtain rfl := Option.some.inj H
    have hnb168 := NB161_158.out
    have hnc168 := NB158_161.out
    have hnb169 := NB161_166.out
    have hnc169 := NB166_161.out
    have hcz170_0 : wc.cell? ⟨gb161, 0, none⟩ = some (.int .i64 ((R6 ((R3 lA a1).f5) a2).f0)) := (bC BK161.out 0).trans rfl
    have hcz170_1 : wc.cell? ⟨gb161, 1, none⟩ = some (.int .i64 ((R6 ((R3 lA a1).f5) a2).f1)) := (bC BK161.out 1).trans rfl
    have hcz170_2 : wc.cell? ⟨gb161, 2, none⟩ = some (.int .i64 ((R6 ((R3 lA a1).f5) a2).f2)) := (bC BK161.out 2).trans rfl
    have hcz170_3 : wc.cell? ⟨gb161, 3, none⟩ = some (.string ((R6 ((R3 lA a1).f5) a2).f3)) := (bC BK161.out 3).trans rfl
    have hcz170_4 : wc.cell? ⟨gb161, 4, none⟩ = some (.slice A160_4 ((R6 ((R3 lA a1).f5) a2).f4).length c160_4) := (bC BK161.out 4).trans rfl
    have hfz170_0 := bF BK161.out 0
    have hfz170_1 := bF BK161.out 1
    have hfz170_2 := bF BK161.out 2
    have hfz170_3 := bF BK161.out 3
    have hfz170_4 := bF BK161.out 4
    have hnb171 := NB158_166.out
    have hnc171 := NB166_158.out
    have hcz172_0 : wc.cell? ⟨gb158, 0, none⟩ = some (.slice (some ad159) lA.length c0_0) := (bC BK158.out 0).trans rfl
    have hcz172_1 : wc.cell? ⟨gb158, 1, none⟩ = some (.slice A0_1 lB.length c0_1) := (bC BK158.out 1).trans rfl
    have hfz172_0 := bF BK158.out 0
    have hfz172_1 := bF BK158.out 1
    go_wp2_with (first | ((with_reducible refine gate_callee (f := 25) rfl ?_); refine goesL_ (some 82) rfl rfl Tryz.func25 (by kernel_rfl) rfl #[.int .i64 ((R6 ((R3 lA a1).f5) a2).f1), .int .i64 (wrap64 ((lB.length : Int) - 1))] rfl am ?_; (with_reducible refine (code_inside.calls ((R6 ((R3 lA a1).f5) a2).f1) (wrap64 ((lB.length : Int) - 1)) t167 _ A167.out).mono ?_); rintro e w' ⟨rfl, ⟨nd, rfl⟩⟩; refine ⟨_, rfl, ?_⟩))
    go_ret
    exact fn
   ·rw [if_neg c166] at H
    have c166b0 : (((R6 ((R3 lA a1).f5) a2).f0) == 1) = false := beq_eq_false_iff_ne.mpr c166
    have c166b1 : (((R6 ((R3 lA a1).f5) a2).f0) != 1) = true := bne_iff_ne.mpr c166
    by_cases c173 : ((R6 ((R3 lA a1).f5) a2).f0) = 2
    ·rw [if_pos c173] at H
     have c173b0 : (((R6 ((R3 lA a1).f5) a2).f0) == 2) = true := beq_iff_eq.mpr c173
     have c173b1 : (((R6 ((R3 lA a1).f5) a2).f0) != 2) = false := bne_eq_false_iff_eq.mpr c173
     clear c173
     replace H := Option.bind_eq_some_iff.mp H
     obtain ⟨t168, A1740, H⟩ := H
     replace H : (some t168) = some r := H
     have A174 := Ae.mk A1740
     clear A1740
     obtain rfl := Option.some.inj H
     have hnb175 := NB161_158.out
     have hnc175 := NB158_161.out
     have hnb176 := NB161_166.out
     have hnc176 := NB166_161.out
     have hcz177_0 : wc.cell? ⟨gb161, 0, none⟩ = some (.int .i64 ((R6 ((R3 lA a1).f5) a2).f0)) := (bC BK161.out 0).trans rfl
     have hcz177_1 : wc.cell? ⟨gb161, 1, none⟩ = some (.int .i64 ((R6 ((R3 lA a1).f5) a2).f1)) := (bC BK161.out 1).trans rfl
     have hcz177_2 : wc.cell? ⟨gb161, 2, none⟩ = some (.int .i64 ((R6 ((R3 lA a1).f5) a2).f2)) := (bC BK161.out 2).trans rfl
     have hcz177_3 : wc.cell? ⟨gb161, 3, none⟩ = some (.string ((R6 ((R3 lA a1).f5) a2).f3)) := (bC BK161.out 3).trans rfl
     have hcz177_4 : wc.cell? ⟨gb161, 4, none⟩ = some (.slice A160_4 ((R6 ((R3 lA a1).f5) a2).f4).length c160_4) := (bC BK161.out 4).trans rfl
     have hfz177_0 := bF BK161.out 0
     have hfz177_1 := bF BK161.out 1
     have hfz177_2 := bF BK161.out 2
     have hfz177_3 := bF BK161.out 3
     have hfz177_4 := bF BK161.out 4
     go_wp2_with (first | ((with_reducible refine gate_callee (f := 25) rfl ?_); refine goesL_ (some 87) rfl rfl Tryz.func25 (by kernel_rfl) rfl #[.int .i64 ((R6 ((R3 lA a1).f5) a2).f1), .int .i64 65535] rfl am ?_; (with_reducible refine (code_inside.calls ((R6 ((R3 lA a1).f5) a2).f1) 65535 t168 _ A174.out).mono ?_); rintro e w' ⟨rfl, ⟨nd, rfl⟩⟩; refine ⟨_, rfl, ?_⟩))
     go_ret
     exact fn
    ·rw [if_neg c173] at H
     have c173b0 : (((R6 ((R3 lA a1).f5) a2).f0) == 2) = false := beq_eq_false_iff_ne.mpr c173
     have c173b1 : (((R6 ((R3 lA a1).f5) a2).f0) != 2) = true := bne_iff_ne.mpr c173
     have HC178 := Ae.mk H
     clear H
     have hnb179 := NB161_158.out
     have hnc179 := NB158_161.out
     have hnb180 := NB161_166.out
     have hnc180 := NB166_161.out
     have hcz181_0 : wc.cell? ⟨gb161, 0, none⟩ = some (.int .i64 ((R6 ((R3 lA a1).f5) a2).f0)) := (bC BK161.out 0).trans rfl
     have hcz181_1 : wc.cell? ⟨gb161, 1, none⟩ = some (.int .i64 ((R6 ((R3 lA a1).f5) a2).f1)) := (bC BK161.out 1).trans rfl
     have hcz181_2 : wc.cell? ⟨gb161, 2, none⟩ = some (.int .i64 ((R6 ((R3 lA a1).f5) a2).f2)) := (bC BK161.out 2).trans rfl
     have hcz181_3 : wc.cell? ⟨gb161, 3, none⟩ = some (.string ((R6 ((R3 lA a1).f5) a2).f3)) := (bC BK161.out 3).trans rfl
     have hcz181_4 : wc.cell? ⟨gb161, 4, none⟩ = some (.slice A160_4 ((R6 ((R3 lA a1).f5) a2).f4).length c160_4) := (bC BK161.out 4).trans rfl
     have hfz181_0 := bF BK161.out 0
     have hfz181_1 := bF BK161.out 1
     have hfz181_2 := bF BK161.out 2
     have hfz181_3 := bF BK161.out 3
     have hfz181_4 := bF BK161.out 4
     go_upto_if 88 with (fail)
     go_cut [88] (fun v88 wc => ∃ (kq : Nat) (x88_177 : Bool), v88 = .bool x88_177 ∧ Ae (mY.j1 kq a1 a2 ((R6 ((R3 lA a1).f5) a2).f0) x88_177 lA lB ((R6 ((R3 lA a1).f5) a2).f0) ((R6 ((R3 lA a1).f5) a2).f1) ((R6 ((R3 lA a1).f5) a2).f2) ((R6 ((R3 lA a1).f5) a2).f3) ((R6 ((R3 lA a1).f5) a2).f4) = some r) ∧ Ae (kq ≤ kj8) ∧ Ae (wc.heap[gb158]? = some (.cells #[(.slice (some ad159) lA.length c0_0), (.slice A0_1 lB.length c0_1)] 58 (0, 0))) ∧ Ae (wc.heap[gb161]? = some (.cells #[.int .i64 ((R6 ((R3 lA a1).f5) a2).f0), .int .i64 ((R6 ((R3 lA a1).f5) a2).f1), .int .i64 ((R6 ((R3 lA a1).f5) a2).f2), .string ((R6 ((R3 lA a1).f5) a2).f3), (.slice A160_4 ((R6 ((R3 lA a1).f5) a2).f4).length c160_4)] 56 (0, 0))) ∧ Ae (wc.heap[gb166]? = some (.cells #[.bool t162, .bool t163, .bool t164, .bool t165] 84 (0, 0))) ∧ Ae (Below w.heap.size w wc))
     case first =>
      have H := HC178.out
      clear HC178
      by_cases c182 : ((R6 ((R3 lA a1).f5) a2).f0) = 9
      ·rw [if_pos c182] at H
       have c182b0 : (((R6 ((R3 lA a1).f5) a2).f0) == 9) = true := beq_iff_eq.mpr c182
       have c182b1 : (((R6 ((R3 lA a1).f5) a2).f0) != 9) = false := bne_eq_false_iff_eq.mpr c182
       clear c182
       (first | rw [c182b0] | (simp only [i64_w, i32_w]; rw [c182b0]) | skip)
       have H' := Ae.mk H
       clear H
       go_wp2
       go_meet
       case rel => exact ⟨_, ((((R6 ((R3 lA a1).f5) a2).f0) == 9)), pv, H', ⟨by have := HJ8.out; first | omega | exact Nat.le_refl _⟩, ⟨bt⟩, ⟨bt⟩, ⟨bt⟩, ⟨bel⟩⟩
      ·rw [if_neg c182] at H
       have c182b0 : (((R6 ((R3 lA a1).f5) a2).f0) == 9) = false := beq_eq_false_iff_ne.mpr c182
       have c182b1 : (((R6 ((R3 lA a1).f5) a2).f0) != 9) = true := bne_iff_ne.mpr c182
       (first | rw [c182b0] | (simp only [i64_w, i32_w]; rw [c182b0]) | skip)
       by_cases c183 : ((R6 ((R3 lA a1).f5) a2).f0) = 10
       ·rw [if_pos c183] at H
        have c183b0 : (((R6 ((R3 lA a1).f5) a2).f0) == 10) = true := beq_iff_eq.mpr c183
        have c183b1 : (((R6 ((R3 lA a1).f5) a2).f0) != 10) = false := bne_eq_false_iff_eq.mpr c183
        clear c183
        have H' := Ae.mk H
        clear H
        go_wp2
        go_meet
        case rel => exact ⟨_, ((((R6 ((R3 lA a1).f5) a2).f0) == 10)), pv, H', ⟨by have := HJ8.out; first | omega | exact Nat.le_refl _⟩, ⟨bt⟩, ⟨bt⟩, ⟨bt⟩, ⟨bel⟩⟩
       ·rw [if_neg c183] at H
        have c183b0 : (((R6 ((R3 lA a1).f5) a2).f0) == 10) = false := beq_eq_false_iff_ne.mpr c183
        have c183b1 : (((R6 ((R3 lA a1).f5) a2).f0) != 10) = true := bne_iff_ne.mpr c183
        by_cases c184 : ((R6 ((R3 lA a1).f5) a2).f0) = 11
        ·rw [if_pos c184] at H
         have c184b0 : (((R6 ((R3 lA a1).f5) a2).f0) == 11) = true := beq_iff_eq.mpr c184
         have c184b1 : (((R6 ((R3 lA a1).f5) a2).f0) != 11) = false := bne_eq_false_iff_eq.mpr c184
         clear c184
         have H' := Ae.mk H
         clear H
         go_wp2
         go_meet
         case rel => exact ⟨_, ((((R6 ((R3 lA a1).f5) a2).f0) == 11)), pv, H', ⟨by have := HJ8.out; first | omega | exact Nat.le_refl _⟩, ⟨bt⟩, ⟨bt⟩, ⟨bt⟩, ⟨bel⟩⟩
        ·rw [if_neg c184] at H
         have c184b0 : (((R6 ((R3 lA a1).f5) a2).f0) == 11) = false := beq_eq_false_iff_ne.mpr c184
         have c184b1 : (((R6 ((R3 lA a1).f5) a2).f0) != 11) = true := bne_iff_ne.mpr c184
         by_cases c185 : ((R6 ((R3 lA a1).f5) a2).f0) = 27
         ·rw [if_pos c185] at H
          have c185b0 : (((R6 ((R3 lA a1).f5) a2).f0) == 27) = true := beq_iff_eq.mpr c185
          have c185b1 : (((R6 ((R3 lA a1).f5) a2).f0) != 27) = false := bne_eq_false_iff_eq.mpr c185
          clear c185
          have H' := Ae.mk H
          clear H
          go_wp2
          go_meet
          case rel => exact ⟨_, ((((R6 ((R3 lA a1).f5) a2).f0) == 27)), pv, H', ⟨by have := HJ8.out; first | omega | exact Nat.le_refl _⟩, ⟨bt⟩, ⟨bt⟩, ⟨bt⟩, ⟨bel⟩⟩
         ·rw [if_neg c185] at H
          have c185b0 : (((R6 ((R3 lA a1).f5) a2).f0) == 27) = false := beq_eq_false_iff_ne.mpr c185
          have c185b1 : (((R6 ((R3 lA a1).f5) a2).f0) != 27) = true := bne_iff_ne.mpr c185
          by_cases c186 : ((R6 ((R3 lA a1).f5) a2).f0) = 36
          ·rw [if_pos c186] at H
           have c186b0 : (((R6 ((R3 lA a1).f5) a2).f0) == 36) = true := beq_iff_eq.mpr c186
           have c186b1 : (((R6 ((R3 lA a1).f5) a2).f0) != 36) = false := bne_eq_false_iff_eq.mpr c186
           clear c186
           have H' := Ae.mk H
           clear H
           go_wp2
           go_meet
           case rel => exact ⟨_, ((((R6 ((R3 lA a1).f5) a2).f0) == 36)), pv, H', ⟨by have := HJ8.out; first | omega | exact Nat.le_refl _⟩, ⟨bt⟩, ⟨bt⟩, ⟨bt⟩, ⟨bel⟩⟩
          ·rw [if_neg c186] at H
           have c186b0 : (((R6 ((R3 lA a1).f5) a2).f0) == 36) = false := beq_eq_false_iff_ne.mpr c186
           have c186b1 : (((R6 ((R3 lA a1).f5) a2).f0) != 36) = true := bne_iff_ne.mpr c186
           have H' := Ae.mk H
           clear H
           go_wp2
           go_meet
           case rel => exact ⟨_, ((((R6 ((R3 lA a1).f5) a2).f0) == 37)), pv, H', ⟨by have := HJ8.out; first | omega | exact Nat.le_refl _⟩, ⟨bt⟩, ⟨bt⟩, ⟨bt⟩, ⟨bel⟩⟩
     case rest =>
      clear HC178
      obtain ⟨kq, x88_177, rfl, HA, HJ177, BK158, BK161, BK166, HB⟩ := hcut
      cases kq with
      | zero => exact absurd HA.out (by simp [mY.j1])
      | succ kj177 =>
       have H := HA.out
       clear HA
       simp only [mY.j1] at H
       by_cases c187 : x88_177 = true
       ·subst c187
        have H1 : ((code_program_variable.f kj177 lA lB a1 0 ((R6 ((R3 lA a1).f5) a2).f1)).bind fun t169 => (some t169)) = some r := by rw [if_pos rfl] at H; exact H
        clear H
        have H := H1
        clear H1
        replace H := Option.bind_eq_some_iff.mp H
        obtain ⟨t169, A1880, H⟩ := H
        replace H : (some t169) = some r := H
        have A188 := Ae.mk A1880
        clear A1880
        obtain rfl := Option.some.inj H
        have hnb189 := NB158_161.out
        have hnc189 := NB161_158.out
        have hnb190 := NB158_166.out
        have hnc190 := NB166_158.out
        have hcz191_0 : wc.cell? ⟨gb158, 0, none⟩ = some (.slice (some ad159) lA.length c0_0) := (bC BK158.out 0).trans rfl
        have hcz191_1 : wc.cell? ⟨gb158, 1, none⟩ = some (.slice A0_1 lB.length c0_1) := (bC BK158.out 1).trans rfl
        have hfz191_0 := bF BK158.out 0
        have hfz191_1 := bF BK158.out 1
        have hnb192 := NB161_166.out
        have hnc192 := NB166_161.out
        have hcz193_0 : wc.cell? ⟨gb161, 0, none⟩ = some (.int .i64 ((R6 ((R3 lA a1).f5) a2).f0)) := (bC BK161.out 0).trans rfl
        have hcz193_1 : wc.cell? ⟨gb161, 1, none⟩ = some (.int .i64 ((R6 ((R3 lA a1).f5) a2).f1)) := (bC BK161.out 1).trans rfl
        have hcz193_2 : wc.cell? ⟨gb161, 2, none⟩ = some (.int .i64 ((R6 ((R3 lA a1).f5) a2).f2)) := (bC BK161.out 2).trans rfl
        have hcz193_3 : wc.cell? ⟨gb161, 3, none⟩ = some (.string ((R6 ((R3 lA a1).f5) a2).f3)) := (bC BK161.out 3).trans rfl
        have hcz193_4 : wc.cell? ⟨gb161, 4, none⟩ = some (.slice A160_4 ((R6 ((R3 lA a1).f5) a2).f4).length c160_4) := (bC BK161.out 4).trans rfl
        have hfz193_0 := bF BK161.out 0
        have hfz193_1 := bF BK161.out 1
        have hfz193_2 := bF BK161.out 2
        have hfz193_3 := bF BK161.out 3
        have hfz193_4 := bF BK161.out 4
        go_wp2_with (first | ((with_reducible refine gate_callee (f := 43) rfl ?_); refine goesL_ (some 99) rfl rfl Tryz.func43 (by kernel_rfl) rfl #[.agg #[.slice (some ad159) lA.length c0_0, .slice A0_1 lB.length c0_1], .int .i64 a1, .int .i64 0, .int .i64 ((R6 ((R3 lA a1).f5) a2).f1)] rfl am ?_; (with_reducible refine (code_program_variable.calls kj177 _ _ lA _ _ lB a1 0 ((R6 ((R3 lA a1).f5) a2).f1) t169 _ ?side1 ?side2 ?side3 ?side4 A188.out).mono ?_); (case side1 => exact cb HR0_0); (case side2 => exact HC0_0.out); (case side3 => exact cb HR0_1); (case side4 => exact HC0_1.out); rintro e w194 ⟨rfl, hb⟩; refine ⟨_, rfl, ?_⟩; have n0_ := bb BK158 hb; have n1_ := bb BK161 hb; have n2_ := bb BK166 hb; have n3_ := bes hb; clear BK158; clear BK161; clear BK166; clear HB; have BK158 := n0_; have BK161 := n1_; have BK166 := n2_; have HB := n3_; clear n0_ n1_ n2_ n3_; (try clear hb); (try clear hb2); (try clear hk); (try clear hi)))
        go_ret
        exact fn
       ·replace c187 := Bool.eq_false_iff.mpr c187
        subst c187
        have H1 : (if ((R6 ((R3 lA a1).f5) a2).f0) = 8 then (mY.j2 kj177 a1 a2 ((R6 ((R3 lA a1).f5) a2).f0) (((R6 ((R3 lA a1).f5) a2).f0) == 8) lA lB ((R6 ((R3 lA a1).f5) a2).f0) ((R6 ((R3 lA a1).f5) a2).f1) ((R6 ((R3 lA a1).f5) a2).f2) ((R6 ((R3 lA a1).f5) a2).f3) ((R6 ((R3 lA a1).f5) a2).f4)) else (mY.j2 kj177 a1 a2 ((R6 ((R3 lA a1).f5) a2).f0) (((R6 ((R3 lA a1).f5) a2).f0) == 28) lA lB ((R6 ((R3 lA a1).f5) a2).f0) ((R6 ((R3 lA a1).f5) a2).f1) ((R6 ((R3 lA a1).f5) a2).f2) ((R6 ((R3 lA a1).f5) a2).f3) ((R6 ((R3 lA a1).f5) a2).f4))) = some r := by rw [if_neg (show ¬ (false = true) by decide)] at H; exact H
        clear H
        have H := H1
        clear H1
        have HC195 := Ae.mk H
        clear H
        go_upto_if 100 with (fail)
        go_cut [100] (fun v100 wc => ∃ (kq : Nat) (x100_194 : Bool), v100 = .bool x100_194 ∧ Ae (mY.j2 kq a1 a2 ((R6 ((R3 lA a1).f5) a2).f0) x100_194 lA lB ((R6 ((R3 lA a1).f5) a2).f0) ((R6 ((R3 lA a1).f5) a2).f1) ((R6 ((R3 lA a1).f5) a2).f2) ((R6 ((R3 lA a1).f5) a2).f3) ((R6 ((R3 lA a1).f5) a2).f4) = some r) ∧ Ae (kq ≤ kj177) ∧ Ae (wc.heap[gb158]? = some (.cells #[(.slice (some ad159) lA.length c0_0), (.slice A0_1 lB.length c0_1)] 58 (0, 0))) ∧ Ae (wc.heap[gb161]? = some (.cells #[.int .i64 ((R6 ((R3 lA a1).f5) a2).f0), .int .i64 ((R6 ((R3 lA a1).f5) a2).f1), .int .i64 ((R6 ((R3 lA a1).f5) a2).f2), .string ((R6 ((R3 lA a1).f5) a2).f3), (.slice A160_4 ((R6 ((R3 lA a1).f5) a2).f4).length c160_4)] 56 (0, 0))) ∧ Ae (wc.heap[gb166]? = some (.cells #[.bool t162, .bool t163, .bool t164, .bool t165] 84 (0, 0))) ∧ Ae (Below w.heap.size w wc))
        case first =>
         have H := HC195.out
         clear HC195
         by_cases c196 : ((R6 ((R3 lA a1).f5) a2).f0) = 8
         ·rw [if_pos c196] at H
          have c196b0 : (((R6 ((R3 lA a1).f5) a2).f0) == 8) = true := beq_iff_eq.mpr c196
          have c196b1 : (((R6 ((R3 lA a1).f5) a2).f0) != 8) = false := bne_eq_false_iff_eq.mpr c196
          clear c196
          (first | rw [c196b0] | (simp only [i64_w, i32_w]; rw [c196b0]) | skip)
          have H' := Ae.mk H
          clear H
          go_wp2
          go_meet
          case rel => exact ⟨_, ((((R6 ((R3 lA a1).f5) a2).f0) == 8)), pv, H', ⟨by have := HJ8.out; have := HJ177.out; first | omega | exact Nat.le_refl _⟩, ⟨bt⟩, ⟨bt⟩, ⟨bt⟩, ⟨bel⟩⟩
         ·rw [if_neg c196] at H
          have c196b0 : (((R6 ((R3 lA a1).f5) a2).f0) == 8) = false := beq_eq_false_iff_ne.mpr c196
          have c196b1 : (((R6 ((R3 lA a1).f5) a2).f0) != 8) = true := bne_iff_ne.mpr c196
          (first | rw [c196b0] | (simp only [i64_w, i32_w]; rw [c196b0]) | skip)
          have H' := Ae.mk H
          clear H
          go_wp2
          go_meet
          case rel => exact ⟨_, ((((R6 ((R3 lA a1).f5) a2).f0) == 28)), pv, H', ⟨by have := HJ8.out; have := HJ177.out; first | omega | exact Nat.le_refl _⟩, ⟨bt⟩, ⟨bt⟩, ⟨bt⟩, ⟨bel⟩⟩
        case rest =>
         clear HC195
         obtain ⟨kq, x100_194, rfl, HA, HJ194, BK158, BK161, BK166, HB⟩ := hcut
         cases kq with
         | zero => exact absurd HA.out (by simp [mY.j2])
         | succ kj194 =>
          have H := HA.out
          clear HA
          simp only [mY.j2] at H
          by_cases c197 : x100_194 = true
          ·subst c197
           have H1 : ((code_program_variable.f kj194 lA lB a1 ((R6 ((R3 lA a1).f5) a2).f1) ((R6 ((R3 lA a1).f5) a2).f2)).bind fun t170 => (some t170)) = some r := by rw [if_pos rfl] at H; exact H
           clear H
           have H := H1
           clear H1
           replace H := Option.bind_eq_some_iff.mp H
           obtain ⟨t170, A1980, H⟩ := H
           replace H : (some t170) = some r := H
           have A198 := Ae.mk A1980
           clear A1980
           obtain rfl := Option.some.inj H
           have hnb199 := NB158_161.out
           have hnc199 := NB161_158.out
           have hnb200 := NB158_166.out
           have hnc200 := NB166_158.out
           have hcz201_0 : wc.cell? ⟨gb158, 0, none⟩ = some (.slice (some ad159) lA.length c0_0) := (bC BK158.out 0).trans rfl
           have hcz201_1 : wc.cell? ⟨gb158, 1, none⟩ = some (.slice A0_1 lB.length c0_1) := (bC BK158.out 1).trans rfl
           have hfz201_0 := bF BK158.out 0
           have hfz201_1 := bF BK158.out 1
           have hnb202 := NB161_166.out
           have hnc202 := NB166_161.out
           have hcz203_0 : wc.cell? ⟨gb161, 0, none⟩ = some (.int .i64 ((R6 ((R3 lA a1).f5) a2).f0)) := (bC BK161.out 0).trans rfl
           have hcz203_1 : wc.cell? ⟨gb161, 1, none⟩ = some (.int .i64 ((R6 ((R3 lA a1).f5) a2).f1)) := (bC BK161.out 1).trans rfl
           have hcz203_2 : wc.cell? ⟨gb161, 2, none⟩ = some (.int .i64 ((R6 ((R3 lA a1).f5) a2).f2)) := (bC BK161.out 2).trans rfl
           have hcz203_3 : wc.cell? ⟨gb161, 3, none⟩ = some (.string ((R6 ((R3 lA a1).f5) a2).f3)) := (bC BK161.out 3).trans rfl
           have hcz203_4 : wc.cell? ⟨gb161, 4, none⟩ = some (.slice A160_4 ((R6 ((R3 lA a1).f5) a2).f4).length c160_4) := (bC BK161.out 4).trans rfl
           have hfz203_0 := bF BK161.out 0
           have hfz203_1 := bF BK161.out 1
           have hfz203_2 := bF BK161.out 2
           have hfz203_3 := bF BK161.out 3
           have hfz203_4 := bF BK161.out 4
           go_wp2_with (first | ((with_reducible refine gate_callee (f := 43) rfl ?_); refine goesL_ (some 109) rfl rfl Tryz.func43 (by kernel_rfl) rfl #[.agg #[.slice (some ad159) lA.length c0_0, .slice A0_1 lB.length c0_1], .int .i64 a1, .int .i64 ((R6 ((R3 lA a1).f5) a2).f1), .int .i64 ((R6 ((R3 lA a1).f5) a2).f2)] rfl am ?_; (with_reducible refine (code_program_variable.calls kj194 _ _ lA _ _ lB a1 ((R6 ((R3 lA a1).f5) a2).f1) ((R6 ((R3 lA a1).f5) a2).f2) t170 _ ?side1 ?side2 ?side3 ?side4 A198.out).mono ?_); (case side1 => exact cb HR0_0); (case side2 => exact HC0_0.out); (case side3 => exact cb HR0_1); (case side4 => exact HC0_1.out); rintro e w204 ⟨rfl, hb⟩; refine ⟨_, rfl, ?_⟩; have n0_ := bb BK158 hb; have n1_ := bb BK161 hb; have n2_ := bb BK166 hb; have n3_ := bes hb; clear BK158; clear BK161; clear BK166; clear HB; have BK158 := n0_; have BK161 := n1_; have BK166 := n2_; have HB := n3_; clear n0_ n1_ n2_ n3_; (try clear hb); (try clear hb2); (try clear hk); (try clear hi)))
           go_ret
           exact fn
          ·replace c197 := Bool.eq_false_iff.mpr c197
           subst c197
           have H1 : (if ((R6 ((R3 lA a1).f5) a2).f0) = 20 then ((code_program_param.f kj194 lA lB a1 ((R6 ((R3 lA a1).f5) a2).f1) ((R6 ((R3 lA a1).f5) a2).f2)).bind fun t171 => (some t171)) else (if ((R6 ((R3 lA a1).f5) a2).f0) = 15 then (mY.j3 kj194 a1 a2 ((R6 ((R3 lA a1).f5) a2).f0) (((R6 ((R3 lA a1).f5) a2).f0) == 15) lA lB ((R6 ((R3 lA a1).f5) a2).f0) ((R6 ((R3 lA a1).f5) a2).f1) ((R6 ((R3 lA a1).f5) a2).f2) ((R6 ((R3 lA a1).f5) a2).f3) ((R6 ((R3 lA a1).f5) a2).f4)) else (if ((R6 ((R3 lA a1).f5) a2).f0) = 17 then (mY.j3 kj194 a1 a2 ((R6 ((R3 lA a1).f5) a2).f0) (((R6 ((R3 lA a1).f5) a2).f0) == 17) lA lB ((R6 ((R3 lA a1).f5) a2).f0) ((R6 ((R3 lA a1).f5) a2).f1) ((R6 ((R3 lA a1).f5) a2).f2) ((R6 ((R3 lA a1).f5) a2).f3) ((R6 ((R3 lA a1).f5) a2).f4)) else (if ((R6 ((R3 lA a1).f5) a2).f0) = 18 then (mY.j3 kj194 a1 a2 ((R6 ((R3 lA a1).f5) a2).f0) (((R6 ((R3 lA a1).f5) a2).f0) == 18) lA lB ((R6 ((R3 lA a1).f5) a2).f0) ((R6 ((R3 lA a1).f5) a2).f1) ((R6 ((R3 lA a1).f5) a2).f2) ((R6 ((R3 lA a1).f5) a2).f3) ((R6 ((R3 lA a1).f5) a2).f4)) else (mY.j3 kj194 a1 a2 ((R6 ((R3 lA a1).f5) a2).f0) (((R6 ((R3 lA a1).f5) a2).f0) == 25) lA lB ((R6 ((R3 lA a1).f5) a2).f0) ((R6 ((R3 lA a1).f5) a2).f1) ((R6 ((R3 lA a1).f5) a2).f2) ((R6 ((R3 lA a1).f5) a2).f3) ((R6 ((R3 lA a1).f5) a2).f4)))))) = some r := by rw [if_neg (show ¬ (false = true) by decide)] at H; exact H
           clear H
           have H := H1
           clear H1
           by_cases c205 : ((R6 ((R3 lA a1).f5) a2).f0) = 20
           ·rw [if_pos c205] at H
            have c205b0 : (((R6 ((R3 lA a1).f5) a2).f0) == 20) = true := beq_iff_eq.mpr c205
            have c205b1 : (((R6 ((R3 lA a1).f5) a2).f0) != 20) = false := bne_eq_false_iff_eq.mpr c205
            clear c205
            replace H := Option.bind_eq_some_iff.mp H
            obtain ⟨t171, A2060, H⟩ := H
            replace H : (some t171) = some r := H
            have A206 := Ae.mk A2060
            clear A2060
            obtain rfl := Option.some.inj H
            have hnb207 := NB158_161.out
            have hnc207 := NB161_158.out
            have hnb208 := NB158_166.out
            have hnc208 := NB166_158.out
            have hcz209_0 : wc.cell? ⟨gb158, 0, none⟩ = some (.slice (some ad159) lA.length c0_0) := (bC BK158.out 0).trans rfl
            have hcz209_1 : wc.cell? ⟨gb158, 1, none⟩ = some (.slice A0_1 lB.length c0_1) := (bC BK158.out 1).trans rfl
            have hfz209_0 := bF BK158.out 0
            have hfz209_1 := bF BK158.out 1
            have hnb210 := NB161_166.out
            have hnc210 := NB166_161.out
            have hcz211_0 : wc.cell? ⟨gb161, 0, none⟩ = some (.int .i64 ((R6 ((R3 lA a1).f5) a2).f0)) := (bC BK161.out 0).trans rfl
            have hcz211_1 : wc.cell? ⟨gb161, 1, none⟩ = some (.int .i64 ((R6 ((R3 lA a1).f5) a2).f1)) := (bC BK161.out 1).trans rfl
            have hcz211_2 : wc.cell? ⟨gb161, 2, none⟩ = some (.int .i64 ((R6 ((R3 lA a1).f5) a2).f2)) := (bC BK161.out 2).trans rfl
            have hcz211_3 : wc.cell? ⟨gb161, 3, none⟩ = some (.string ((R6 ((R3 lA a1).f5) a2).f3)) := (bC BK161.out 3).trans rfl
            have hcz211_4 : wc.cell? ⟨gb161, 4, none⟩ = some (.slice A160_4 ((R6 ((R3 lA a1).f5) a2).f4).length c160_4) := (bC BK161.out 4).trans rfl
            have hfz211_0 := bF BK161.out 0
            have hfz211_1 := bF BK161.out 1
            have hfz211_2 := bF BK161.out 2
            have hfz211_3 := bF BK161.out 3
            have hfz211_4 := bF BK161.out 4
            go_wp2_with (first | ((with_reducible refine gate_callee (f := 44) rfl ?_); refine goesL_ (some 118) rfl rfl Tryz.func44 (by kernel_rfl) rfl #[.agg #[.slice (some ad159) lA.length c0_0, .slice A0_1 lB.length c0_1], .int .i64 a1, .int .i64 ((R6 ((R3 lA a1).f5) a2).f1), .int .i64 ((R6 ((R3 lA a1).f5) a2).f2)] rfl am ?_; (with_reducible refine (code_program_param.calls kj194 _ _ lA _ _ lB a1 ((R6 ((R3 lA a1).f5) a2).f1) ((R6 ((R3 lA a1).f5) a2).f2) t171 _ ?side1 ?side2 ?side3 ?side4 A206.out).mono ?_); (case side1 => exact cb HR0_0); (case side2 => exact HC0_0.out); (case side3 => exact cb HR0_1); (case side4 => exact HC0_1.out); rintro e w212 ⟨rfl, hb⟩; refine ⟨_, rfl, ?_⟩; have n0_ := bb BK158 hb; have n1_ := bb BK161 hb; have n2_ := bb BK166 hb; have n3_ := bes hb; clear BK158; clear BK161; clear BK166; clear HB; have BK158 := n0_; have BK161 := n1_; have BK166 := n2_; have HB := n3_; clear n0_ n1_ n2_ n3_; (try clear hb); (try clear hb2); (try clear hk); (try clear hi)))
            go_ret
            exact fn
           ·rw [if_neg c205] at H
            have c205b0 : (((R6 ((R3 lA a1).f5) a2).f0) == 20) = false := beq_eq_false_iff_ne.mpr c205
            have c205b1 : (((R6 ((R3 lA a1).f5) a2).f0) != 20) = true := bne_iff_ne.mpr c205
            have HC213 := Ae.mk H
            clear H
            go_upto_if 119 with (fail)
            go_cut [119] (fun v119 wc => ∃ (kq : Nat) (x119_212 : Bool), v119 = .bool x119_212 ∧ Ae (mY.j3 kq a1 a2 ((R6 ((R3 lA a1).f5) a2).f0) x119_212 lA lB ((R6 ((R3 lA a1).f5) a2).f0) ((R6 ((R3 lA a1).f5) a2).f1) ((R6 ((R3 lA a1).f5) a2).f2) ((R6 ((R3 lA a1).f5) a2).f3) ((R6 ((R3 lA a1).f5) a2).f4) = some r) ∧ Ae (kq ≤ kj194) ∧ Ae (wc.heap[gb158]? = some (.cells #[(.slice (some ad159) lA.length c0_0), (.slice A0_1 lB.length c0_1)] 58 (0, 0))) ∧ Ae (wc.heap[gb161]? = some (.cells #[.int .i64 ((R6 ((R3 lA a1).f5) a2).f0), .int .i64 ((R6 ((R3 lA a1).f5) a2).f1), .int .i64 ((R6 ((R3 lA a1).f5) a2).f2), .string ((R6 ((R3 lA a1).f5) a2).f3), (.slice A160_4 ((R6 ((R3 lA a1).f5) a2).f4).length c160_4)] 56 (0, 0))) ∧ Ae (wc.heap[gb166]? = some (.cells #[.bool t162, .bool t163, .bool t164, .bool t165] 84 (0, 0))) ∧ Ae (Below w.heap.size w wc))
            case first =>
             have H := HC213.out
             clear HC213
             by_cases c214 : ((R6 ((R3 lA a1).f5) a2).f0) = 15
             ·rw [if_pos c214] at H
              have c214b0 : (((R6 ((R3 lA a1).f5) a2).f0) == 15) = true := beq_iff_eq.mpr c214
              have c214b1 : (((R6 ((R3 lA a1).f5) a2).f0) != 15) = false := bne_eq_false_iff_eq.mpr c214
              clear c214
              (first | rw [c214b0] | (simp only [i64_w, i32_w]; rw [c214b0]) | skip)
              have H' := Ae.mk H
              clear H
              go_wp2
              go_meet
              case rel => exact ⟨_, ((((R6 ((R3 lA a1).f5) a2).f0) == 15)), pv, H', ⟨by have := HJ8.out; have := HJ177.out; have := HJ194.out; first | omega | exact Nat.le_refl _⟩, ⟨bt⟩, ⟨bt⟩, ⟨bt⟩, ⟨bel⟩⟩
             ·rw [if_neg c214] at H
              have c214b0 : (((R6 ((R3 lA a1).f5) a2).f0) == 15) = false := beq_eq_false_iff_ne.mpr c214
              have c214b1 : (((R6 ((R3 lA a1).f5) a2).f0) != 15) = true := bne_iff_ne.mpr c214
              (first | rw [c214b0] | (simp only [i64_w, i32_w]; rw [c214b0]) | skip)
              by_cases c215 : ((R6 ((R3 lA a1).f5) a2).f0) = 17
              ·rw [if_pos c215] at H
               have c215b0 : (((R6 ((R3 lA a1).f5) a2).f0) == 17) = true := beq_iff_eq.mpr c215
               have c215b1 : (((R6 ((R3 lA a1).f5) a2).f0) != 17) = false := bne_eq_false_iff_eq.mpr c215
               clear c215
               have H' := Ae.mk H
               clear H
               go_wp2
               go_meet
               case rel => exact ⟨_, ((((R6 ((R3 lA a1).f5) a2).f0) == 17)), pv, H', ⟨by have := HJ8.out; have := HJ177.out; have := HJ194.out; first | omega | exact Nat.le_refl _⟩, ⟨bt⟩, ⟨bt⟩, ⟨bt⟩, ⟨bel⟩⟩
              ·rw [if_neg c215] at H
               have c215b0 : (((R6 ((R3 lA a1).f5) a2).f0) == 17) = false := beq_eq_false_iff_ne.mpr c215
               have c215b1 : (((R6 ((R3 lA a1).f5) a2).f0) != 17) = true := bne_iff_ne.mpr c215
               by_cases c216 : ((R6 ((R3 lA a1).f5) a2).f0) = 18
               ·rw [if_pos c216] at H
                have c216b0 : (((R6 ((R3 lA a1).f5) a2).f0) == 18) = true := beq_iff_eq.mpr c216
                have c216b1 : (((R6 ((R3 lA a1).f5) a2).f0) != 18) = false := bne_eq_false_iff_eq.mpr c216
                clear c216
                have H' := Ae.mk H
                clear H
                go_wp2
                go_meet
                case rel => exact ⟨_, ((((R6 ((R3 lA a1).f5) a2).f0) == 18)), pv, H', ⟨by have := HJ8.out; have := HJ177.out; have := HJ194.out; first | omega | exact Nat.le_refl _⟩, ⟨bt⟩, ⟨bt⟩, ⟨bt⟩, ⟨bel⟩⟩
               ·rw [if_neg c216] at H
                have c216b0 : (((R6 ((R3 lA a1).f5) a2).f0) == 18) = false := beq_eq_false_iff_ne.mpr c216
                have c216b1 : (((R6 ((R3 lA a1).f5) a2).f0) != 18) = true := bne_iff_ne.mpr c216
                have H' := Ae.mk H
                clear H
                go_wp2
                go_meet
                case rel => exact ⟨_, ((((R6 ((R3 lA a1).f5) a2).f0) == 25)), pv, H', ⟨by have := HJ8.out; have := HJ177.out; have := HJ194.out; first | omega | exact Nat.le_refl _⟩, ⟨bt⟩, ⟨bt⟩, ⟨bt⟩, ⟨bel⟩⟩
            case rest =>
             clear HC213
             obtain ⟨kq, x119_212, rfl, HA, HJ212, BK158, BK161, BK166, HB⟩ := hcut
             cases kq with
             | zero => exact absurd HA.out (by simp [mY.j3])
             | succ kj212 =>
              have H := HA.out
              clear HA
              simp only [mY.j3] at H
              by_cases c217 : x119_212 = true
              ·subst c217
               have H1 : (if ((R6 ((R3 lA a1).f5) a2).f1) > a2 then (if 0 ≤ a1 then (if a1 < (lA.length : Int) then (some (decide (((R6 ((R3 lA a1).f5) a2).f1) < (((R3 lA a1).f5).length : Int)))) else (none)) else (none)) else (some false)) = some r := by rw [if_pos rfl] at H; exact H
               clear H
               have H := H1
               clear H1
               by_cases c218 : ((R6 ((R3 lA a1).f5) a2).f1) > a2
               ·rw [if_pos c218] at H
                have c218b0 : decide (a2 < ((R6 ((R3 lA a1).f5) a2).f1)) = true := decide_eq_true c218
                clear c218
                by_cases c219 : 0 ≤ a1
                ·rw [if_pos c219] at H
                 have c219b0 : decide (0 ≤ a1) = true := decide_eq_true c219
                 clear c219
                 by_cases c220 : a1 < (lA.length : Int)
                 ·rw [if_pos c220] at H
                  have c220b0 : decide (a1 < (lA.length : Int)) = true := decide_eq_true c220
                  clear c220
                  obtain rfl := Option.some.inj H
                  try go_wp2
                  have n0_ := Ae.mk (blk_drew BK158.out)
                  have n1_ := Ae.mk (blk_drew BK161.out)
                  have n2_ := Ae.mk (blk_drew BK166.out)
                  have n3_ := Ae.mk (below_drew1 HB.out)
                  clear BK158
                  clear BK161
                  clear BK166
                  clear HB
                  have BK158 := n0_
                  have BK161 := n1_
                  have BK166 := n2_
                  have HB := n3_
                  clear n0_ n1_ n2_ n3_
                  have p172 : 0 ≤ (a1 : Int) := of_decide_eq_true ass
                  have q172 : a1 < (lA.length : Int) := of_decide_eq_true ass
                  obtain ⟨ad172, A172_5, c172_5, e172, hx172_0, hx172_1, hx172_2, hx172_3, hx172_4, hx172_5, hl172_5, hi172_5⟩ := at_T30 HR0_0.out a1 p172 q172
                  have hw172_5 := hx172_5
                  have hw172_4 := hx172_4
                  have hw172_3 := hx172_3
                  have hw172_2 := hx172_2
                  have hw172_1 := hx172_1
                  have hw172_0 := hx172_0
                  obtain rfl : ad159 = ad172 := (by injection e172)
                  replace hx172_0 := cq HB hx172_0
                  replace hx172_1 := cq HB hx172_1
                  replace hx172_2 := cq HB hx172_2
                  replace hx172_3 := cq HB hx172_3
                  replace hx172_4 := cq HB hx172_4
                  replace hx172_5 := cq HB hx172_5
                  have HR172_5 := Ae.mk hi172_5
                  have HC172_5 := Ae.mk hl172_5
                  clear hi172_5 hl172_5
                  replace p172 := eq_true p172
                  replace q172 := eq_true q172
                  refine start_ (n := 18) (S := fun w' => w'.cell? ⟨gb161, 0, none⟩ = some (.int .i64 ((R6 ((R3 lA a1).f5) a2).f0)) ∧ w'.cell? ⟨gb161, 1, none⟩ = some (.int .i64 ((R6 ((R3 lA a1).f5) a2).f1)) ∧ w'.cell? ⟨gb161, 2, none⟩ = some (.int .i64 ((R6 ((R3 lA a1).f5) a2).f2)) ∧ w'.cell? ⟨gb161, 3, none⟩ = some (.string ((R6 ((R3 lA a1).f5) a2).f3)) ∧ w'.cell? ⟨gb161, 4, none⟩ = some (.slice A160_4 ((R6 ((R3 lA a1).f5) a2).f4).length c160_4) ∧ w'.cell? ⟨gb158, 0, none⟩ = some (.slice (some ad159) lA.length c0_0) ∧ w'.cell? ⟨gb158, 1, none⟩ = some (.slice A0_1 lB.length c0_1) ∧ w'.cell? (ad159.add ((a1).toNat * 6)) = some (.string ((R3 lA a1).f0)) ∧ w'.cell? ⟨(ad159.add ((a1).toNat * 6)).block, (ad159.add ((a1).toNat * 6)).off + 1, none⟩ = some (.int .i64 ((R3 lA a1).f1)) ∧ w'.cell? ⟨(ad159.add ((a1).toNat * 6)).block, (ad159.add ((a1).toNat * 6)).off + 2, none⟩ = some (.int .i64 ((R3 lA a1).f2)) ∧ w'.cell? ⟨(ad159.add ((a1).toNat * 6)).block, (ad159.add ((a1).toNat * 6)).off + 3, none⟩ = some (.int .i64 ((R3 lA a1).f3)) ∧ w'.cell? ⟨(ad159.add ((a1).toNat * 6)).block, (ad159.add ((a1).toNat * 6)).off + 4, none⟩ = some (.int .i64 ((R3 lA a1).f4)) ∧ w'.cell? ⟨(ad159.add ((a1).toNat * 6)).block, (ad159.add ((a1).toNat * 6)).off + 5, none⟩ = some (.slice A172_5 ((R3 lA a1).f5).length c172_5)) (ds := []) mkA12_0 (by kernel_rfl) rfl rfl ⟨(bC BK161.out 0).trans rfl, (bC BK161.out 1).trans rfl, (bC BK161.out 2).trans rfl, (bC BK161.out 3).trans rfl, (bC BK161.out 4).trans rfl, (bC BK158.out 0).trans rfl, (bC BK158.out 1).trans rfl, ((cq HB hw172_0).trans rfl), ((cq HB hw172_1).trans rfl), ((cq HB hw172_2).trans rfl), ((cq HB hw172_3).trans rfl), ((cq HB hw172_4).trans rfl), ((cq HB hw172_5).trans rfl)⟩ (fun hHeld => ?_); refine with_tabW mY.tab26 mY.bits26 (fun HT_ HW_ => ?_)
                  generalize wc.drew = w221 at BK158 BK161 BK166 HB HR172_5 hx172_0 hx172_1 hx172_2 hx172_3 hx172_4 hx172_5 hHeld ⊢
                  refine pq 0 124 mkA12_1 ?_
                  refine pq 2 126 mkA12_2 ?_
                  refine tq 1 125 mkA12_3 ?_
                  refine pq 3 127 mkA12_4 ?_
                  refine pq 4 128 mkA12_5 ?_
                  refine pq 5 129 mkA12_6 ?_
                  refine pq 7 131 mkA12_7 ?_
                  refine pq 8 132 mkA12_8 ?_
                  refine pq 10 134 mkA12_9 ?_
                  refine tq 6 130 mkA12_10 ?_
                  refine tq 9 133 mkA12_11 ?_
                  refine pq 11 135 mkA12_12 ?_
                  refine pq 12 136 mkA12_13 ?_
                  refine tq 13 137 mkA12_14 ?_
                  refine pq 14 138 mkA12_15 ?_
                  refine pq 15 139 mkA12_16 ?_
                  refine pq 16 140 mkA12_17 ?_
                  refine pq 17 6 mkA12_18 ?_
                  refine done_ (done_of HT_.out (by kernel_rfl)) ?_
                  try go_wp2
                  go_ret
                  exact fn
                 ·rw [if_neg c220] at H
                  exact absurd H (by simp)
                ·rw [if_neg c219] at H
                 exact absurd H (by simp)
               ·rw [if_neg c218] at H
                have c218b0 : decide (a2 < ((R6 ((R3 lA a1).f5) a2).f1)) = false := decide_eq_false c218
                clear c218
                obtain rfl := Option.some.inj H
                try go_wp2
                have n0_ := Ae.mk (blk_drew BK158.out)
                have n1_ := Ae.mk (blk_drew BK161.out)
                have n2_ := Ae.mk (blk_drew BK166.out)
                have n3_ := Ae.mk (below_drew1 HB.out)
                clear BK158
                clear BK161
                clear BK166
                clear HB
                have BK158 := n0_
                have BK161 := n1_
                have BK166 := n2_
                have HB := n3_
                clear n0_ n1_ n2_ n3_
                refine start_ (n := 18) (S := fun w' => w'.cell? ⟨gb161, 0, none⟩ = some (.int .i64 ((R6 ((R3 lA a1).f5) a2).f0)) ∧ w'.cell? ⟨gb161, 1, none⟩ = some (.int .i64 ((R6 ((R3 lA a1).f5) a2).f1)) ∧ w'.cell? ⟨gb161, 2, none⟩ = some (.int .i64 ((R6 ((R3 lA a1).f5) a2).f2)) ∧ w'.cell? ⟨gb161, 3, none⟩ = some (.string ((R6 ((R3 lA a1).f5) a2).f3)) ∧ w'.cell? ⟨gb161, 4, none⟩ = some (.slice A160_4 ((R6 ((R3 lA a1).f5) a2).f4).length c160_4)) (ds := []) mkA12_0 (by kernel_rfl) rfl rfl ⟨(bC BK161.out 0).trans rfl, (bC BK161.out 1).trans rfl, (bC BK161.out 2).trans rfl, (bC BK161.out 3).trans rfl, (bC BK161.out 4).trans rfl⟩ (fun hHeld => ?_); refine with_tabW mY.tab26 mY.bits26 (fun HT_ HW_ => ?_)
                generalize wc.drew = w222 at BK158 BK161 BK166 HB hHeld ⊢
                refine pq 0 124 mkA12_1 ?_
                refine pq 2 126 mkA12_2 ?_
                refine tq 1 125 mkA12_3 ?_
                refine pq 3 127 mkA12_4 ?_
                refine pq 4 128 mkA12_5 ?_
                refine uq 5 129 mkA12_6 ?_
                refine uq 6 130 mkA12_19 ?_
                refine uq 7 131 mkA12_20 ?_
                refine uq 8 132 mkA12_21 ?_
                refine uq 9 133 mkA12_22 ?_
                refine uq 10 134 mkA12_11 ?_
                refine uq 11 135 mkA12_12 ?_
                refine uq 12 136 mkA12_13 ?_
                refine uq 13 137 mkA12_14 ?_
                refine uq 14 138 mkA12_15 ?_
                refine uq 15 139 mkA12_16 ?_
                refine pq 16 140 mkA12_17 ?_
                refine pq 17 6 mkA12_18 ?_
                refine done_ (done_of HT_.out (by kernel_rfl)) ?_
                try go_wp2
                go_ret
                exact fn
              ·replace c217 := Bool.eq_false_iff.mpr c217
               subst c217
               have H1 : (if ((R6 ((R3 lA a1).f5) a2).f0) = 19 then ((cL.f kj212 lA lB a1 ((R6 ((R3 lA a1).f5) a2).f0) ((R6 ((R3 lA a1).f5) a2).f1) ((R6 ((R3 lA a1).f5) a2).f2) ((R6 ((R3 lA a1).f5) a2).f3) ((R6 ((R3 lA a1).f5) a2).f4)).bind fun t173 => (some t173)) else (if ((R6 ((R3 lA a1).f5) a2).f0) = 22 then ((code_inside.f ((R6 ((R3 lA a1).f5) a2).f1) 9).bind fun t174 => (if t174 = true then ((lexer_Name.f kj212 ((R6 ((R3 lA a1).f5) a2).f3)).bind fun t175 => (if t175 = true then ((lexer_Word.f ((R6 ((R3 lA a1).f5) a2).f3)).bind fun t176 => (some (!t176))) else (some false))) else (some false))) else (if ((R6 ((R3 lA a1).f5) a2).f0) = 29 then ((code_operators.f).bind fun t177 => ((code_among.f kj212 ((R6 ((R3 lA a1).f5) a2).f3) t177).bind fun t180 => (some t180))) else (if ((R6 ((R3 lA a1).f5) a2).f0) = 31 then (some (((R6 ((R3 lA a1).f5) a2).f3).toList != ([] : List UInt8))) else (if ((R6 ((R3 lA a1).f5) a2).f0) = 32 then (mY.j4 kj212 ((R6 ((R3 lA a1).f5) a2).f0) (((R6 ((R3 lA a1).f5) a2).f0) == 32) ((R6 ((R3 lA a1).f5) a2).f0) ((R6 ((R3 lA a1).f5) a2).f1) ((R6 ((R3 lA a1).f5) a2).f2) ((R6 ((R3 lA a1).f5) a2).f3) ((R6 ((R3 lA a1).f5) a2).f4)) else (mY.j4 kj212 ((R6 ((R3 lA a1).f5) a2).f0) (((R6 ((R3 lA a1).f5) a2).f0) == 34) ((R6 ((R3 lA a1).f5) a2).f0) ((R6 ((R3 lA a1).f5) a2).f1) ((R6 ((R3 lA a1).f5) a2).f2) ((R6 ((R3 lA a1).f5) a2).f3) ((R6 ((R3 lA a1).f5) a2).f4))))))) = some r := by rw [if_neg (show ¬ (false = true) by decide)] at H; exact H
               clear H
               have H := H1
               clear H1
               by_cases c223 : ((R6 ((R3 lA a1).f5) a2).f0) = 19
               ·rw [if_pos c223] at H
                have c223b0 : (((R6 ((R3 lA a1).f5) a2).f0) == 19) = true := beq_iff_eq.mpr c223
                have c223b1 : (((R6 ((R3 lA a1).f5) a2).f0) != 19) = false := bne_eq_false_iff_eq.mpr c223
                clear c223
                replace H := Option.bind_eq_some_iff.mp H
                obtain ⟨t173, A2240, H⟩ := H
                replace H : (some t173) = some r := H
                have A224 := Ae.mk A2240
                clear A2240
                obtain rfl := Option.some.inj H
                have hnb225 := NB158_161.out
                have hnc225 := NB161_158.out
                have hnb226 := NB158_166.out
                have hnc226 := NB166_158.out
                have hcz227_0 : wc.cell? ⟨gb158, 0, none⟩ = some (.slice (some ad159) lA.length c0_0) := (bC BK158.out 0).trans rfl
                have hcz227_1 : wc.cell? ⟨gb158, 1, none⟩ = some (.slice A0_1 lB.length c0_1) := (bC BK158.out 1).trans rfl
                have hfz227_0 := bF BK158.out 0
                have hfz227_1 := bF BK158.out 1
                have hnb228 := NB161_166.out
                have hnc228 := NB166_161.out
                have hcz229_0 : wc.cell? ⟨gb161, 0, none⟩ = some (.int .i64 ((R6 ((R3 lA a1).f5) a2).f0)) := (bC BK161.out 0).trans rfl
                have hcz229_1 : wc.cell? ⟨gb161, 1, none⟩ = some (.int .i64 ((R6 ((R3 lA a1).f5) a2).f1)) := (bC BK161.out 1).trans rfl
                have hcz229_2 : wc.cell? ⟨gb161, 2, none⟩ = some (.int .i64 ((R6 ((R3 lA a1).f5) a2).f2)) := (bC BK161.out 2).trans rfl
                have hcz229_3 : wc.cell? ⟨gb161, 3, none⟩ = some (.string ((R6 ((R3 lA a1).f5) a2).f3)) := (bC BK161.out 3).trans rfl
                have hcz229_4 : wc.cell? ⟨gb161, 4, none⟩ = some (.slice A160_4 ((R6 ((R3 lA a1).f5) a2).f4).length c160_4) := (bC BK161.out 4).trans rfl
                have hfz229_0 := bF BK161.out 0
                have hfz229_1 := bF BK161.out 1
                have hfz229_2 := bF BK161.out 2
                have hfz229_3 := bF BK161.out 3
                have hfz229_4 := bF BK161.out 4
                go_wp2_with (first | ((with_reducible refine gate_callee (f := 45) rfl ?_); refine goesL_ (some 146) rfl rfl Tryz.func45 (by kernel_rfl) rfl #[.agg #[.slice (some ad159) lA.length c0_0, .slice A0_1 lB.length c0_1], .int .i64 a1, .agg #[.int .i64 ((R6 ((R3 lA a1).f5) a2).f0), .int .i64 ((R6 ((R3 lA a1).f5) a2).f1), .int .i64 ((R6 ((R3 lA a1).f5) a2).f2), .string ((R6 ((R3 lA a1).f5) a2).f3), .slice A160_4 ((R6 ((R3 lA a1).f5) a2).f4).length c160_4]] rfl am ?_; (with_reducible refine (cL.calls kj212 _ _ lA _ _ lB a1 ((R6 ((R3 lA a1).f5) a2).f0) ((R6 ((R3 lA a1).f5) a2).f1) ((R6 ((R3 lA a1).f5) a2).f2) ((R6 ((R3 lA a1).f5) a2).f3) _ _ ((R6 ((R3 lA a1).f5) a2).f4) t173 _ ?side1 ?side2 ?side3 ?side4 ?side5 ?side6 A224.out).mono ?_); (case side1 => exact cb HR0_0); (case side2 => exact HC0_0.out); (case side3 => exact cb HR0_1); (case side4 => exact HC0_1.out); (case side5 => exact cb HR160_4); (case side6 => exact HC160_4.out); rintro e w230 ⟨rfl, hb⟩; refine ⟨_, rfl, ?_⟩; have n0_ := bb BK158 hb; have n1_ := bb BK161 hb; have n2_ := bb BK166 hb; have n3_ := bes hb; clear BK158; clear BK161; clear BK166; clear HB; have BK158 := n0_; have BK161 := n1_; have BK166 := n2_; have HB := n3_; clear n0_ n1_ n2_ n3_; (try clear hb); (try clear hb2); (try clear hk); (try clear hi)))
                go_ret
                exact fn
               ·rw [if_neg c223] at H
                have c223b0 : (((R6 ((R3 lA a1).f5) a2).f0) == 19) = false := beq_eq_false_iff_ne.mpr c223
                have c223b1 : (((R6 ((R3 lA a1).f5) a2).f0) != 19) = true := bne_iff_ne.mpr c223
                by_cases c231 : ((R6 ((R3 lA a1).f5) a2).f0) = 22
                ·rw [if_pos c231] at H
                 have c231b0 : (((R6 ((R3 lA a1).f5) a2).f0) == 22) = true := beq_iff_eq.mpr c231
                 have c231b1 : (((R6 ((R3 lA a1).f5) a2).f0) != 22) = false := bne_eq_false_iff_eq.mpr c231
                 clear c231
                 replace H := Option.bind_eq_some_iff.mp H
                 obtain ⟨t174, A2320, H⟩ := H
                 replace H : (if t174 = true then ((lexer_Name.f kj212 ((R6 ((R3 lA a1).f5) a2).f3)).bind fun t175 => (if t175 = true then ((lexer_Word.f ((R6 ((R3 lA a1).f5) a2).f3)).bind fun t176 => (some (!t176))) else (some false))) else (some false)) = some r := H
                 have A232 := Ae.mk A2320
                 clear A2320
                 by_cases c233 : t174 = true
                 ·subst c233
                  have H1 : ((lexer_Name.f kj212 ((R6 ((R3 lA a1).f5) a2).f3)).bind fun t175 => (if t175 = true then ((lexer_Word.f ((R6 ((R3 lA a1).f5) a2).f3)).bind fun t176 => (some (!t176))) else (some false))) = some r := by rw [if_pos rfl] at H; exact H
                  clear H
                  have H := H1
                  clear H1
                  replace H := Option.bind_eq_some_iff.mp H
                  obtain ⟨t175, A2340, H⟩ := H
                  replace H : (if t175 = true then ((lexer_Word.f ((R6 ((R3 lA a1).f5) a2).f3)).bind fun t176 => (some (!t176))) else (some false)) = some r := H
                  have A234 := Ae.mk A2340
                  clear A2340
                  by_cases c235 : t175 = true
                  ·subst c235
                   have H1 : ((lexer_Word.f ((R6 ((R3 lA a1).f5) a2).f3)).bind fun t176 => (some (!t176))) = some r := by rw [if_pos rfl] at H; exact H
                   clear H
                   have H := H1
                   clear H1
                   replace H := Option.bind_eq_some_iff.mp H
                   obtain ⟨t176, A2360, H⟩ := H
                   replace H : (some (!t176)) = some r := H
                   have A236 := Ae.mk A2360
                   clear A2360
                   obtain rfl := Option.some.inj H
                   have hnb237 := NB161_158.out
                   have hnc237 := NB158_161.out
                   have hnb238 := NB161_166.out
                   have hnc238 := NB166_161.out
                   have hcz239_0 : wc.cell? ⟨gb161, 0, none⟩ = some (.int .i64 ((R6 ((R3 lA a1).f5) a2).f0)) := (bC BK161.out 0).trans rfl
                   have hcz239_1 : wc.cell? ⟨gb161, 1, none⟩ = some (.int .i64 ((R6 ((R3 lA a1).f5) a2).f1)) := (bC BK161.out 1).trans rfl
                   have hcz239_2 : wc.cell? ⟨gb161, 2, none⟩ = some (.int .i64 ((R6 ((R3 lA a1).f5) a2).f2)) := (bC BK161.out 2).trans rfl
                   have hcz239_3 : wc.cell? ⟨gb161, 3, none⟩ = some (.string ((R6 ((R3 lA a1).f5) a2).f3)) := (bC BK161.out 3).trans rfl
                   have hcz239_4 : wc.cell? ⟨gb161, 4, none⟩ = some (.slice A160_4 ((R6 ((R3 lA a1).f5) a2).f4).length c160_4) := (bC BK161.out 4).trans rfl
                   have hfz239_0 := bF BK161.out 0
                   have hfz239_1 := bF BK161.out 1
                   have hfz239_2 := bF BK161.out 2
                   have hfz239_3 := bF BK161.out 3
                   have hfz239_4 := bF BK161.out 4
                   go_wp2_with (first | ((with_reducible refine gate_callee (f := 25) rfl ?_); refine goesL_ (some 151) rfl rfl Tryz.func25 (by kernel_rfl) rfl #[.int .i64 ((R6 ((R3 lA a1).f5) a2).f1), .int .i64 9] rfl am ?_; (with_reducible refine (code_inside.calls ((R6 ((R3 lA a1).f5) a2).f1) 9 true _ A232.out).mono ?_); rintro e w' ⟨rfl, ⟨nd, rfl⟩⟩; refine ⟨_, rfl, ?_⟩) | (go_at_call 46; (with_reducible refine (lexer_Name.calls kj212 ((R6 ((R3 lA a1).f5) a2).f3) true _ A234.out).mono ?_); rintro e w' ⟨rfl, ⟨nd, rfl⟩⟩) | (go_at_call 47; (with_reducible refine (lexer_Word.calls ((R6 ((R3 lA a1).f5) a2).f3) t176 _ A236.out).mono ?_); rintro e w' ⟨rfl, ⟨nd, rfl⟩⟩))
                   go_ret
                   exact fn
                  ·replace c235 := Bool.eq_false_iff.mpr c235
                   subst c235
                   have H1 : (some false) = some r := by rw [if_neg (show ¬ (false = true) by decide)] at H; exact H
                   clear H
                   have H := H1
                   clear H1
                   obtain rfl := Option.some.inj H
                   have hnb240 := NB161_158.out
                   have hnc240 := NB158_161.out
                   have hnb241 := NB161_166.out
                   have hnc241 := NB166_161.out
                   have hcz242_0 : wc.cell? ⟨gb161, 0, none⟩ = some (.int .i64 ((R6 ((R3 lA a1).f5) a2).f0)) := (bC BK161.out 0).trans rfl
                   have hcz242_1 : wc.cell? ⟨gb161, 1, none⟩ = some (.int .i64 ((R6 ((R3 lA a1).f5) a2).f1)) := (bC BK161.out 1).trans rfl
                   have hcz242_2 : wc.cell? ⟨gb161, 2, none⟩ = some (.int .i64 ((R6 ((R3 lA a1).f5) a2).f2)) := (bC BK161.out 2).trans rfl
                   have hcz242_3 : wc.cell? ⟨gb161, 3, none⟩ = some (.string ((R6 ((R3 lA a1).f5) a2).f3)) := (bC BK161.out 3).trans rfl
                   have hcz242_4 : wc.cell? ⟨gb161, 4, none⟩ = some (.slice A160_4 ((R6 ((R3 lA a1).f5) a2).f4).length c160_4) := (bC BK161.out 4).trans rfl
                   have hfz242_0 := bF BK161.out 0
                   have hfz242_1 := bF BK161.out 1
                   have hfz242_2 := bF BK161.out 2
                   have hfz242_3 := bF BK161.out 3
                   have hfz242_4 := bF BK161.out 4
                   go_wp2_with (first | ((with_reducible refine gate_callee (f := 25) rfl ?_); refine goesL_ (some 151) rfl rfl Tryz.func25 (by kernel_rfl) rfl #[.int .i64 ((R6 ((R3 lA a1).f5) a2).f1), .int .i64 9] rfl am ?_; (with_reducible refine (code_inside.calls ((R6 ((R3 lA a1).f5) a2).f1) 9 true _ A232.out).mono ?_); rintro e w' ⟨rfl, ⟨nd, rfl⟩⟩; refine ⟨_, rfl, ?_⟩) | (go_at_call 46; (with_reducible refine (lexer_Name.calls kj212 ((R6 ((R3 lA a1).f5) a2).f3) false _ A234.out).mono ?_); rintro e w' ⟨rfl, ⟨nd, rfl⟩⟩))
                   go_ret
                   exact fn
                 ·replace c233 := Bool.eq_false_iff.mpr c233
                  subst c233
                  have H1 : (some false) = some r := by rw [if_neg (show ¬ (false = true) by decide)] at H; exact H
                  clear H
                  have H := H1
                  clear H1
                  obtain rfl := Option.some.inj H
                  have hnb243 := NB161_158.out
                  have hnc243 := NB158_161.out
                  have hnb244 := NB161_166.out
                  have hnc244 := NB166_161.out
                  have hcz245_0 : wc.cell? ⟨gb161, 0, none⟩ = some (.int .i64 ((R6 ((R3 lA a1).f5) a2).f0)) := (bC BK161.out 0).trans rfl
                  have hcz245_1 : wc.cell? ⟨gb161, 1, none⟩ = some (.int .i64 ((R6 ((R3 lA a1).f5) a2).f1)) := (bC BK161.out 1).trans rfl
                  have hcz245_2 : wc.cell? ⟨gb161, 2, none⟩ = some (.int .i64 ((R6 ((R3 lA a1).f5) a2).f2)) := (bC BK161.out 2).trans rfl
                  have hcz245_3 : wc.cell? ⟨gb161, 3, none⟩ = some (.string ((R6 ((R3 lA a1).f5) a2).f3)) := (bC BK161.out 3).trans rfl
                  have hcz245_4 : wc.cell? ⟨gb161, 4, none⟩ = some (.slice A160_4 ((R6 ((R3 lA a1).f5) a2).f4).length c160_4) := (bC BK161.out 4).trans rfl
                  have hfz245_0 := bF BK161.out 0
                  have hfz245_1 := bF BK161.out 1
                  have hfz245_2 := bF BK161.out 2
                  have hfz245_3 := bF BK161.out 3
                  have hfz245_4 := bF BK161.out 4
                  go_wp2_with (first | ((with_reducible refine gate_callee (f := 25) rfl ?_); refine goesL_ (some 151) rfl rfl Tryz.func25 (by kernel_rfl) rfl #[.int .i64 ((R6 ((R3 lA a1).f5) a2).f1), .int .i64 9] rfl am ?_; (with_reducible refine (code_inside.calls ((R6 ((R3 lA a1).f5) a2).f1) 9 false _ A232.out).mono ?_); rintro e w' ⟨rfl, ⟨nd, rfl⟩⟩; refine ⟨_, rfl, ?_⟩))
                  go_ret
                  exact fn
                ·rw [if_neg c231] at H
                 have c231b0 : (((R6 ((R3 lA a1).f5) a2).f0) == 22) = false := beq_eq_false_iff_ne.mpr c231
                 have c231b1 : (((R6 ((R3 lA a1).f5) a2).f0) != 22) = true := bne_iff_ne.mpr c231
                 by_cases c246 : ((R6 ((R3 lA a1).f5) a2).f0) = 29
                 ·rw [if_pos c246] at H
                  have c246b0 : (((R6 ((R3 lA a1).f5) a2).f0) == 29) = true := beq_iff_eq.mpr c246
                  have c246b1 : (((R6 ((R3 lA a1).f5) a2).f0) != 29) = false := bne_eq_false_iff_eq.mpr c246
                  clear c246
                  replace H := Option.bind_eq_some_iff.mp H
                  obtain ⟨t177, A2470, H⟩ := H
                  replace H : ((code_among.f kj212 ((R6 ((R3 lA a1).f5) a2).f3) t177).bind fun t180 => (some t180)) = some r := H
                  have A247 := Ae.mk A2470
                  clear A2470
                  replace H := Option.bind_eq_some_iff.mp H
                  obtain ⟨t180, A2480, H⟩ := H
                  replace H : (some t180) = some r := H
                  have A248 := Ae.mk A2480
                  clear A2480
                  obtain rfl := Option.some.inj H
                  try go_wp2
                  have n0_ := Ae.mk (blk_drew BK158.out)
                  have n1_ := Ae.mk (blk_drew BK161.out)
                  have n2_ := Ae.mk (blk_drew BK166.out)
                  have n3_ := Ae.mk (below_drew1 HB.out)
                  clear BK158
                  clear BK161
                  clear BK166
                  clear HB
                  have BK158 := n0_
                  have BK161 := n1_
                  have BK166 := n2_
                  have HB := n3_
                  clear n0_ n1_ n2_ n3_
                  refine start_ (n := 5) (S := fun w' => w'.cell? ⟨gb161, 0, none⟩ = some (.int .i64 ((R6 ((R3 lA a1).f5) a2).f0)) ∧ w'.cell? ⟨gb161, 1, none⟩ = some (.int .i64 ((R6 ((R3 lA a1).f5) a2).f1)) ∧ w'.cell? ⟨gb161, 2, none⟩ = some (.int .i64 ((R6 ((R3 lA a1).f5) a2).f2)) ∧ w'.cell? ⟨gb161, 3, none⟩ = some (.string ((R6 ((R3 lA a1).f5) a2).f3)) ∧ w'.cell? ⟨gb161, 4, none⟩ = some (.slice A160_4 ((R6 ((R3 lA a1).f5) a2).f4).length c160_4)) (ds := []) mkA12_23 (by kernel_rfl) rfl rfl ⟨(bC BK161.out 0).trans rfl, (bC BK161.out 1).trans rfl, (bC BK161.out 2).trans rfl, (bC BK161.out 3).trans rfl, (bC BK161.out 4).trans rfl⟩ (fun hHeld => ?_)
                  generalize wc.drew = w249 at BK158 BK161 BK166 HB hHeld ⊢
                  refine pure_ (i := 0) (N := some 165) (v := ?_) (a' := ?_) mkA12_24 rfl rfl (by kernel_rfl) (fun _ _ _ h => h) (Or.inl ⟨by rfl, ?_⟩) ?_ ?_
                  rotate_left
                  ·intro w'
                   go_simp
                   with_reducible rfl
                  rotate_left
                  ·simp only [Act.put, List.setIfInBounds_toArray, List.set_cons_zero, List.set_cons_succ, i64_w, i32_w]
                   rfl
                  refine take_ (i := 1) (N := some 166) (v := ?_) (a' := ?_) mkA12_25 rfl rfl (by kernel_rfl) (fun _ _ _ h => h) (Or.inl ⟨by rfl, ?_⟩) hHeld ?_ ?_
                  rotate_left
                  ·rintro w' ⟨s0, s1, s2, s3, s4⟩
                   go_simp
                   with_reducible rfl
                  rotate_left
                  ·simp only [Act.put, List.setIfInBounds_toArray, List.set_cons_zero, List.set_cons_succ, i64_w, i32_w]
                   rfl
                  refine one_ (i := 2) (N := some 167) mkA12_26 rfl rfl (by kernel_rfl) (by decide) (fun K hK => ?_)
                  refine goes_ Tryz.func49 (by kernel_rfl) rfl #[] (by rfl) rfl rfl am ?_
                  with_reducible refine (code_operators.calls  t177 _ ?side1 A247.out).mono ?_
                  (case side1 => first | exact hT | exact tabs_below hT bel)
                  rintro e w250 ⟨v178, rfl, ho0, hb⟩
                  refine ⟨_, rfl, ?_⟩
                  have n0_ := Ae.mk (Kd.R_lower ho0 (below_size bel))
                  have n1_ := bb BK158 hb
                  have n2_ := bb BK161 hb
                  have n3_ := bb BK166 hb
                  have n4_ := bes hb
                  clear BK158
                  clear BK161
                  clear BK166
                  clear HB
                  have HO179 := n0_
                  have BK158 := n1_
                  have BK161 := n2_
                  have BK166 := n3_
                  have HB := n4_
                  clear n0_ n1_ n2_ n3_ n4_
                  obtain ⟨Ao251, co251, eo251⟩ := Kd.R_slice HO179.out
                  (first | subst eo251 | (injection eo251 with f1_ f2_ f3_; have f4_ := f1_.symm; have f5_ := f3_.symm; clear f1_ f2_ f3_; subst f4_; subst f5_))
                  refine hK.out _ _ ⟨(bC BK161.out 0).trans rfl, (bC BK161.out 1).trans rfl, (bC BK161.out 2).trans rfl, (bC BK161.out 3).trans rfl, (bC BK161.out 4).trans rfl⟩ (fun hHeld => ?_)
                  clear hK K
                  refine norm_ (a' := ?_) ?_ ?_
                  rotate_left
                  ·show Act.put _ (some 167) _ = _
                   simp only [Act.put, List.setIfInBounds_toArray, List.set_cons_zero, List.set_cons_succ, i64_w, i32_w]
                   rfl
                  refine one_ (i := 3) (N := some 168) mkA12_27 rfl rfl (by kernel_rfl) (by decide) (fun K hK => ?_)
                  refine goes_ Tryz.func48 (by kernel_rfl) rfl #[.string ((R6 ((R3 lA a1).f5) a2).f3), .slice Ao251 t177.length co251] (by rfl) rfl rfl am ?_
                  with_reducible refine (code_among.calls kj212 ((R6 ((R3 lA a1).f5) a2).f3) _ _ t177 t180 _ ?side1 ?side2 A248.out).mono ?_
                  (case side1 => repeat (first | exact (Kd.R_reads' HO179.out).2.2 | (with_reducible refine Kd.C_alloc ?_ _) | (with_reducible refine Kd.C_drewN ?_ _) | (with_reducible refine Kd.C_drew ?_)))
                  (case side2 => exact (Kd.R_reads' HO179.out).2.1)
                  rintro e w' ⟨rfl, ⟨nd, rfl⟩⟩
                  refine ⟨_, rfl, ?_⟩
                  refine hK.out _ _ ⟨(bC BK161.out 0).trans rfl, (bC BK161.out 1).trans rfl, (bC BK161.out 2).trans rfl, (bC BK161.out 3).trans rfl, (bC BK161.out 4).trans rfl⟩ (fun hHeld => ?_)
                  clear hK K
                  refine norm_ (a' := ?_) ?_ ?_
                  rotate_left
                  ·show Act.put _ (some 168) _ = _
                   simp only [Act.put, List.setIfInBounds_toArray, List.set_cons_zero, List.set_cons_succ, i64_w, i32_w]
                   rfl
                  refine pure_ (i := 4) (N := some 6) (v := ?_) (a' := ?_) mkA12_28 rfl rfl (by kernel_rfl) (fun _ _ _ h => h) (Or.inl ⟨by rfl, ?_⟩) ?_ ?_
                  rotate_left
                  ·intro w'
                   go_simp
                   with_reducible rfl
                  rotate_left
                  ·simp only [Act.put, List.setIfInBounds_toArray, List.set_cons_zero, List.set_cons_succ, i64_w, i32_w]
                   rfl
                  refine done_ (by kernel_rfl) ?_
                  try go_wp2
                  go_ret
                  exact fn
                 ·rw [if_neg c246] at H
                  have c246b0 : (((R6 ((R3 lA a1).f5) a2).f0) == 29) = false := beq_eq_false_iff_ne.mpr c246
                  have c246b1 : (((R6 ((R3 lA a1).f5) a2).f0) != 29) = true := bne_iff_ne.mpr c246
                  by_cases c252 : ((R6 ((R3 lA a1).f5) a2).f0) = 31
                  ·rw [if_pos c252] at H
                   have c252b0 : (((R6 ((R3 lA a1).f5) a2).f0) == 31) = true := beq_iff_eq.mpr c252
                   have c252b1 : (((R6 ((R3 lA a1).f5) a2).f0) != 31) = false := bne_eq_false_iff_eq.mpr c252
                   clear c252
                   obtain rfl := Option.some.inj H
                   have hnb253 := NB161_158.out
                   have hnc253 := NB158_161.out
                   have hnb254 := NB161_166.out
                   have hnc254 := NB166_161.out
                   have hcz255_0 : wc.cell? ⟨gb161, 0, none⟩ = some (.int .i64 ((R6 ((R3 lA a1).f5) a2).f0)) := (bC BK161.out 0).trans rfl
                   have hcz255_1 : wc.cell? ⟨gb161, 1, none⟩ = some (.int .i64 ((R6 ((R3 lA a1).f5) a2).f1)) := (bC BK161.out 1).trans rfl
                   have hcz255_2 : wc.cell? ⟨gb161, 2, none⟩ = some (.int .i64 ((R6 ((R3 lA a1).f5) a2).f2)) := (bC BK161.out 2).trans rfl
                   have hcz255_3 : wc.cell? ⟨gb161, 3, none⟩ = some (.string ((R6 ((R3 lA a1).f5) a2).f3)) := (bC BK161.out 3).trans rfl
                   have hcz255_4 : wc.cell? ⟨gb161, 4, none⟩ = some (.slice A160_4 ((R6 ((R3 lA a1).f5) a2).f4).length c160_4) := (bC BK161.out 4).trans rfl
                   have hfz255_0 := bF BK161.out 0
                   have hfz255_1 := bF BK161.out 1
                   have hfz255_2 := bF BK161.out 2
                   have hfz255_3 := bF BK161.out 3
                   have hfz255_4 := bF BK161.out 4
                   go_wp2
                   go_ret
                   exact fn (by simp [emp_ne])
                  ·rw [if_neg c252] at H
                   have c252b0 : (((R6 ((R3 lA a1).f5) a2).f0) == 31) = false := beq_eq_false_iff_ne.mpr c252
                   have c252b1 : (((R6 ((R3 lA a1).f5) a2).f0) != 31) = true := bne_iff_ne.mpr c252
                   have HC256 := Ae.mk H
                   clear H
                   go_upto_if 174 with (fail)
                   go_cut [174] (fun v174 wc => ∃ (kq : Nat) (x174_255 : Bool), v174 = .bool x174_255 ∧ Ae (mY.j4 kq ((R6 ((R3 lA a1).f5) a2).f0) x174_255 ((R6 ((R3 lA a1).f5) a2).f0) ((R6 ((R3 lA a1).f5) a2).f1) ((R6 ((R3 lA a1).f5) a2).f2) ((R6 ((R3 lA a1).f5) a2).f3) ((R6 ((R3 lA a1).f5) a2).f4) = some r) ∧ Ae (kq ≤ kj212) ∧ Ae (wc.heap[gb158]? = some (.cells #[(.slice (some ad159) lA.length c0_0), (.slice A0_1 lB.length c0_1)] 58 (0, 0))) ∧ Ae (wc.heap[gb161]? = some (.cells #[.int .i64 ((R6 ((R3 lA a1).f5) a2).f0), .int .i64 ((R6 ((R3 lA a1).f5) a2).f1), .int .i64 ((R6 ((R3 lA a1).f5) a2).f2), .string ((R6 ((R3 lA a1).f5) a2).f3), (.slice A160_4 ((R6 ((R3 lA a1).f5) a2).f4).length c160_4)] 56 (0, 0))) ∧ Ae (wc.heap[gb166]? = some (.cells #[.bool t162, .bool t163, .bool t164, .bool t165] 84 (0, 0))) ∧ Ae (Below w.heap.size w wc))
                   case first =>
                    have H := HC256.out
                    clear HC256
                    by_cases c257 : ((R6 ((R3 lA a1).f5) a2).f0) = 32
                    ·rw [if_pos c257] at H
                     have c257b0 : (((R6 ((R3 lA a1).f5) a2).f0) == 32) = true := beq_iff_eq.mpr c257
                     have c257b1 : (((R6 ((R3 lA a1).f5) a2).f0) != 32) = false := bne_eq_false_iff_eq.mpr c257
                     clear c257
                     (first | rw [c257b0] | (simp only [i64_w, i32_w]; rw [c257b0]) | skip)
                     have H' := Ae.mk H
                     clear H
                     go_wp2
                     go_meet
                     case rel => exact ⟨_, ((((R6 ((R3 lA a1).f5) a2).f0) == 32)), pv, H', ⟨by have := HJ8.out; have := HJ177.out; have := HJ194.out; have := HJ212.out; first | omega | exact Nat.le_refl _⟩, ⟨bt⟩, ⟨bt⟩, ⟨bt⟩, ⟨bel⟩⟩
                    ·rw [if_neg c257] at H
                     have c257b0 : (((R6 ((R3 lA a1).f5) a2).f0) == 32) = false := beq_eq_false_iff_ne.mpr c257
                     have c257b1 : (((R6 ((R3 lA a1).f5) a2).f0) != 32) = true := bne_iff_ne.mpr c257
                     (first | rw [c257b0] | (simp only [i64_w, i32_w]; rw [c257b0]) | skip)
                     have H' := Ae.mk H
                     clear H
                     go_wp2
                     go_meet
                     case rel => exact ⟨_, ((((R6 ((R3 lA a1).f5) a2).f0) == 34)), pv, H', ⟨by have := HJ8.out; have := HJ177.out; have := HJ194.out; have := HJ212.out; first | omega | exact Nat.le_refl _⟩, ⟨bt⟩, ⟨bt⟩, ⟨bt⟩, ⟨bel⟩⟩
                   case rest =>
                    clear HC256
                    obtain ⟨kq, x174_255, rfl, HA, HJ255, BK158, BK161, BK166, HB⟩ := hcut
                    cases kq with
                    | zero => exact absurd HA.out (by simp [mY.j4])
                    | succ kj255 =>
                     have H := HA.out
                     clear HA
                     simp only [mY.j4] at H
                     by_cases c258 : x174_255 = true
                     ·subst c258
                      have H1 : ((code_inside.f ((R6 ((R3 lA a1).f5) a2).f1) 1000).bind fun t181 => (some t181)) = some r := by rw [if_pos rfl] at H; exact H
                      clear H
                      have H := H1
                      clear H1
                      replace H := Option.bind_eq_some_iff.mp H
                      obtain ⟨t181, A2590, H⟩ := H
                      replace H : (some t181) = some r := H
                      have A259 := Ae.mk A2590
                      clear A2590
                      obtain rfl := Option.some.inj H
                      have hnb260 := NB161_158.out
                      have hnc260 := NB158_161.out
                      have hnb261 := NB161_166.out
                      have hnc261 := NB166_161.out
                      have hcz262_0 : wc.cell? ⟨gb161, 0, none⟩ = some (.int .i64 ((R6 ((R3 lA a1).f5) a2).f0)) := (bC BK161.out 0).trans rfl
                      have hcz262_1 : wc.cell? ⟨gb161, 1, none⟩ = some (.int .i64 ((R6 ((R3 lA a1).f5) a2).f1)) := (bC BK161.out 1).trans rfl
                      have hcz262_2 : wc.cell? ⟨gb161, 2, none⟩ = some (.int .i64 ((R6 ((R3 lA a1).f5) a2).f2)) := (bC BK161.out 2).trans rfl
                      have hcz262_3 : wc.cell? ⟨gb161, 3, none⟩ = some (.string ((R6 ((R3 lA a1).f5) a2).f3)) := (bC BK161.out 3).trans rfl
                      have hcz262_4 : wc.cell? ⟨gb161, 4, none⟩ = some (.slice A160_4 ((R6 ((R3 lA a1).f5) a2).f4).length c160_4) := (bC BK161.out 4).trans rfl
                      have hfz262_0 := bF BK161.out 0
                      have hfz262_1 := bF BK161.out 1
                      have hfz262_2 := bF BK161.out 2
                      have hfz262_3 := bF BK161.out 3
                      have hfz262_4 := bF BK161.out 4
                      go_wp2_with (first | ((with_reducible refine gate_callee (f := 25) rfl ?_); refine goesL_ (some 179) rfl rfl Tryz.func25 (by kernel_rfl) rfl #[.int .i64 ((R6 ((R3 lA a1).f5) a2).f1), .int .i64 1000] rfl am ?_; (with_reducible refine (code_inside.calls ((R6 ((R3 lA a1).f5) a2).f1) 1000 t181 _ A259.out).mono ?_); rintro e w' ⟨rfl, ⟨nd, rfl⟩⟩; refine ⟨_, rfl, ?_⟩))
                      go_ret
                      exact fn
                     ·replace c258 := Bool.eq_false_iff.mpr c258
                      subst c258
                      have H1 : (if ((R6 ((R3 lA a1).f5) a2).f0) = 35 then ((code_Worlds.f).bind fun t182 => ((code_among.f kj255 ((R6 ((R3 lA a1).f5) a2).f3) t182).bind fun t185 => (some t185))) else (some true)) = some r := by rw [if_neg (show ¬ (false = true) by decide)] at H; exact H
                      clear H
                      have H := H1
                      clear H1
                      by_cases c263 : ((R6 ((R3 lA a1).f5) a2).f0) = 35
                      ·rw [if_pos c263] at H
                       have c263b0 : (((R6 ((R3 lA a1).f5) a2).f0) == 35) = true := beq_iff_eq.mpr c263
                       have c263b1 : (((R6 ((R3 lA a1).f5) a2).f0) != 35) = false := bne_eq_false_iff_eq.mpr c263
                       clear c263
                       replace H := Option.bind_eq_some_iff.mp H
                       obtain ⟨t182, A2640, H⟩ := H
                       replace H : ((code_among.f kj255 ((R6 ((R3 lA a1).f5) a2).f3) t182).bind fun t185 => (some t185)) = some r := H
                       have A264 := Ae.mk A2640
                       clear A2640
                       replace H := Option.bind_eq_some_iff.mp H
                       obtain ⟨t185, A2650, H⟩ := H
                       replace H : (some t185) = some r := H
                       have A265 := Ae.mk A2650
                       clear A2650
                       obtain rfl := Option.some.inj H
                       try go_wp2
                       have n0_ := Ae.mk (blk_drew BK158.out)
                       have n1_ := Ae.mk (blk_drew BK161.out)
                       have n2_ := Ae.mk (blk_drew BK166.out)
                       have n3_ := Ae.mk (below_drew1 HB.out)
                       clear BK158
                       clear BK161
                       clear BK166
                       clear HB
                       have BK158 := n0_
                       have BK161 := n1_
                       have BK166 := n2_
                       have HB := n3_
                       clear n0_ n1_ n2_ n3_
                       refine start_ (n := 5) (S := fun w' => w'.cell? ⟨gb161, 0, none⟩ = some (.int .i64 ((R6 ((R3 lA a1).f5) a2).f0)) ∧ w'.cell? ⟨gb161, 1, none⟩ = some (.int .i64 ((R6 ((R3 lA a1).f5) a2).f1)) ∧ w'.cell? ⟨gb161, 2, none⟩ = some (.int .i64 ((R6 ((R3 lA a1).f5) a2).f2)) ∧ w'.cell? ⟨gb161, 3, none⟩ = some (.string ((R6 ((R3 lA a1).f5) a2).f3)) ∧ w'.cell? ⟨gb161, 4, none⟩ = some (.slice A160_4 ((R6 ((R3 lA a1).f5) a2).f4).length c160_4)) (ds := []) mkA12_23 (by kernel_rfl) rfl rfl ⟨(bC BK161.out 0).trans rfl, (bC BK161.out 1).trans rfl, (bC BK161.out 2).trans rfl, (bC BK161.out 3).trans rfl, (bC BK161.out 4).trans rfl⟩ (fun hHeld => ?_)
                       generalize wc.drew = w266 at BK158 BK161 BK166 HB hHeld ⊢
                       refine pure_ (i := 0) (N := some 182) (v := ?_) (a' := ?_) mkA12_24 rfl rfl (by kernel_rfl) (fun _ _ _ h => h) (Or.inl ⟨by rfl, ?_⟩) ?_ ?_
                       rotate_left
                       ·intro w'
                        go_simp
                        with_reducible rfl
                       rotate_left
                       ·simp only [Act.put, List.setIfInBounds_toArray, List.set_cons_zero, List.set_cons_succ, i64_w, i32_w]
                        rfl
                       refine take_ (i := 1) (N := some 183) (v := ?_) (a' := ?_) mkA12_25 rfl rfl (by kernel_rfl) (fun _ _ _ h => h) (Or.inl ⟨by rfl, ?_⟩) hHeld ?_ ?_
                       rotate_left
                       ·rintro w' ⟨s0, s1, s2, s3, s4⟩
                        go_simp
                        with_reducible rfl
                       rotate_left
                       ·simp only [Act.put, List.setIfInBounds_toArray, List.set_cons_zero, List.set_cons_succ, i64_w, i32_w]
                        rfl
                       refine one_ (i := 2) (N := some 184) mkA12_26 rfl rfl (by kernel_rfl) (by decide) (fun K hK => ?_)
                       refine goes_ Tryz.func16 (by kernel_rfl) rfl #[] (by rfl) rfl rfl am ?_
                       with_reducible refine (code_Worlds.calls  t182 _ ?side1 A264.out).mono ?_
                       (case side1 => first | exact hT | exact tabs_below hT bel)
                       rintro e w267 ⟨v183, rfl, ho0, hb⟩
                       refine ⟨_, rfl, ?_⟩
                       have n0_ := Ae.mk (Kd.R_lower ho0 (below_size bel))
                       have n1_ := bb BK158 hb
                       have n2_ := bb BK161 hb
                       have n3_ := bb BK166 hb
                       have n4_ := bes hb
                       clear BK158
                       clear BK161
                       clear BK166
                       clear HB
                       have HO184 := n0_
                       have BK158 := n1_
                       have BK161 := n2_
                       have BK166 := n3_
                       have HB := n4_
                       clear n0_ n1_ n2_ n3_ n4_
                       obtain ⟨Ao268, co268, eo268⟩ := Kd.R_slice HO184.out
                       (first | subst eo268 | (injection eo268 with f1_ f2_ f3_; have f4_ := f1_.symm; have f5_ := f3_.symm; clear f1_ f2_ f3_; subst f4_; subst f5_))
                       refine hK.out _ _ ⟨(bC BK161.out 0).trans rfl, (bC BK161.out 1).trans rfl, (bC BK161.out 2).trans rfl, (bC BK161.out 3).trans rfl, (bC BK161.out 4).trans rfl⟩ (fun hHeld => ?_)
                       clear hK K
                       refine norm_ (a' := ?_) ?_ ?_
                       rotate_left
                       ·show Act.put _ (some 184) _ = _
                        simp only [Act.put, List.setIfInBounds_toArray, List.set_cons_zero, List.set_cons_succ, i64_w, i32_w]
                        rfl
                       refine one_ (i := 3) (N := some 185) mkA12_27 rfl rfl (by kernel_rfl) (by decide) (fun K hK => ?_)
                       refine goes_ Tryz.func48 (by kernel_rfl) rfl #[.string ((R6 ((R3 lA a1).f5) a2).f3), .slice Ao268 t182.length co268] (by rfl) rfl rfl am ?_
                       with_reducible refine (code_among.calls kj255 ((R6 ((R3 lA a1).f5) a2).f3) _ _ t182 t185 _ ?side1 ?side2 A265.out).mono ?_
                       (case side1 => repeat (first | exact (Kd.R_reads' HO184.out).2.2 | (with_reducible refine Kd.C_alloc ?_ _) | (with_reducible refine Kd.C_drewN ?_ _) | (with_reducible refine Kd.C_drew ?_)))
                       (case side2 => exact (Kd.R_reads' HO184.out).2.1)
                       rintro e w' ⟨rfl, ⟨nd, rfl⟩⟩
                       refine ⟨_, rfl, ?_⟩
                       refine hK.out _ _ ⟨(bC BK161.out 0).trans rfl, (bC BK161.out 1).trans rfl, (bC BK161.out 2).trans rfl, (bC BK161.out 3).trans rfl, (bC BK161.out 4).trans rfl⟩ (fun hHeld => ?_)
                       clear hK K
                       refine norm_ (a' := ?_) ?_ ?_
                       rotate_left
                       ·show Act.put _ (some 185) _ = _
                        simp only [Act.put, List.setIfInBounds_toArray, List.set_cons_zero, List.set_cons_succ, i64_w, i32_w]
                        rfl
                       refine pure_ (i := 4) (N := some 6) (v := ?_) (a' := ?_) mkA12_28 rfl rfl (by kernel_rfl) (fun _ _ _ h => h) (Or.inl ⟨by rfl, ?_⟩) ?_ ?_
                       rotate_left
                       ·intro w'
                        go_simp
                        with_reducible rfl
                       rotate_left
                       ·simp only [Act.put, List.setIfInBounds_toArray, List.set_cons_zero, List.set_cons_succ, i64_w, i32_w]
                        rfl
                       refine done_ (by kernel_rfl) ?_
                       try go_wp2
                       go_ret
                       exact fn
                      ·rw [if_neg c263] at H
                       have c263b0 : (((R6 ((R3 lA a1).f5) a2).f0) == 35) = false := beq_eq_false_iff_ne.mpr c263
                       have c263b1 : (((R6 ((R3 lA a1).f5) a2).f0) != 35) = true := bne_iff_ne.mpr c263
                       obtain rfl := Option.some.inj H
                       go_wp2
                       go_ret
                       exact fn
end Go.Proofs.YtlbcnacfgickcaaGreatDoor.A
