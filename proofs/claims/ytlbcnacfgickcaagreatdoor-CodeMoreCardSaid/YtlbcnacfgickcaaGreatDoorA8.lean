/- Printed by this session's own copy of the printer (wip/tools/mkprint.py): functions, and that the Go code answers as they do. -/
import Derived.Test.YtlbcnacfgickcaaGreatDoorShort
import Derived.Test.YtlbcnacfgickcaaGreatDoorA0
import Derived.Test.YtlbcnacfgickcaaGreatDoorA1
import Derived.Test.YtlbcnacfgickcaaGreatDoorA6
import Derived.Test.YtlbcnacfgickcaaGreatDoorA7
namespace Go.Proofs.YtlbcnacfgickcaaGreatDoor.A
open Go.RowKit Go.Proofs.YtlbcnacfgickcaaGreatDoorW.PrintWords Go.Proofs.YtlbcnacfgickcaaGreatDoorW.PrintLast Go.Proofs.YtlbcnacfgickcaaGreatDoorW.PrintMore Go.Proofs.YtlbcnacfgickcaaGreatDoorW.Short
attribute [local go_sem] max2_int min2_int max_two min_two max_three min_three max_four min_four
set_option linter.unusedVariables false
set_option linter.unusedSimpArgs false
@[reducible] def mkA8_0 : Array Bool := #[false, false, false, false, false, false, false, false, false, false, false, false, false, false, false, false, false, false, false, false, false, false, false, false, false, false, false, false, false, false, false, false, false]
@[reducible] def mkA8_1 : Array Bool := #[true, false, false, false, false, false, false, false, false, false, false, false, false, false, false, false, false, false, false, false, false, false, false, false, false, false, false, false, false, false, false, false, false]
@[reducible] def mkA8_2 : Array Bool := #[true, false, true, false, false, false, false, false, false, false, false, false, false, false, false, false, false, false, false, false, false, false, false, false, false, false, false, false, false, false, false, false, false]
@[reducible] def mkA8_3 : Array Bool := #[true, false, true, true, false, false, false, false, false, false, false, false, false, false, false, false, false, false, false, false, false, false, false, false, false, false, false, false, false, false, false, false, false]
@[reducible] def mkA8_4 : Array Bool := #[true, true, true, true, false, false, false, false, false, false, false, false, false, false, false, false, false, false, false, false, false, false, false, false, false, false, false, false, false, false, false, false, false]
@[reducible] def mkA8_5 : Array Bool := #[true, true, true, true, true, false, false, false, false, false, false, false, false, false, false, false, false, false, false, false, false, false, false, false, false, false, false, false, false, false, false, false, false]
@[reducible] def mkA8_6 : Array Bool := #[true, true, true, true, true, true, false, false, false, false, false, false, false, false, false, false, false, false, false, false, false, false, false, false, false, false, false, false, false, false, false, false, false]
@[reducible] def mkA8_7 : Array Bool := #[true, true, true, true, true, true, true, false, false, false, false, false, false, false, false, false, false, false, false, false, false, false, false, false, false, false, false, false, false, false, false, false, false]
@[reducible] def mkA8_8 : Array Bool := #[true, true, true, true, true, true, true, true, false, false, false, false, false, false, false, false, false, false, false, false, false, false, false, false, false, false, false, false, false, false, false, false, false]
@[reducible] def mkA8_9 : Array Bool := #[true, true, true, true, true, true, true, true, true, false, false, false, false, false, false, false, false, false, false, false, false, false, false, false, false, false, false, false, false, false, false, false, false]
@[reducible] def mkA8_10 : Array Bool := #[true, true, true, true, true, true, true, true, true, true, false, false, false, false, false, false, false, false, false, false, false, false, false, false, false, false, false, false, false, false, false, false, false]
@[reducible] def mkA8_11 : Array Bool := #[true, true, true, true, true, true, true, true, true, true, true, false, false, false, false, false, false, false, false, false, false, false, false, false, false, false, false, false, false, false, false, false, false]
@[reducible] def mkA8_12 : Array Bool := #[true, true, true, true, true, true, true, true, true, true, true, false, true, false, false, false, false, false, false, false, false, false, false, false, false, false, false, false, false, false, false, false, false]
@[reducible] def mkA8_13 : Array Bool := #[true, true, true, true, true, true, true, true, true, true, true, false, true, false, false, false, false, false, true, false, false, false, false, false, false, false, false, false, false, false, false, false, false]
@[reducible] def mkA8_14 : Array Bool := #[true, true, true, true, true, true, true, true, true, true, true, true, true, false, false, false, false, false, true, false, false, false, false, false, false, false, false, false, false, false, false, false, false]
@[reducible] def mkA8_15 : Array Bool := #[true, true, true, true, true, true, true, true, true, true, true, true, true, true, false, false, false, false, true, false, false, false, false, false, false, false, false, false, false, false, false, false, false]
@[reducible] def mkA8_16 : Array Bool := #[true, true, true, true, true, true, true, true, true, true, true, true, true, true, true, false, false, false, true, false, false, false, false, false, false, false, false, false, false, false, false, false, false]
@[reducible] def mkA8_17 : Array Bool := #[true, true, true, true, true, true, true, true, true, true, true, true, true, true, true, true, false, false, true, false, false, false, false, false, false, false, false, false, false, false, false, false, false]
@[reducible] def mkA8_18 : Array Bool := #[true, true, true, true, true, true, true, true, true, true, true, true, true, true, true, true, true, false, true, false, false, false, false, false, false, false, false, false, false, false, false, false, false]
@[reducible] def mkA8_19 : Array Bool := #[true, true, true, true, true, true, true, true, true, true, true, true, true, true, true, true, true, true, true, false, false, false, false, false, false, false, false, false, false, false, false, false, false]
@[reducible] def mkA8_20 : Array Bool := #[true, true, true, true, true, true, true, true, true, true, true, true, true, true, true, true, true, true, true, true, false, false, false, false, false, false, false, false, false, false, false, false, false]
@[reducible] def mkA8_21 : Array Bool := #[true, true, true, true, true, true, true, true, true, true, true, true, true, true, true, true, true, true, true, true, true, false, false, false, false, false, false, false, false, false, false, false, false]
@[reducible] def mkA8_22 : Array Bool := #[true, true, true, true, true, true, true, true, true, true, true, true, true, true, true, true, true, true, true, true, true, true, false, false, false, false, false, false, false, false, false, false, false]
@[reducible] def mkA8_23 : Array Bool := #[true, true, true, true, true, true, true, true, true, true, true, true, true, true, true, true, true, true, true, true, true, true, true, false, false, false, false, false, false, false, false, false, false]
@[reducible] def mkA8_24 : Array Bool := #[true, true, true, true, true, true, true, true, true, true, true, true, true, true, true, true, true, true, true, true, true, true, true, true, false, false, false, false, false, false, false, false, false]
@[reducible] def mkA8_25 : Array Bool := #[true, true, true, true, true, true, true, true, true, true, true, true, true, true, true, true, true, true, true, true, true, true, true, true, true, false, false, false, false, false, false, false, false]
@[reducible] def mkA8_26 : Array Bool := #[true, true, true, true, true, true, true, true, true, true, true, true, true, true, true, true, true, true, true, true, true, true, true, true, true, true, false, false, false, false, false, false, false]
@[reducible] def mkA8_27 : Array Bool := #[true, true, true, true, true, true, true, true, true, true, true, true, true, true, true, true, true, true, true, true, true, true, true, true, true, true, true, false, false, false, false, false, false]
@[reducible] def mkA8_28 : Array Bool := #[true, true, true, true, true, true, true, true, true, true, true, true, true, true, true, true, true, true, true, true, true, true, true, true, true, true, true, true, false, false, false, false, false]
@[reducible] def mkA8_29 : Array Bool := #[true, true, true, true, true, true, true, true, true, true, true, true, true, true, true, true, true, true, true, true, true, true, true, true, true, true, true, true, true, false, false, false, false]
@[reducible] def mkA8_30 : Array Bool := #[true, true, true, true, true, true, true, true, true, true, true, true, true, true, true, true, true, true, true, true, true, true, true, true, true, true, true, true, true, true, false, false, false]
@[reducible] def mkA8_31 : Array Bool := #[true, true, true, true, true, true, true, true, true, true, true, true, true, true, true, true, true, true, true, true, true, true, true, true, true, true, true, true, true, true, true, false, false]
@[reducible] def mkA8_32 : Array Bool := #[true, true, true, true, true, true, true, true, true, true, true, true, true, true, true, true, true, true, true, true, true, true, true, true, true, true, true, true, true, true, true, true, false]
@[reducible] def mkA8_33 : Array Bool := #[true, true, true, true, true, true, true, true, true, true, true, true, true, true, true, true, true, true, true, true, true, true, true, true, true, true, true, true, true, true, true, true, true]
@[reducible] def mkA8_34 : Array Bool := #[true, true, true, true, true, true, true, true, true, true, true, true, false, false, false, false, false, false, false, false, false, false, false, false, false, false, false, false, false, false, false, false, false]
@[reducible] def mkA8_35 : Array Bool := #[true, true, true, true, true, true, true, true, true, true, true, true, true, false, false, false, false, false, false, false, false, false, false, false, false, false, false, false, false, false, false, false, false]
@[reducible] def mkA8_36 : Array Bool := #[true, true, true, true, true, true, true, true, true, true, true, true, true, true, false, false, false, false, false, false, false, false, false, false, false, false, false, false, false, false, false, false, false]
@[reducible] def mkA8_37 : Array Bool := #[true, true, true, true, true, true, true, true, true, true, true, true, true, true, true, false, false, false, false, false, false, false, false, false, false, false, false, false, false, false, false, false, false]
@[reducible] def mkA8_38 : Array Bool := #[true, true, true, true, true, true, true, true, true, true, true, true, true, true, true, true, false, false, false, false, false, false, false, false, false, false, false, false, false, false, false, false, false]
@[reducible] def mkA8_39 : Array Bool := #[true, true, true, true, true, true, true, true, true, true, true, true, true, true, true, true, true, false, false, false, false, false, false, false, false, false, false, false, false, false, false, false, false]
@[reducible] def mkA8_40 : Array Bool := #[true, true, true, true, true, true, true, true, true, true, true, true, true, true, true, true, true, true, false, false, false, false, false, false, false, false, false, false, false, false, false, false, false]
def cO.f (k : Nat) (lA : List (S30)) (lB : List (S36)) (a1 : Int) (a2_0 : Int) (a2_1 : Int) (a2_2 : Int) : Option (Bool) := if a2_0 = (-1) then ((code_program_param.f k lA lB a1 a2_1 a2_2).bind fun t133 => (some t133)) else ((code_inside.f a2_0 (wrap64 ((lA.length : Int) - 1))).bind fun t134 => (if t134 = true then (if 0 ≤ a2_0 then (if a2_0 < (lA.length : Int) then ((code_program_home.f lA lB a1).bind fun t136 => (if ((R3 lA a2_0).f1) = t136 then (if a2_1 = 0 then (some (a2_2 == 0)) else (some false)) else (some false))) else (none)) else (none)) else (some false)))
def cO.T3 : Bool × List (List Nat × List Nat) := (true, [([], []), ([0], [0]), ([], []), ([2], [2]), ([3], [3]), ([4], [4]), ([5], [5]), ([1, 6], [1, 6]), ([7, 7], [7]), ([8], [8]), ([9, 8], [8, 9]), ([10, 8], [8, 10]), ([8], [8]), ([12, 8], [8, 12]), ([11, 13, 8], [8, 11, 13]), ([14, 8], [8, 14]), ([15, 8], [8, 15]), ([8], [8]), ([8], [8]), ([17, 18, 8, 8], [8, 17, 18]), ([16, 19, 8], [8, 16, 19]), ([8, 20], [8, 20]), ([21, 19], [21]), ([22], [22]), ([23, 22], [22, 23]), ([24, 22], [22, 24]), ([22, 25], [22, 25]), ([26, 22], [26]), ([27], [27]), ([28, 27], [27, 28]), ([29, 27], [27, 29]), ([27, 30], [27, 30]), ([31, 27, 0, 1, 2, 3, 4, 5, 6, 7, 8, 9, 10, 11, 12, 13, 14, 15, 16, 17, 18, 19, 20, 21, 22, 23, 24, 25, 26, 27, 28, 29, 30, 31], [31])])
def cO.B3 : List Nat := [0, 1, 0, 4, 12, 28, 60, 127, 255, 511, 1023, 2047, 511, 4607, 16383, 32767, 65535, 511, 511, 393727, 1048575, 2097151, 4194303, 8388607, 16777215, 33554431, 67108863, 134217727, 268435455, 536870911, 1073741823, 2147483647, 4294967295]
theorem cO.tab3 : rtab .any (opsOf Tryz.f73 3) = cO.T3 := by kernel_rfl
theorem cO.bits3 : waitsOk cO.T3.2 cO.B3 = true := by kernel_rfl
set_option maxHeartbeats 8000000 in
set_option maxRecDepth 100000 in
theorem cO.calls (k : Nat) (A0_0 : Option Addr) (c0_0 : Nat) (lA : List (S30)) (A0_1 : Option Addr) (c0_1 : Nat) (lB : List (S36)) (a1 : Int) (a2_0 : Int) (a2_1 : Int) (a2_2 : Int) (r : Bool) (w : World) (hr0_0 : Kd.C k30 w A0_0 lA.length lA) (hc0_0 : lA.length ≤ c0_0) (hr0_1 : Kd.C k36 w A0_1 lB.length lB) (hc0_1 : lB.length ≤ c0_1) (h : cO.f k lA lB a1 a2_0 a2_1 a2_2 = some r) :
  Calls Tryz.prog 73 #[.agg #[.slice A0_0 lA.length c0_0, .slice A0_1 lB.length c0_1], .int .i64 a1, .agg #[.int .i64 a2_0, .int .i64 a2_1, .int .i64 a2_2]] w fun e w' => e = .returned (.bool r) ∧ Below w.heap.size w w' := by
 have hu58 := Tryz.underlying58
 have hu99 := Tryz.underlying99
 have HR0_0 := Ae.mk hr0_0
 have HC0_0 := Ae.mk hc0_0
 clear hr0_0 hc0_0
 have HR0_1 := Ae.mk hr0_1
 have HC0_1 := Ae.mk hc0_1
 clear hr0_1 hc0_1
 have HB := Ae.mk (Below.refl w.heap.size w)
 have H : (if a2_0 = (-1) then ((code_program_param.f k lA lB a1 a2_1 a2_2).bind fun t133 => (some t133)) else ((code_inside.f a2_0 (wrap64 ((lA.length : Int) - 1))).bind fun t134 => (if t134 = true then (if 0 ≤ a2_0 then (if a2_0 < (lA.length : Int) then ((code_program_home.f lA lB a1).bind fun t136 => (if ((R3 lA a2_0).f1) = t136 then (if a2_1 = 0 then (some (a2_2 == 0)) else (some false)) else (some false))) else (none)) else (none)) else (some false)))) = some r := h
 clear h
 by_cases c4 : a2_0 = (-1)
 ·rw [if_pos c4] at H
  have c4b0 : (a2_0 == (-1)) = true := beq_iff_eq.mpr c4
  have c4b1 : (a2_0 != (-1)) = false := bne_eq_false_iff_eq.mpr c4
  clear c4
  replace H := Option.bind_eq_some_iff.mp H
  obtain ⟨t133, A50, H⟩ := H
  replace H : (some t133) = some r := H
  have A5 := Ae.mk A50
  clear A50
  obtain rfl := Option.some.inj H
  go_enter Tryz.func73, Tryz.ntmps73
  go_wp2_with (first | ((with_reducible refine gD (N := 3) rfl ?_); refine bE ?hg (N := 3) ?hd (cs := #[.slice A0_0 lA.length c0_0, .slice A0_1 lB.length c0_1]) (t := 58) ?hr ?_; (case hd => rfl); (case hg => rfl); (case hr => first | (go_simp; done) | (go_simp; rfl)); intro gb131 hg w6 hbox hb; have n0_ := bes hb; have n1_ := Ae.mk (hbox); have n2_ := Ae.mk ((bez hg : w.heap.size ≤ gb131)); have n3_ := Ae.mk ((bez hg : w.heap.size ≤ gb131)); clear HB; have HB := n0_; have BK131 := n1_; have GW131 := n2_; have GE131 := n3_; clear n0_ n1_ n2_ n3_; clear hb hbox hg) | ((with_reducible refine gD (N := 5) rfl ?_); refine bE ?hg (N := 5) ?hd (cs := #[.int .i64 a2_0, .int .i64 a2_1, .int .i64 a2_2]) (t := 99) ?hr ?_; (case hd => rfl); (case hg => rfl); (case hr => first | (go_simp; done) | (go_simp; rfl)); intro gb132 hg w7 hbox hb; have n0_ := bb BK131 hb; have n1_ := bes hb; have n2_ := Ae.mk (hbox); have n3_ := Ae.mk ((bez hg : w.heap.size ≤ gb132)); have n4_ := Ae.mk ((bez hg : w.heap.size ≤ gb132)); have n5_ := Ae.mk ((by rw [hg]; exact Nat.ne_of_lt (blk_lt (g := gb131) (o := .cells #[.slice A0_0 lA.length c0_0, .slice A0_1 lB.length c0_1] 58 (0, 0)) bt) : gb131 ≠ gb132)); have n6_ := Ae.mk ((by rw [hg]; exact Nat.ne_of_gt (blk_lt (g := gb131) (o := .cells #[.slice A0_0 lA.length c0_0, .slice A0_1 lB.length c0_1] 58 (0, 0)) bt) : gb132 ≠ gb131)); clear BK131; clear HB; have BK131 := n0_; have HB := n1_; have BK132 := n2_; have GW132 := n3_; have GE132 := n4_; have NB131_132 := n5_; have NB132_131 := n6_; clear n0_ n1_ n2_ n3_ n4_ n5_ n6_; clear hb hbox hg; have hnb8 := NB132_131.out; have hnc8 := NB131_132.out; have hcz9_0 : w7.cell? ⟨gb132, 0, none⟩ = some (.int .i64 a2_0) := (bC BK132.out 0).trans rfl; have hcz9_1 : w7.cell? ⟨gb132, 1, none⟩ = some (.int .i64 a2_1) := (bC BK132.out 1).trans rfl; have hcz9_2 : w7.cell? ⟨gb132, 2, none⟩ = some (.int .i64 a2_2) := (bC BK132.out 2).trans rfl; have hfz9_0 := bF BK132.out 0; have hfz9_1 := bF BK132.out 1; have hfz9_2 := bF BK132.out 2; have hcz10_0 : w7.cell? ⟨gb131, 0, none⟩ = some (.slice A0_0 lA.length c0_0) := (bC BK131.out 0).trans rfl; have hcz10_1 : w7.cell? ⟨gb131, 1, none⟩ = some (.slice A0_1 lB.length c0_1) := (bC BK131.out 1).trans rfl; have hfz10_0 := bF BK131.out 0; have hfz10_1 := bF BK131.out 1) | ((with_reducible refine gate_callee (f := 44) rfl ?_); refine goesL_ (some 16) rfl rfl Tryz.func44 (by kernel_rfl) rfl #[.agg #[.slice A0_0 lA.length c0_0, .slice A0_1 lB.length c0_1], .int .i64 a1, .int .i64 a2_1, .int .i64 a2_2] rfl am ?_; (with_reducible refine (code_program_param.calls k _ _ lA _ _ lB a1 a2_1 a2_2 t133 _ ?side1 ?side2 ?side3 ?side4 A5.out).mono ?_); (case side1 => exact cb HR0_0); (case side2 => exact HC0_0.out); (case side3 => exact cb HR0_1); (case side4 => exact HC0_1.out); rintro e w11 ⟨rfl, hb⟩; refine ⟨_, rfl, ?_⟩; have n0_ := bb BK131 hb; have n1_ := bb BK132 hb; have n2_ := bes hb; clear BK131; clear BK132; clear HB; have BK131 := n0_; have BK132 := n1_; have HB := n2_; clear n0_ n1_ n2_; (try clear hb); (try clear hb2); (try clear hk); (try clear hi)))
  go_ret
  exact fn
 ·rw [if_neg c4] at H
  have c4b0 : (a2_0 == (-1)) = false := beq_eq_false_iff_ne.mpr c4
  have c4b1 : (a2_0 != (-1)) = true := bne_iff_ne.mpr c4
  replace H := Option.bind_eq_some_iff.mp H
  obtain ⟨t134, A120, H⟩ := H
  replace H : (if t134 = true then (if 0 ≤ a2_0 then (if a2_0 < (lA.length : Int) then ((code_program_home.f lA lB a1).bind fun t136 => (if ((R3 lA a2_0).f1) = t136 then (if a2_1 = 0 then (some (a2_2 == 0)) else (some false)) else (some false))) else (none)) else (none)) else (some false)) = some r := H
  have A12 := Ae.mk A120
  clear A120
  by_cases c13 : t134 = true
  ·subst c13
   have H1 : (if 0 ≤ a2_0 then (if a2_0 < (lA.length : Int) then ((code_program_home.f lA lB a1).bind fun t136 => (if ((R3 lA a2_0).f1) = t136 then (if a2_1 = 0 then (some (a2_2 == 0)) else (some false)) else (some false))) else (none)) else (none)) = some r := by rw [if_pos rfl] at H; exact H
   clear H
   have H := H1
   clear H1
   by_cases c14 : 0 ≤ a2_0
   ·rw [if_pos c14] at H
    have c14b0 : decide (0 ≤ a2_0) = true := decide_eq_true c14
    clear c14
    by_cases c15 : a2_0 < (lA.length : Int)
    ·rw [if_pos c15] at H
     have c15b0 : decide (a2_0 < (lA.length : Int)) = true := decide_eq_true c15
     clear c15
     replace H := Option.bind_eq_some_iff.mp H
     obtain ⟨t136, A160, H⟩ := H
     replace H : (if ((R3 lA a2_0).f1) = t136 then (if a2_1 = 0 then (some (a2_2 == 0)) else (some false)) else (some false)) = some r := H
     have A16 := Ae.mk A160
     clear A160
     by_cases c17 : ((R3 lA a2_0).f1) = t136
     ·rw [if_pos c17] at H
      have c17b0 : (((R3 lA a2_0).f1) == t136) = true := beq_iff_eq.mpr c17
      have c17b1 : (((R3 lA a2_0).f1) != t136) = false := bne_eq_false_iff_eq.mpr c17
      clear c17
      by_cases c18 : a2_1 = 0
      ·rw [if_pos c18] at H
       have c18b0 : (a2_1 == 0) = true := beq_iff_eq.mpr c18
       have c18b1 : (a2_1 != 0) = false := bne_eq_false_iff_eq.mpr c18
       clear c18
       obtain rfl := Option.some.inj H
       go_enter Tryz.func73, Tryz.ntmps73
       try go_wp2_with (first | ((with_reducible refine gD (N := 3) rfl ?_); refine bE ?hg (N := 3) ?hd (cs := #[.slice A0_0 lA.length c0_0, .slice A0_1 lB.length c0_1]) (t := 58) ?hr ?_; (case hd => rfl); (case hg => rfl); (case hr => first | (go_simp; done) | (go_simp; rfl)); intro gb131 hg w19 hbox hb; have n0_ := bes hb; have n1_ := Ae.mk (hbox); have n2_ := Ae.mk ((bez hg : w.heap.size ≤ gb131)); have n3_ := Ae.mk ((bez hg : w.heap.size ≤ gb131)); clear HB; have HB := n0_; have BK131 := n1_; have GW131 := n2_; have GE131 := n3_; clear n0_ n1_ n2_ n3_; clear hb hbox hg) | ((with_reducible refine gD (N := 5) rfl ?_); refine bE ?hg (N := 5) ?hd (cs := #[.int .i64 a2_0, .int .i64 a2_1, .int .i64 a2_2]) (t := 99) ?hr ?_; (case hd => rfl); (case hg => rfl); (case hr => first | (go_simp; done) | (go_simp; rfl)); intro gb132 hg w20 hbox hb; have n0_ := bb BK131 hb; have n1_ := bes hb; have n2_ := Ae.mk (hbox); have n3_ := Ae.mk ((bez hg : w.heap.size ≤ gb132)); have n4_ := Ae.mk ((bez hg : w.heap.size ≤ gb132)); have n5_ := Ae.mk ((by rw [hg]; exact Nat.ne_of_lt (blk_lt (g := gb131) (o := .cells #[.slice A0_0 lA.length c0_0, .slice A0_1 lB.length c0_1] 58 (0, 0)) bt) : gb131 ≠ gb132)); have n6_ := Ae.mk ((by rw [hg]; exact Nat.ne_of_gt (blk_lt (g := gb131) (o := .cells #[.slice A0_0 lA.length c0_0, .slice A0_1 lB.length c0_1] 58 (0, 0)) bt) : gb132 ≠ gb131)); clear BK131; clear HB; have BK131 := n0_; have HB := n1_; have BK132 := n2_; have GW132 := n3_; have GE132 := n4_; have NB131_132 := n5_; have NB132_131 := n6_; clear n0_ n1_ n2_ n3_ n4_ n5_ n6_; clear hb hbox hg; have hnb21 := NB132_131.out; have hnc21 := NB131_132.out; have hcz22_0 : w20.cell? ⟨gb132, 0, none⟩ = some (.int .i64 a2_0) := (bC BK132.out 0).trans rfl; have hcz22_1 : w20.cell? ⟨gb132, 1, none⟩ = some (.int .i64 a2_1) := (bC BK132.out 1).trans rfl; have hcz22_2 : w20.cell? ⟨gb132, 2, none⟩ = some (.int .i64 a2_2) := (bC BK132.out 2).trans rfl; have hfz22_0 := bF BK132.out 0; have hfz22_1 := bF BK132.out 1; have hfz22_2 := bF BK132.out 2))
       have n0_ := Ae.mk (blk_drew BK131.out)
       have n1_ := Ae.mk (blk_drew BK132.out)
       have n2_ := Ae.mk (below_drew1 HB.out)
       clear BK131
       clear BK132
       clear HB
       have BK131 := n0_
       have BK132 := n1_
       have HB := n2_
       clear n0_ n1_ n2_
       have p135 : 0 ≤ (a2_0 : Int) := of_decide_eq_true ass
       have q135 : a2_0 < (lA.length : Int) := of_decide_eq_true ass
       obtain ⟨ad135, A135_5, c135_5, e135, hx135_0, hx135_1, hx135_2, hx135_3, hx135_4, hx135_5, hl135_5, hi135_5⟩ := at_T30 HR0_0.out a2_0 p135 q135
       have hw135_5 := hx135_5
       have hw135_4 := hx135_4
       have hw135_3 := hx135_3
       have hw135_2 := hx135_2
       have hw135_1 := hx135_1
       have hw135_0 := hx135_0
       cases e135
       replace hx135_0 := cq HB hx135_0
       replace hx135_1 := cq HB hx135_1
       replace hx135_2 := cq HB hx135_2
       replace hx135_3 := cq HB hx135_3
       replace hx135_4 := cq HB hx135_4
       replace hx135_5 := cq HB hx135_5
       have HR135_5 := Ae.mk hi135_5
       have HC135_5 := Ae.mk hl135_5
       clear hi135_5 hl135_5
       replace p135 := eq_true p135
       replace q135 := eq_true q135
       refine start_ (n := 33) (S := fun w' => w'.cell? ⟨gb132, 0, none⟩ = some (.int .i64 a2_0) ∧ w'.cell? ⟨gb132, 1, none⟩ = some (.int .i64 a2_1) ∧ w'.cell? ⟨gb132, 2, none⟩ = some (.int .i64 a2_2) ∧ w'.cell? ⟨gb131, 0, none⟩ = some (.slice (some ad135) lA.length c0_0) ∧ w'.cell? ⟨gb131, 1, none⟩ = some (.slice A0_1 lB.length c0_1) ∧ w'.cell? (ad135.add ((a2_0).toNat * 6)) = some (.string ((R3 lA a2_0).f0)) ∧ w'.cell? ⟨(ad135.add ((a2_0).toNat * 6)).block, (ad135.add ((a2_0).toNat * 6)).off + 1, none⟩ = some (.int .i64 ((R3 lA a2_0).f1)) ∧ w'.cell? ⟨(ad135.add ((a2_0).toNat * 6)).block, (ad135.add ((a2_0).toNat * 6)).off + 2, none⟩ = some (.int .i64 ((R3 lA a2_0).f2)) ∧ w'.cell? ⟨(ad135.add ((a2_0).toNat * 6)).block, (ad135.add ((a2_0).toNat * 6)).off + 3, none⟩ = some (.int .i64 ((R3 lA a2_0).f3)) ∧ w'.cell? ⟨(ad135.add ((a2_0).toNat * 6)).block, (ad135.add ((a2_0).toNat * 6)).off + 4, none⟩ = some (.int .i64 ((R3 lA a2_0).f4)) ∧ w'.cell? ⟨(ad135.add ((a2_0).toNat * 6)).block, (ad135.add ((a2_0).toNat * 6)).off + 5, none⟩ = some (.slice A135_5 ((R3 lA a2_0).f5).length c135_5)) (ds := []) mkA8_0 (by kernel_rfl) rfl rfl ⟨(bC BK132.out 0).trans rfl, (bC BK132.out 1).trans rfl, (bC BK132.out 2).trans rfl, (bC BK131.out 0).trans rfl, (bC BK131.out 1).trans rfl, ((cq HB hw135_0).trans rfl), ((cq HB hw135_1).trans rfl), ((cq HB hw135_2).trans rfl), ((cq HB hw135_3).trans rfl), ((cq HB hw135_4).trans rfl), ((cq HB hw135_5).trans rfl)⟩ (fun hHeld => ?_); refine with_tabW cO.tab3 cO.bits3 (fun HT_ HW_ => ?_)
       generalize w20.drew = w23 at BK131 BK132 HB HR135_5 hx135_0 hx135_1 hx135_2 hx135_3 hx135_4 hx135_5 hHeld ⊢
       refine pq 0 17 mkA8_1 ?_
       refine pq 2 19 mkA8_2 ?_
       refine pq 3 20 mkA8_3 ?_
       refine tq 1 18 mkA8_4 ?_
       refine tq 4 21 mkA8_5 ?_
       refine pq 5 22 mkA8_6 ?_
       refine pq 6 23 mkA8_7 ?_
       refine one_ (i := 7) (N := some 24) mkA8_8 rfl rfl (one_of HT_.out (by kernel_rfl)) (by decide) (fun K hK => ?_)
       refine goes_ Tryz.func25 (by kernel_rfl) rfl #[.int .i64 a2_0, .int .i64 (wrap64 ((lA.length : Int) - 1))] (by rfl) rfl rfl am ?_
       with_reducible refine (code_inside.calls a2_0 (wrap64 ((lA.length : Int) - 1)) true _ A12.out).mono ?_
       rintro e w' ⟨rfl, ⟨nd, rfl⟩⟩
       refine ⟨_, rfl, ?_⟩
       refine hK.out _ _ ⟨(bC BK132.out 0).trans rfl, (bC BK132.out 1).trans rfl, (bC BK132.out 2).trans rfl, (bC BK131.out 0).trans rfl, (bC BK131.out 1).trans rfl, ((cq HB hw135_0).trans rfl), ((cq HB hw135_1).trans rfl), ((cq HB hw135_2).trans rfl), ((cq HB hw135_3).trans rfl), ((cq HB hw135_4).trans rfl), ((cq HB hw135_5).trans rfl)⟩ (fun hHeld => ?_)
       clear hK K
       refine norm_ (a' := ?_) ?_ ?_
       rotate_left
       ·show Act.put _ (some 24) _ = _
        simp only [Act.put, List.setIfInBounds_toArray, List.set_cons_zero, List.set_cons_succ, i64_w, i32_w]
        rfl
       refine pq 8 25 mkA8_9 ?_
       refine pq 9 26 mkA8_10 ?_
       refine pq 10 27 mkA8_11 ?_
       refine pq 12 29 mkA8_12 ?_
       refine pq 18 35 mkA8_13 ?_
       refine tq 11 28 mkA8_14 ?_
       refine tq 13 30 mkA8_15 ?_
       refine pq 14 31 mkA8_16 ?_
       refine pq 15 32 mkA8_17 ?_
       refine tq 16 33 mkA8_18 ?_
       refine tq 17 34 mkA8_19 ?_
       refine one_ (i := 19) (N := some 36) mkA8_20 rfl rfl (one_of HT_.out (by kernel_rfl)) (by decide) (fun K hK => ?_)
       refine goes_ Tryz.func94 (by kernel_rfl) rfl #[.agg #[.slice (some ad135) lA.length c0_0, .slice A0_1 lB.length c0_1], .int .i64 a1] (by rfl) rfl rfl am ?_
       with_reducible refine (code_program_home.calls _ _ lA _ _ lB a1 t136 _ ?side1 ?side2 ?side3 ?side4 A16.out).mono ?_
       (case side1 => repeat (first | exact (Kd.C_below HR0_0.out bel) | (with_reducible refine Kd.C_alloc ?_ _) | (with_reducible refine Kd.C_drewN ?_ _) | (with_reducible refine Kd.C_drew ?_)))
       (case side2 => exact HC0_0.out)
       (case side3 => repeat (first | exact (Kd.C_below HR0_1.out bel) | (with_reducible refine Kd.C_alloc ?_ _) | (with_reducible refine Kd.C_drewN ?_ _) | (with_reducible refine Kd.C_drew ?_)))
       (case side4 => exact HC0_1.out)
       rintro e w24 ⟨rfl, hb⟩
       refine ⟨_, rfl, ?_⟩
       have n0_ := bb BK131 hb
       have n1_ := bb BK132 hb
       have n2_ := bes hb
       clear BK131
       clear BK132
       clear HB
       have BK131 := n0_
       have BK132 := n1_
       have HB := n2_
       clear n0_ n1_ n2_
       refine hK.out _ _ ⟨(bC BK132.out 0).trans rfl, (bC BK132.out 1).trans rfl, (bC BK132.out 2).trans rfl, (bC BK131.out 0).trans rfl, (bC BK131.out 1).trans rfl, ((cq HB hw135_0).trans rfl), ((cq HB hw135_1).trans rfl), ((cq HB hw135_2).trans rfl), ((cq HB hw135_3).trans rfl), ((cq HB hw135_4).trans rfl), ((cq HB hw135_5).trans rfl)⟩ (fun hHeld => ?_)
       clear hK K
       refine norm_ (a' := ?_) ?_ ?_
       rotate_left
       ·show Act.put _ (some 36) _ = _
        simp only [Act.put, List.setIfInBounds_toArray, List.set_cons_zero, List.set_cons_succ, i64_w, i32_w]
        rfl
       refine pq 20 37 mkA8_21 ?_
       refine pq 21 38 mkA8_22 ?_
       refine pq 22 39 mkA8_23 ?_
       refine pq 23 40 mkA8_24 ?_
       refine tq 24 41 mkA8_25 ?_
       refine pq 25 42 mkA8_26 ?_
       refine pq 26 43 mkA8_27 ?_
       refine pq 27 44 mkA8_28 ?_
       refine pq 28 45 mkA8_29 ?_
       refine tq 29 46 mkA8_30 ?_
       refine pq 30 47 mkA8_31 ?_
       refine pq 31 48 mkA8_32 ?_
       refine pq 32 6 mkA8_33 ?_
       refine done_ (done_of HT_.out (by kernel_rfl)) ?_
       try go_wp2
       go_ret
       exact fn
      ·rw [if_neg c18] at H
       have c18b0 : (a2_1 == 0) = false := beq_eq_false_iff_ne.mpr c18
       have c18b1 : (a2_1 != 0) = true := bne_iff_ne.mpr c18
       obtain rfl := Option.some.inj H
       go_enter Tryz.func73, Tryz.ntmps73
       try go_wp2_with (first | ((with_reducible refine gD (N := 3) rfl ?_); refine bE ?hg (N := 3) ?hd (cs := #[.slice A0_0 lA.length c0_0, .slice A0_1 lB.length c0_1]) (t := 58) ?hr ?_; (case hd => rfl); (case hg => rfl); (case hr => first | (go_simp; done) | (go_simp; rfl)); intro gb131 hg w25 hbox hb; have n0_ := bes hb; have n1_ := Ae.mk (hbox); have n2_ := Ae.mk ((bez hg : w.heap.size ≤ gb131)); have n3_ := Ae.mk ((bez hg : w.heap.size ≤ gb131)); clear HB; have HB := n0_; have BK131 := n1_; have GW131 := n2_; have GE131 := n3_; clear n0_ n1_ n2_ n3_; clear hb hbox hg) | ((with_reducible refine gD (N := 5) rfl ?_); refine bE ?hg (N := 5) ?hd (cs := #[.int .i64 a2_0, .int .i64 a2_1, .int .i64 a2_2]) (t := 99) ?hr ?_; (case hd => rfl); (case hg => rfl); (case hr => first | (go_simp; done) | (go_simp; rfl)); intro gb132 hg w26 hbox hb; have n0_ := bb BK131 hb; have n1_ := bes hb; have n2_ := Ae.mk (hbox); have n3_ := Ae.mk ((bez hg : w.heap.size ≤ gb132)); have n4_ := Ae.mk ((bez hg : w.heap.size ≤ gb132)); have n5_ := Ae.mk ((by rw [hg]; exact Nat.ne_of_lt (blk_lt (g := gb131) (o := .cells #[.slice A0_0 lA.length c0_0, .slice A0_1 lB.length c0_1] 58 (0, 0)) bt) : gb131 ≠ gb132)); have n6_ := Ae.mk ((by rw [hg]; exact Nat.ne_of_gt (blk_lt (g := gb131) (o := .cells #[.slice A0_0 lA.length c0_0, .slice A0_1 lB.length c0_1] 58 (0, 0)) bt) : gb132 ≠ gb131)); clear BK131; clear HB; have BK131 := n0_; have HB := n1_; have BK132 := n2_; have GW132 := n3_; have GE132 := n4_; have NB131_132 := n5_; have NB132_131 := n6_; clear n0_ n1_ n2_ n3_ n4_ n5_ n6_; clear hb hbox hg; have hnb27 := NB132_131.out; have hnc27 := NB131_132.out; have hcz28_0 : w26.cell? ⟨gb132, 0, none⟩ = some (.int .i64 a2_0) := (bC BK132.out 0).trans rfl; have hcz28_1 : w26.cell? ⟨gb132, 1, none⟩ = some (.int .i64 a2_1) := (bC BK132.out 1).trans rfl; have hcz28_2 : w26.cell? ⟨gb132, 2, none⟩ = some (.int .i64 a2_2) := (bC BK132.out 2).trans rfl; have hfz28_0 := bF BK132.out 0; have hfz28_1 := bF BK132.out 1; have hfz28_2 := bF BK132.out 2))
       have n0_ := Ae.mk (blk_drew BK131.out)
       have n1_ := Ae.mk (blk_drew BK132.out)
       have n2_ := Ae.mk (below_drew1 HB.out)
       clear BK131
       clear BK132
       clear HB
       have BK131 := n0_
       have BK132 := n1_
       have HB := n2_
       clear n0_ n1_ n2_
       have p135 : 0 ≤ (a2_0 : Int) := of_decide_eq_true ass
       have q135 : a2_0 < (lA.length : Int) := of_decide_eq_true ass
       obtain ⟨ad135, A135_5, c135_5, e135, hx135_0, hx135_1, hx135_2, hx135_3, hx135_4, hx135_5, hl135_5, hi135_5⟩ := at_T30 HR0_0.out a2_0 p135 q135
       have hw135_5 := hx135_5
       have hw135_4 := hx135_4
       have hw135_3 := hx135_3
       have hw135_2 := hx135_2
       have hw135_1 := hx135_1
       have hw135_0 := hx135_0
       cases e135
       replace hx135_0 := cq HB hx135_0
       replace hx135_1 := cq HB hx135_1
       replace hx135_2 := cq HB hx135_2
       replace hx135_3 := cq HB hx135_3
       replace hx135_4 := cq HB hx135_4
       replace hx135_5 := cq HB hx135_5
       have HR135_5 := Ae.mk hi135_5
       have HC135_5 := Ae.mk hl135_5
       clear hi135_5 hl135_5
       replace p135 := eq_true p135
       replace q135 := eq_true q135
       refine start_ (n := 33) (S := fun w' => w'.cell? ⟨gb132, 0, none⟩ = some (.int .i64 a2_0) ∧ w'.cell? ⟨gb132, 1, none⟩ = some (.int .i64 a2_1) ∧ w'.cell? ⟨gb132, 2, none⟩ = some (.int .i64 a2_2) ∧ w'.cell? ⟨gb131, 0, none⟩ = some (.slice (some ad135) lA.length c0_0) ∧ w'.cell? ⟨gb131, 1, none⟩ = some (.slice A0_1 lB.length c0_1) ∧ w'.cell? (ad135.add ((a2_0).toNat * 6)) = some (.string ((R3 lA a2_0).f0)) ∧ w'.cell? ⟨(ad135.add ((a2_0).toNat * 6)).block, (ad135.add ((a2_0).toNat * 6)).off + 1, none⟩ = some (.int .i64 ((R3 lA a2_0).f1)) ∧ w'.cell? ⟨(ad135.add ((a2_0).toNat * 6)).block, (ad135.add ((a2_0).toNat * 6)).off + 2, none⟩ = some (.int .i64 ((R3 lA a2_0).f2)) ∧ w'.cell? ⟨(ad135.add ((a2_0).toNat * 6)).block, (ad135.add ((a2_0).toNat * 6)).off + 3, none⟩ = some (.int .i64 ((R3 lA a2_0).f3)) ∧ w'.cell? ⟨(ad135.add ((a2_0).toNat * 6)).block, (ad135.add ((a2_0).toNat * 6)).off + 4, none⟩ = some (.int .i64 ((R3 lA a2_0).f4)) ∧ w'.cell? ⟨(ad135.add ((a2_0).toNat * 6)).block, (ad135.add ((a2_0).toNat * 6)).off + 5, none⟩ = some (.slice A135_5 ((R3 lA a2_0).f5).length c135_5)) (ds := []) mkA8_0 (by kernel_rfl) rfl rfl ⟨(bC BK132.out 0).trans rfl, (bC BK132.out 1).trans rfl, (bC BK132.out 2).trans rfl, (bC BK131.out 0).trans rfl, (bC BK131.out 1).trans rfl, ((cq HB hw135_0).trans rfl), ((cq HB hw135_1).trans rfl), ((cq HB hw135_2).trans rfl), ((cq HB hw135_3).trans rfl), ((cq HB hw135_4).trans rfl), ((cq HB hw135_5).trans rfl)⟩ (fun hHeld => ?_); refine with_tabW cO.tab3 cO.bits3 (fun HT_ HW_ => ?_)
       generalize w26.drew = w29 at BK131 BK132 HB HR135_5 hx135_0 hx135_1 hx135_2 hx135_3 hx135_4 hx135_5 hHeld ⊢
       refine pq 0 17 mkA8_1 ?_
       refine pq 2 19 mkA8_2 ?_
       refine pq 3 20 mkA8_3 ?_
       refine tq 1 18 mkA8_4 ?_
       refine tq 4 21 mkA8_5 ?_
       refine pq 5 22 mkA8_6 ?_
       refine pq 6 23 mkA8_7 ?_
       refine one_ (i := 7) (N := some 24) mkA8_8 rfl rfl (one_of HT_.out (by kernel_rfl)) (by decide) (fun K hK => ?_)
       refine goes_ Tryz.func25 (by kernel_rfl) rfl #[.int .i64 a2_0, .int .i64 (wrap64 ((lA.length : Int) - 1))] (by rfl) rfl rfl am ?_
       with_reducible refine (code_inside.calls a2_0 (wrap64 ((lA.length : Int) - 1)) true _ A12.out).mono ?_
       rintro e w' ⟨rfl, ⟨nd, rfl⟩⟩
       refine ⟨_, rfl, ?_⟩
       refine hK.out _ _ ⟨(bC BK132.out 0).trans rfl, (bC BK132.out 1).trans rfl, (bC BK132.out 2).trans rfl, (bC BK131.out 0).trans rfl, (bC BK131.out 1).trans rfl, ((cq HB hw135_0).trans rfl), ((cq HB hw135_1).trans rfl), ((cq HB hw135_2).trans rfl), ((cq HB hw135_3).trans rfl), ((cq HB hw135_4).trans rfl), ((cq HB hw135_5).trans rfl)⟩ (fun hHeld => ?_)
       clear hK K
       refine norm_ (a' := ?_) ?_ ?_
       rotate_left
       ·show Act.put _ (some 24) _ = _
        simp only [Act.put, List.setIfInBounds_toArray, List.set_cons_zero, List.set_cons_succ, i64_w, i32_w]
        rfl
       refine pq 8 25 mkA8_9 ?_
       refine pq 9 26 mkA8_10 ?_
       refine pq 10 27 mkA8_11 ?_
       refine pq 12 29 mkA8_12 ?_
       refine pq 18 35 mkA8_13 ?_
       refine tq 11 28 mkA8_14 ?_
       refine tq 13 30 mkA8_15 ?_
       refine pq 14 31 mkA8_16 ?_
       refine pq 15 32 mkA8_17 ?_
       refine tq 16 33 mkA8_18 ?_
       refine tq 17 34 mkA8_19 ?_
       refine one_ (i := 19) (N := some 36) mkA8_20 rfl rfl (one_of HT_.out (by kernel_rfl)) (by decide) (fun K hK => ?_)
       refine goes_ Tryz.func94 (by kernel_rfl) rfl #[.agg #[.slice (some ad135) lA.length c0_0, .slice A0_1 lB.length c0_1], .int .i64 a1] (by rfl) rfl rfl am ?_
       with_reducible refine (code_program_home.calls _ _ lA _ _ lB a1 t136 _ ?side1 ?side2 ?side3 ?side4 A16.out).mono ?_
       (case side1 => repeat (first | exact (Kd.C_below HR0_0.out bel) | (with_reducible refine Kd.C_alloc ?_ _) | (with_reducible refine Kd.C_drewN ?_ _) | (with_reducible refine Kd.C_drew ?_)))
       (case side2 => exact HC0_0.out)
       (case side3 => repeat (first | exact (Kd.C_below HR0_1.out bel) | (with_reducible refine Kd.C_alloc ?_ _) | (with_reducible refine Kd.C_drewN ?_ _) | (with_reducible refine Kd.C_drew ?_)))
       (case side4 => exact HC0_1.out)
       rintro e w30 ⟨rfl, hb⟩
       refine ⟨_, rfl, ?_⟩
       have n0_ := bb BK131 hb
       have n1_ := bb BK132 hb
       have n2_ := bes hb
       clear BK131
       clear BK132
       clear HB
       have BK131 := n0_
       have BK132 := n1_
       have HB := n2_
       clear n0_ n1_ n2_
       refine hK.out _ _ ⟨(bC BK132.out 0).trans rfl, (bC BK132.out 1).trans rfl, (bC BK132.out 2).trans rfl, (bC BK131.out 0).trans rfl, (bC BK131.out 1).trans rfl, ((cq HB hw135_0).trans rfl), ((cq HB hw135_1).trans rfl), ((cq HB hw135_2).trans rfl), ((cq HB hw135_3).trans rfl), ((cq HB hw135_4).trans rfl), ((cq HB hw135_5).trans rfl)⟩ (fun hHeld => ?_)
       clear hK K
       refine norm_ (a' := ?_) ?_ ?_
       rotate_left
       ·show Act.put _ (some 36) _ = _
        simp only [Act.put, List.setIfInBounds_toArray, List.set_cons_zero, List.set_cons_succ, i64_w, i32_w]
        rfl
       refine pq 20 37 mkA8_21 ?_
       refine pq 21 38 mkA8_22 ?_
       refine pq 22 39 mkA8_23 ?_
       refine pq 23 40 mkA8_24 ?_
       refine tq 24 41 mkA8_25 ?_
       refine pq 25 42 mkA8_26 ?_
       refine pq 26 43 mkA8_27 ?_
       refine pq 27 44 mkA8_28 ?_
       refine uq 28 45 mkA8_29 ?_
       refine uq 29 46 mkA8_30 ?_
       refine uq 30 47 mkA8_31 ?_
       refine pq 31 48 mkA8_32 ?_
       refine pq 32 6 mkA8_33 ?_
       refine done_ (done_of HT_.out (by kernel_rfl)) ?_
       try go_wp2
       go_ret
       exact fn
     ·rw [if_neg c17] at H
      have c17b0 : (((R3 lA a2_0).f1) == t136) = false := beq_eq_false_iff_ne.mpr c17
      have c17b1 : (((R3 lA a2_0).f1) != t136) = true := bne_iff_ne.mpr c17
      obtain rfl := Option.some.inj H
      go_enter Tryz.func73, Tryz.ntmps73
      try go_wp2_with (first | ((with_reducible refine gD (N := 3) rfl ?_); refine bE ?hg (N := 3) ?hd (cs := #[.slice A0_0 lA.length c0_0, .slice A0_1 lB.length c0_1]) (t := 58) ?hr ?_; (case hd => rfl); (case hg => rfl); (case hr => first | (go_simp; done) | (go_simp; rfl)); intro gb131 hg w31 hbox hb; have n0_ := bes hb; have n1_ := Ae.mk (hbox); have n2_ := Ae.mk ((bez hg : w.heap.size ≤ gb131)); have n3_ := Ae.mk ((bez hg : w.heap.size ≤ gb131)); clear HB; have HB := n0_; have BK131 := n1_; have GW131 := n2_; have GE131 := n3_; clear n0_ n1_ n2_ n3_; clear hb hbox hg) | ((with_reducible refine gD (N := 5) rfl ?_); refine bE ?hg (N := 5) ?hd (cs := #[.int .i64 a2_0, .int .i64 a2_1, .int .i64 a2_2]) (t := 99) ?hr ?_; (case hd => rfl); (case hg => rfl); (case hr => first | (go_simp; done) | (go_simp; rfl)); intro gb132 hg w32 hbox hb; have n0_ := bb BK131 hb; have n1_ := bes hb; have n2_ := Ae.mk (hbox); have n3_ := Ae.mk ((bez hg : w.heap.size ≤ gb132)); have n4_ := Ae.mk ((bez hg : w.heap.size ≤ gb132)); have n5_ := Ae.mk ((by rw [hg]; exact Nat.ne_of_lt (blk_lt (g := gb131) (o := .cells #[.slice A0_0 lA.length c0_0, .slice A0_1 lB.length c0_1] 58 (0, 0)) bt) : gb131 ≠ gb132)); have n6_ := Ae.mk ((by rw [hg]; exact Nat.ne_of_gt (blk_lt (g := gb131) (o := .cells #[.slice A0_0 lA.length c0_0, .slice A0_1 lB.length c0_1] 58 (0, 0)) bt) : gb132 ≠ gb131)); clear BK131; clear HB; have BK131 := n0_; have HB := n1_; have BK132 := n2_; have GW132 := n3_; have GE132 := n4_; have NB131_132 := n5_; have NB132_131 := n6_; clear n0_ n1_ n2_ n3_ n4_ n5_ n6_; clear hb hbox hg; have hnb33 := NB132_131.out; have hnc33 := NB131_132.out; have hcz34_0 : w32.cell? ⟨gb132, 0, none⟩ = some (.int .i64 a2_0) := (bC BK132.out 0).trans rfl; have hcz34_1 : w32.cell? ⟨gb132, 1, none⟩ = some (.int .i64 a2_1) := (bC BK132.out 1).trans rfl; have hcz34_2 : w32.cell? ⟨gb132, 2, none⟩ = some (.int .i64 a2_2) := (bC BK132.out 2).trans rfl; have hfz34_0 := bF BK132.out 0; have hfz34_1 := bF BK132.out 1; have hfz34_2 := bF BK132.out 2))
      have n0_ := Ae.mk (blk_drew BK131.out)
      have n1_ := Ae.mk (blk_drew BK132.out)
      have n2_ := Ae.mk (below_drew1 HB.out)
      clear BK131
      clear BK132
      clear HB
      have BK131 := n0_
      have BK132 := n1_
      have HB := n2_
      clear n0_ n1_ n2_
      have p135 : 0 ≤ (a2_0 : Int) := of_decide_eq_true ass
      have q135 : a2_0 < (lA.length : Int) := of_decide_eq_true ass
      obtain ⟨ad135, A135_5, c135_5, e135, hx135_0, hx135_1, hx135_2, hx135_3, hx135_4, hx135_5, hl135_5, hi135_5⟩ := at_T30 HR0_0.out a2_0 p135 q135
      have hw135_5 := hx135_5
      have hw135_4 := hx135_4
      have hw135_3 := hx135_3
      have hw135_2 := hx135_2
      have hw135_1 := hx135_1
      have hw135_0 := hx135_0
      cases e135
      replace hx135_0 := cq HB hx135_0
      replace hx135_1 := cq HB hx135_1
      replace hx135_2 := cq HB hx135_2
      replace hx135_3 := cq HB hx135_3
      replace hx135_4 := cq HB hx135_4
      replace hx135_5 := cq HB hx135_5
      have HR135_5 := Ae.mk hi135_5
      have HC135_5 := Ae.mk hl135_5
      clear hi135_5 hl135_5
      replace p135 := eq_true p135
      replace q135 := eq_true q135
      refine start_ (n := 33) (S := fun w' => w'.cell? ⟨gb132, 0, none⟩ = some (.int .i64 a2_0) ∧ w'.cell? ⟨gb132, 1, none⟩ = some (.int .i64 a2_1) ∧ w'.cell? ⟨gb132, 2, none⟩ = some (.int .i64 a2_2) ∧ w'.cell? ⟨gb131, 0, none⟩ = some (.slice (some ad135) lA.length c0_0) ∧ w'.cell? ⟨gb131, 1, none⟩ = some (.slice A0_1 lB.length c0_1) ∧ w'.cell? (ad135.add ((a2_0).toNat * 6)) = some (.string ((R3 lA a2_0).f0)) ∧ w'.cell? ⟨(ad135.add ((a2_0).toNat * 6)).block, (ad135.add ((a2_0).toNat * 6)).off + 1, none⟩ = some (.int .i64 ((R3 lA a2_0).f1)) ∧ w'.cell? ⟨(ad135.add ((a2_0).toNat * 6)).block, (ad135.add ((a2_0).toNat * 6)).off + 2, none⟩ = some (.int .i64 ((R3 lA a2_0).f2)) ∧ w'.cell? ⟨(ad135.add ((a2_0).toNat * 6)).block, (ad135.add ((a2_0).toNat * 6)).off + 3, none⟩ = some (.int .i64 ((R3 lA a2_0).f3)) ∧ w'.cell? ⟨(ad135.add ((a2_0).toNat * 6)).block, (ad135.add ((a2_0).toNat * 6)).off + 4, none⟩ = some (.int .i64 ((R3 lA a2_0).f4)) ∧ w'.cell? ⟨(ad135.add ((a2_0).toNat * 6)).block, (ad135.add ((a2_0).toNat * 6)).off + 5, none⟩ = some (.slice A135_5 ((R3 lA a2_0).f5).length c135_5)) (ds := []) mkA8_0 (by kernel_rfl) rfl rfl ⟨(bC BK132.out 0).trans rfl, (bC BK132.out 1).trans rfl, (bC BK132.out 2).trans rfl, (bC BK131.out 0).trans rfl, (bC BK131.out 1).trans rfl, ((cq HB hw135_0).trans rfl), ((cq HB hw135_1).trans rfl), ((cq HB hw135_2).trans rfl), ((cq HB hw135_3).trans rfl), ((cq HB hw135_4).trans rfl), ((cq HB hw135_5).trans rfl)⟩ (fun hHeld => ?_); refine with_tabW cO.tab3 cO.bits3 (fun HT_ HW_ => ?_)
      generalize w32.drew = w35 at BK131 BK132 HB HR135_5 hx135_0 hx135_1 hx135_2 hx135_3 hx135_4 hx135_5 hHeld ⊢
      refine pq 0 17 mkA8_1 ?_
      refine pq 2 19 mkA8_2 ?_
      refine pq 3 20 mkA8_3 ?_
      refine tq 1 18 mkA8_4 ?_
      refine tq 4 21 mkA8_5 ?_
      refine pq 5 22 mkA8_6 ?_
      refine pq 6 23 mkA8_7 ?_
      refine one_ (i := 7) (N := some 24) mkA8_8 rfl rfl (one_of HT_.out (by kernel_rfl)) (by decide) (fun K hK => ?_)
      refine goes_ Tryz.func25 (by kernel_rfl) rfl #[.int .i64 a2_0, .int .i64 (wrap64 ((lA.length : Int) - 1))] (by rfl) rfl rfl am ?_
      with_reducible refine (code_inside.calls a2_0 (wrap64 ((lA.length : Int) - 1)) true _ A12.out).mono ?_
      rintro e w' ⟨rfl, ⟨nd, rfl⟩⟩
      refine ⟨_, rfl, ?_⟩
      refine hK.out _ _ ⟨(bC BK132.out 0).trans rfl, (bC BK132.out 1).trans rfl, (bC BK132.out 2).trans rfl, (bC BK131.out 0).trans rfl, (bC BK131.out 1).trans rfl, ((cq HB hw135_0).trans rfl), ((cq HB hw135_1).trans rfl), ((cq HB hw135_2).trans rfl), ((cq HB hw135_3).trans rfl), ((cq HB hw135_4).trans rfl), ((cq HB hw135_5).trans rfl)⟩ (fun hHeld => ?_)
      clear hK K
      refine norm_ (a' := ?_) ?_ ?_
      rotate_left
      ·show Act.put _ (some 24) _ = _
       simp only [Act.put, List.setIfInBounds_toArray, List.set_cons_zero, List.set_cons_succ, i64_w, i32_w]
       rfl
      refine pq 8 25 mkA8_9 ?_
      refine pq 9 26 mkA8_10 ?_
      refine pq 10 27 mkA8_11 ?_
      refine pq 12 29 mkA8_12 ?_
      refine pq 18 35 mkA8_13 ?_
      refine tq 11 28 mkA8_14 ?_
      refine tq 13 30 mkA8_15 ?_
      refine pq 14 31 mkA8_16 ?_
      refine pq 15 32 mkA8_17 ?_
      refine tq 16 33 mkA8_18 ?_
      refine tq 17 34 mkA8_19 ?_
      refine one_ (i := 19) (N := some 36) mkA8_20 rfl rfl (one_of HT_.out (by kernel_rfl)) (by decide) (fun K hK => ?_)
      refine goes_ Tryz.func94 (by kernel_rfl) rfl #[.agg #[.slice (some ad135) lA.length c0_0, .slice A0_1 lB.length c0_1], .int .i64 a1] (by rfl) rfl rfl am ?_
      with_reducible refine (code_program_home.calls _ _ lA _ _ lB a1 t136 _ ?side1 ?side2 ?side3 ?side4 A16.out).mono ?_
      (case side1 => repeat (first | exact (Kd.C_below HR0_0.out bel) | (with_reducible refine Kd.C_alloc ?_ _) | (with_reducible refine Kd.C_drewN ?_ _) | (with_reducible refine Kd.C_drew ?_)))
      (case side2 => exact HC0_0.out)
      (case side3 => repeat (first | exact (Kd.C_below HR0_1.out bel) | (with_reducible refine Kd.C_alloc ?_ _) | (with_reducible refine Kd.C_drewN ?_ _) | (with_reducible refine Kd.C_drew ?_)))
      (case side4 => exact HC0_1.out)
      rintro e w36 ⟨rfl, hb⟩
      refine ⟨_, rfl, ?_⟩
      have n0_ := bb BK131 hb
      have n1_ := bb BK132 hb
      have n2_ := bes hb
      clear BK131
      clear BK132
      clear HB
      have BK131 := n0_
      have BK132 := n1_
      have HB := n2_
      clear n0_ n1_ n2_
      refine hK.out _ _ ⟨(bC BK132.out 0).trans rfl, (bC BK132.out 1).trans rfl, (bC BK132.out 2).trans rfl, (bC BK131.out 0).trans rfl, (bC BK131.out 1).trans rfl, ((cq HB hw135_0).trans rfl), ((cq HB hw135_1).trans rfl), ((cq HB hw135_2).trans rfl), ((cq HB hw135_3).trans rfl), ((cq HB hw135_4).trans rfl), ((cq HB hw135_5).trans rfl)⟩ (fun hHeld => ?_)
      clear hK K
      refine norm_ (a' := ?_) ?_ ?_
      rotate_left
      ·show Act.put _ (some 36) _ = _
       simp only [Act.put, List.setIfInBounds_toArray, List.set_cons_zero, List.set_cons_succ, i64_w, i32_w]
       rfl
      refine pq 20 37 mkA8_21 ?_
      refine pq 21 38 mkA8_22 ?_
      refine pq 22 39 mkA8_23 ?_
      refine uq 23 40 mkA8_24 ?_
      refine uq 24 41 mkA8_25 ?_
      refine uq 25 42 mkA8_26 ?_
      refine pq 26 43 mkA8_27 ?_
      refine pq 27 44 mkA8_28 ?_
      refine uq 28 45 mkA8_29 ?_
      refine uq 29 46 mkA8_30 ?_
      refine uq 30 47 mkA8_31 ?_
      refine pq 31 48 mkA8_32 ?_
      refine pq 32 6 mkA8_33 ?_
      refine done_ (done_of HT_.out (by kernel_rfl)) ?_
      try go_wp2
      go_ret
      exact fn
    ·rw [if_neg c15] at H
     exact absurd H (by simp)
   ·rw [if_neg c14] at H
    exact absurd H (by simp)
  ·replace c13 := Bool.eq_false_iff.mpr c13
   subst c13
   have H1 : (some false) = some r := by rw [if_neg (show ¬ (false = true) by decide)] at H; exact H
   clear H
   have H := H1
   clear H1
   obtain rfl := Option.some.inj H
   go_enter Tryz.func73, Tryz.ntmps73
   try go_wp2_with (first | ((with_reducible refine gD (N := 3) rfl ?_); refine bE ?hg (N := 3) ?hd (cs := #[.slice A0_0 lA.length c0_0, .slice A0_1 lB.length c0_1]) (t := 58) ?hr ?_; (case hd => rfl); (case hg => rfl); (case hr => first | (go_simp; done) | (go_simp; rfl)); intro gb131 hg w37 hbox hb; have n0_ := bes hb; have n1_ := Ae.mk (hbox); have n2_ := Ae.mk ((bez hg : w.heap.size ≤ gb131)); have n3_ := Ae.mk ((bez hg : w.heap.size ≤ gb131)); clear HB; have HB := n0_; have BK131 := n1_; have GW131 := n2_; have GE131 := n3_; clear n0_ n1_ n2_ n3_; clear hb hbox hg) | ((with_reducible refine gD (N := 5) rfl ?_); refine bE ?hg (N := 5) ?hd (cs := #[.int .i64 a2_0, .int .i64 a2_1, .int .i64 a2_2]) (t := 99) ?hr ?_; (case hd => rfl); (case hg => rfl); (case hr => first | (go_simp; done) | (go_simp; rfl)); intro gb132 hg w38 hbox hb; have n0_ := bb BK131 hb; have n1_ := bes hb; have n2_ := Ae.mk (hbox); have n3_ := Ae.mk ((bez hg : w.heap.size ≤ gb132)); have n4_ := Ae.mk ((bez hg : w.heap.size ≤ gb132)); have n5_ := Ae.mk ((by rw [hg]; exact Nat.ne_of_lt (blk_lt (g := gb131) (o := .cells #[.slice A0_0 lA.length c0_0, .slice A0_1 lB.length c0_1] 58 (0, 0)) bt) : gb131 ≠ gb132)); have n6_ := Ae.mk ((by rw [hg]; exact Nat.ne_of_gt (blk_lt (g := gb131) (o := .cells #[.slice A0_0 lA.length c0_0, .slice A0_1 lB.length c0_1] 58 (0, 0)) bt) : gb132 ≠ gb131)); clear BK131; clear HB; have BK131 := n0_; have HB := n1_; have BK132 := n2_; have GW132 := n3_; have GE132 := n4_; have NB131_132 := n5_; have NB132_131 := n6_; clear n0_ n1_ n2_ n3_ n4_ n5_ n6_; clear hb hbox hg; have hnb39 := NB132_131.out; have hnc39 := NB131_132.out; have hcz40_0 : w38.cell? ⟨gb132, 0, none⟩ = some (.int .i64 a2_0) := (bC BK132.out 0).trans rfl; have hcz40_1 : w38.cell? ⟨gb132, 1, none⟩ = some (.int .i64 a2_1) := (bC BK132.out 1).trans rfl; have hcz40_2 : w38.cell? ⟨gb132, 2, none⟩ = some (.int .i64 a2_2) := (bC BK132.out 2).trans rfl; have hfz40_0 := bF BK132.out 0; have hfz40_1 := bF BK132.out 1; have hfz40_2 := bF BK132.out 2))
   have n0_ := Ae.mk (blk_drew BK131.out)
   have n1_ := Ae.mk (blk_drew BK132.out)
   have n2_ := Ae.mk (below_drew1 HB.out)
   clear BK131
   clear BK132
   clear HB
   have BK131 := n0_
   have BK132 := n1_
   have HB := n2_
   clear n0_ n1_ n2_
   refine start_ (n := 33) (S := fun w' => w'.cell? ⟨gb132, 0, none⟩ = some (.int .i64 a2_0) ∧ w'.cell? ⟨gb132, 1, none⟩ = some (.int .i64 a2_1) ∧ w'.cell? ⟨gb132, 2, none⟩ = some (.int .i64 a2_2) ∧ w'.cell? ⟨gb131, 0, none⟩ = some (.slice A0_0 lA.length c0_0) ∧ w'.cell? ⟨gb131, 1, none⟩ = some (.slice A0_1 lB.length c0_1)) (ds := []) mkA8_0 (by kernel_rfl) rfl rfl ⟨(bC BK132.out 0).trans rfl, (bC BK132.out 1).trans rfl, (bC BK132.out 2).trans rfl, (bC BK131.out 0).trans rfl, (bC BK131.out 1).trans rfl⟩ (fun hHeld => ?_); refine with_tabW cO.tab3 cO.bits3 (fun HT_ HW_ => ?_)
   generalize w38.drew = w41 at BK131 BK132 HB hHeld ⊢
   refine pq 0 17 mkA8_1 ?_
   refine pq 2 19 mkA8_2 ?_
   refine pq 3 20 mkA8_3 ?_
   refine tq 1 18 mkA8_4 ?_
   refine tq 4 21 mkA8_5 ?_
   refine pq 5 22 mkA8_6 ?_
   refine pq 6 23 mkA8_7 ?_
   refine one_ (i := 7) (N := some 24) mkA8_8 rfl rfl (one_of HT_.out (by kernel_rfl)) (by decide) (fun K hK => ?_)
   refine goes_ Tryz.func25 (by kernel_rfl) rfl #[.int .i64 a2_0, .int .i64 (wrap64 ((lA.length : Int) - 1))] (by rfl) rfl rfl am ?_
   with_reducible refine (code_inside.calls a2_0 (wrap64 ((lA.length : Int) - 1)) false _ A12.out).mono ?_
   rintro e w' ⟨rfl, ⟨nd, rfl⟩⟩
   refine ⟨_, rfl, ?_⟩
   refine hK.out _ _ ⟨(bC BK132.out 0).trans rfl, (bC BK132.out 1).trans rfl, (bC BK132.out 2).trans rfl, (bC BK131.out 0).trans rfl, (bC BK131.out 1).trans rfl⟩ (fun hHeld => ?_)
   clear hK K
   refine norm_ (a' := ?_) ?_ ?_
   rotate_left
   ·show Act.put _ (some 24) _ = _
    simp only [Act.put, List.setIfInBounds_toArray, List.set_cons_zero, List.set_cons_succ, i64_w, i32_w]
    rfl
   refine pq 8 25 mkA8_9 ?_
   refine uq 9 26 mkA8_10 ?_
   refine uq 10 27 mkA8_11 ?_
   refine uq 11 28 mkA8_34 ?_
   refine uq 12 29 mkA8_35 ?_
   refine uq 13 30 mkA8_36 ?_
   refine uq 14 31 mkA8_37 ?_
   refine uq 15 32 mkA8_38 ?_
   refine uq 16 33 mkA8_39 ?_
   refine uq 17 34 mkA8_40 ?_
   refine uq 18 35 mkA8_19 ?_
   refine uq 19 36 mkA8_20 ?_
   refine uq 20 37 mkA8_21 ?_
   refine pq 21 38 mkA8_22 ?_
   refine pq 22 39 mkA8_23 ?_
   refine uq 23 40 mkA8_24 ?_
   refine uq 24 41 mkA8_25 ?_
   refine uq 25 42 mkA8_26 ?_
   refine pq 26 43 mkA8_27 ?_
   refine pq 27 44 mkA8_28 ?_
   refine uq 28 45 mkA8_29 ?_
   refine uq 29 46 mkA8_30 ?_
   refine uq 30 47 mkA8_31 ?_
   refine pq 31 48 mkA8_32 ?_
   refine pq 32 6 mkA8_33 ?_
   refine done_ (done_of HT_.out (by kernel_rfl)) ?_
   try go_wp2
   go_ret
   exact fn
end Go.Proofs.YtlbcnacfgickcaaGreatDoor.A
