/- Printed by this session's own copy of the printer (wip/tools/mkprint.py): functions, and that the Go code answers as they do. -/
import Derived.Test.YtlbcnacfgickcaaGreatDoorShort
import Derived.Test.YtlbcnacfgickcaaGreatDoorA0
import Derived.Test.YtlbcnacfgickcaaGreatDoorA1
import Derived.Test.YtlbcnacfgickcaaGreatDoorA6
namespace Go.Proofs.YtlbcnacfgickcaaGreatDoor.A
open Go.RowKit Go.Proofs.YtlbcnacfgickcaaGreatDoorW.PrintWords Go.Proofs.YtlbcnacfgickcaaGreatDoorW.PrintLast Go.Proofs.YtlbcnacfgickcaaGreatDoorW.PrintMore Go.Proofs.YtlbcnacfgickcaaGreatDoorW.Short
attribute [local go_sem] max2_int min2_int max_two min_two max_three min_three max_four min_four
set_option linter.unusedVariables false
set_option linter.unusedSimpArgs false
def code_program_param.f (k : Nat) (lA : List (S30)) (lB : List (S36)) (a1 : Int) (a2 : Int) (a3 : Int) : Option (Bool) := (oU.f k lA lB a1 a2).bind fun t128 => (if t128 ≥ 0 then (if 0 ≤ t128 then (if t128 < (lA.length : Int) then ((code_inside.f a3 (wrap64 (((R3 lA t128).f3) - 1))).bind fun t130 => (some t130)) else (none)) else (none)) else (some false))
set_option maxHeartbeats 8000000 in
set_option maxRecDepth 100000 in
theorem code_program_param.calls (k : Nat) (A0_0 : Option Addr) (c0_0 : Nat) (lA : List (S30)) (A0_1 : Option Addr) (c0_1 : Nat) (lB : List (S36)) (a1 : Int) (a2 : Int) (a3 : Int) (r : Bool) (w : World) (hr0_0 : Kd.C k30 w A0_0 lA.length lA) (hc0_0 : lA.length ≤ c0_0) (hr0_1 : Kd.C k36 w A0_1 lB.length lB) (hc0_1 : lB.length ≤ c0_1) (h : code_program_param.f k lA lB a1 a2 a3 = some r) :
  Calls Tryz.prog 44 #[.agg #[.slice A0_0 lA.length c0_0, .slice A0_1 lB.length c0_1], .int .i64 a1, .int .i64 a2, .int .i64 a3] w fun e w' => e = .returned (.bool r) ∧ Below w.heap.size w w' := by
 have hu58 := Tryz.underlying58
 have HR0_0 := Ae.mk hr0_0
 have HC0_0 := Ae.mk hc0_0
 clear hr0_0 hc0_0
 have HR0_1 := Ae.mk hr0_1
 have HC0_1 := Ae.mk hc0_1
 clear hr0_1 hc0_1
 have HB := Ae.mk (Below.refl w.heap.size w)
 have H : ((oU.f k lA lB a1 a2).bind fun t128 => (if t128 ≥ 0 then (if 0 ≤ t128 then (if t128 < (lA.length : Int) then ((code_inside.f a3 (wrap64 (((R3 lA t128).f3) - 1))).bind fun t130 => (some t130)) else (none)) else (none)) else (some false))) = some r := h
 clear h
 replace H := Option.bind_eq_some_iff.mp H
 obtain ⟨t128, A50, H⟩ := H
 replace H : (if t128 ≥ 0 then (if 0 ≤ t128 then (if t128 < (lA.length : Int) then ((code_inside.f a3 (wrap64 (((R3 lA t128).f3) - 1))).bind fun t130 => (some t130)) else (none)) else (none)) else (some false)) = some r := H
 have A5 := Ae.mk A50
 clear A50
 by_cases c6 : t128 ≥ 0
 ·rw [if_pos c6] at H
  have c6b0 : decide (0 ≤ t128) = true := decide_eq_true c6
  clear c6
  by_cases c7 : 0 ≤ t128
  ·rw [if_pos c7] at H
   have c7b0 : decide (0 ≤ t128) = true := decide_eq_true c7
   clear c7
   by_cases c8 : t128 < (lA.length : Int)
   ·rw [if_pos c8] at H
    have c8b0 : decide (t128 < (lA.length : Int)) = true := decide_eq_true c8
    clear c8
    replace H := Option.bind_eq_some_iff.mp H
    obtain ⟨t130, A90, H⟩ := H
    replace H : (some t130) = some r := H
    have A9 := Ae.mk A90
    clear A90
    obtain rfl := Option.some.inj H
    go_enter Tryz.func44, Tryz.ntmps44
    go_wp2_with (first | ((with_reducible refine gD (N := 4) rfl ?_); refine bE ?hg (N := 4) ?hd (cs := #[.slice A0_0 lA.length c0_0, .slice A0_1 lB.length c0_1]) (t := 58) ?hr ?_; (case hd => rfl); (case hg => rfl); (case hr => first | (go_simp; done) | (go_simp; rfl)); intro gb127 hg w10 hbox hb; have n0_ := bes hb; have n1_ := Ae.mk (hbox); have n2_ := Ae.mk ((bez hg : w.heap.size ≤ gb127)); have n3_ := Ae.mk ((bez hg : w.heap.size ≤ gb127)); clear HB; have HB := n0_; have BK127 := n1_; have GW127 := n2_; have GE127 := n3_; clear n0_ n1_ n2_ n3_; clear hb hbox hg; have hcz11_0 : w10.cell? ⟨gb127, 0, none⟩ = some (.slice A0_0 lA.length c0_0) := (bC BK127.out 0).trans rfl; have hcz11_1 : w10.cell? ⟨gb127, 1, none⟩ = some (.slice A0_1 lB.length c0_1) := (bC BK127.out 1).trans rfl; have hfz11_0 := bF BK127.out 0; have hfz11_1 := bF BK127.out 1) | ((with_reducible refine gate_callee (f := 72) rfl ?_); refine goesL_ (some 13) rfl rfl Tryz.func72 (by kernel_rfl) rfl #[.agg #[.slice A0_0 lA.length c0_0, .slice A0_1 lB.length c0_1], .int .i64 a1, .int .i64 a2] rfl am ?_; (with_reducible refine (oU.calls k _ _ lA _ _ lB a1 a2 t128 _ ?side1 ?side2 ?side3 ?side4 A5.out).mono ?_); (case side1 => exact cb HR0_0); (case side2 => exact HC0_0.out); (case side3 => exact cb HR0_1); (case side4 => exact HC0_1.out); rintro e w12 ⟨rfl, hb⟩; refine ⟨_, rfl, ?_⟩; have n0_ := bb BK127 hb; have n1_ := bes hb; clear BK127; clear HB; have BK127 := n0_; have HB := n1_; clear n0_ n1_; (try clear hb); (try clear hb2); (try clear hk); (try clear hi); have hcz13_0 : w12.cell? ⟨gb127, 0, none⟩ = some (.slice A0_0 lA.length c0_0) := (bC BK127.out 0).trans rfl; have hcz13_1 : w12.cell? ⟨gb127, 1, none⟩ = some (.slice A0_1 lB.length c0_1) := (bC BK127.out 1).trans rfl; have hfz13_0 := bF BK127.out 0; have hfz13_1 := bF BK127.out 1; have p129 : 0 ≤ (t128 : Int) := of_decide_eq_true ass; have q129 : t128 < (lA.length : Int) := of_decide_eq_true ass; obtain ⟨ad129, A129_5, c129_5, e129, hx129_0, hx129_1, hx129_2, hx129_3, hx129_4, hx129_5, hl129_5, hi129_5⟩ := at_T30 HR0_0.out t128 p129 q129; cases e129; replace hx129_0 := cq HB hx129_0; replace hx129_1 := cq HB hx129_1; replace hx129_2 := cq HB hx129_2; replace hx129_3 := cq HB hx129_3; replace hx129_4 := cq HB hx129_4; replace hx129_5 := cq HB hx129_5; have HR129_5 := Ae.mk hi129_5; have HC129_5 := Ae.mk hl129_5; clear hi129_5 hl129_5; replace p129 := eq_true p129; replace q129 := eq_true q129) | (go_at_call 25; (with_reducible refine (code_inside.calls a3 (wrap64 (((R3 lA t128).f3) - 1)) t130 _ A9.out).mono ?_); rintro e w' ⟨rfl, ⟨nd, rfl⟩⟩))
    go_ret
    exact fn
   ·rw [if_neg c8] at H
    exact absurd H (by simp)
  ·rw [if_neg c7] at H
   exact absurd H (by simp)
 ·rw [if_neg c6] at H
  have c6b0 : decide (0 ≤ t128) = false := decide_eq_false c6
  clear c6
  obtain rfl := Option.some.inj H
  go_enter Tryz.func44, Tryz.ntmps44
  go_wp2_with (first | ((with_reducible refine gD (N := 4) rfl ?_); refine bE ?hg (N := 4) ?hd (cs := #[.slice A0_0 lA.length c0_0, .slice A0_1 lB.length c0_1]) (t := 58) ?hr ?_; (case hd => rfl); (case hg => rfl); (case hr => first | (go_simp; done) | (go_simp; rfl)); intro gb127 hg w14 hbox hb; have n0_ := bes hb; have n1_ := Ae.mk (hbox); have n2_ := Ae.mk ((bez hg : w.heap.size ≤ gb127)); have n3_ := Ae.mk ((bez hg : w.heap.size ≤ gb127)); clear HB; have HB := n0_; have BK127 := n1_; have GW127 := n2_; have GE127 := n3_; clear n0_ n1_ n2_ n3_; clear hb hbox hg; have hcz15_0 : w14.cell? ⟨gb127, 0, none⟩ = some (.slice A0_0 lA.length c0_0) := (bC BK127.out 0).trans rfl; have hcz15_1 : w14.cell? ⟨gb127, 1, none⟩ = some (.slice A0_1 lB.length c0_1) := (bC BK127.out 1).trans rfl; have hfz15_0 := bF BK127.out 0; have hfz15_1 := bF BK127.out 1) | ((with_reducible refine gate_callee (f := 72) rfl ?_); refine goesL_ (some 13) rfl rfl Tryz.func72 (by kernel_rfl) rfl #[.agg #[.slice A0_0 lA.length c0_0, .slice A0_1 lB.length c0_1], .int .i64 a1, .int .i64 a2] rfl am ?_; (with_reducible refine (oU.calls k _ _ lA _ _ lB a1 a2 t128 _ ?side1 ?side2 ?side3 ?side4 A5.out).mono ?_); (case side1 => exact cb HR0_0); (case side2 => exact HC0_0.out); (case side3 => exact cb HR0_1); (case side4 => exact HC0_1.out); rintro e w16 ⟨rfl, hb⟩; refine ⟨_, rfl, ?_⟩; have n0_ := bb BK127 hb; have n1_ := bes hb; clear BK127; clear HB; have BK127 := n0_; have HB := n1_; clear n0_ n1_; (try clear hb); (try clear hb2); (try clear hk); (try clear hi)))
  go_ret
  exact fn
end Go.Proofs.YtlbcnacfgickcaaGreatDoor.A
