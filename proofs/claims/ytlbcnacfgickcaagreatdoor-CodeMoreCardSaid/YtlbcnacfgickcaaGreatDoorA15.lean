/- Printed by this session's own copy of the printer (wip/tools/mkprint.py): functions, and that the Go code answers as they do. -/
import Derived.Test.YtlbcnacfgickcaaGreatDoorShort
import Derived.Test.YtlbcnacfgickcaaGreatDoorA0
import Derived.Test.YtlbcnacfgickcaaGreatDoorA1
import Derived.Test.YtlbcnacfgickcaaGreatDoorA14
import Derived.Test.YtlbcnacfgickcaaGreatDoorHandMono
namespace Go.Proofs.YtlbcnacfgickcaaGreatDoor.A
open Go.RowKit Go.Proofs.YtlbcnacfgickcaaGreatDoorW.PrintWords Go.Proofs.YtlbcnacfgickcaaGreatDoorW.PrintLast Go.Proofs.YtlbcnacfgickcaaGreatDoorW.PrintMore Go.Proofs.YtlbcnacfgickcaaGreatDoorW.Short
attribute [local go_sem] max2_int min2_int max_two min_two max_three min_three max_four min_four
set_option linter.unusedVariables false
set_option linter.unusedSimpArgs false
def code_Heights.f (k : Nat) (lA : List (S30)) (lB : List (S36)) (a1 : Int) : Option (List Int × Int) := (cC.f k lA lB).bind fun t206 => (if t206 = 0 then ((code_inside.f a1 (wrap64 ((lA.length : Int) - 1))).bind fun t207 => (if t207 = true then ((cHt.f k lA lB a1).bind fun bt208 => (some (bt208.1, 0))) else (some (([] : List Int), 2)))) else (some (([] : List Int), t206)))
set_option maxHeartbeats 8000000 in
set_option maxRecDepth 100000 in
theorem code_Heights.calls (k : Nat) (A0_0 : Option Addr) (c0_0 : Nat) (lA : List (S30)) (A0_1 : Option Addr) (c0_1 : Nat) (lB : List (S36)) (a1 : Int) (r1 : List Int) (r2 : Int) (w : World) (hr0_0 : Kd.C k30 w A0_0 lA.length lA) (hc0_0 : lA.length ≤ c0_0) (hr0_1 : Kd.C k36 w A0_1 lB.length lB) (hc0_1 : lB.length ≤ c0_1) (hT : Tabs w) (h : code_Heights.f k lA lB a1 = some (r1, r2)) :
  Calls Tryz.prog 11 #[.agg #[.slice A0_0 lA.length c0_0, .slice A0_1 lB.length c0_1], .int .i64 a1] w fun e w' => ∃ v0_ : Value, e = .returned (.tuple #[v0_, .int .i64 r2]) ∧ Kd.R (Kd.int .i64) 3 w' w.heap.size (fun _ => True) v0_ r1 ∧ Below w.heap.size w w' := by
 have hu25 := Tryz.underlying25
 have hu58 := Tryz.underlying58
 have HR0_0 := Ae.mk hr0_0
 have HC0_0 := Ae.mk hc0_0
 clear hr0_0 hc0_0
 have HR0_1 := Ae.mk hr0_1
 have HC0_1 := Ae.mk hc0_1
 clear hr0_1 hc0_1
 have HB := Ae.mk (Below.refl w.heap.size w)
 have H : ((cC.f k lA lB).bind fun t206 => (if t206 = 0 then ((code_inside.f a1 (wrap64 ((lA.length : Int) - 1))).bind fun t207 => (if t207 = true then ((cHt.f k lA lB a1).bind fun bt208 => (some (bt208.1, 0))) else (some (([] : List Int), 2)))) else (some (([] : List Int), t206)))) = some (r1, r2) := h
 clear h
 replace H := Option.bind_eq_some_iff.mp H
 obtain ⟨t206, A30, H⟩ := H
 replace H : (if t206 = 0 then ((code_inside.f a1 (wrap64 ((lA.length : Int) - 1))).bind fun t207 => (if t207 = true then ((cHt.f k lA lB a1).bind fun bt208 => (some (bt208.1, 0))) else (some (([] : List Int), 2)))) else (some (([] : List Int), t206))) = some (r1, r2) := H
 have A3 := Ae.mk A30
 clear A30
 by_cases c4 : t206 = 0
 ·rw [if_pos c4] at H
  have c4b0 : (t206 == 0) = true := beq_iff_eq.mpr c4
  have c4b1 : (t206 != 0) = false := bne_eq_false_iff_eq.mpr c4
  clear c4
  replace H := Option.bind_eq_some_iff.mp H
  obtain ⟨t207, A50, H⟩ := H
  replace H : (if t207 = true then ((cHt.f k lA lB a1).bind fun bt208 => (some (bt208.1, 0))) else (some (([] : List Int), 2))) = some (r1, r2) := H
  have A5 := Ae.mk A50
  clear A50
  by_cases c6 : t207 = true
  ·subst c6
   have H1 : ((cHt.f k lA lB a1).bind fun bt208 => (some (bt208.1, 0))) = some (r1, r2) := by rw [if_pos rfl] at H; exact H
   clear H
   have H := H1
   clear H1
   replace H := Option.bind_eq_some_iff.mp H
   obtain ⟨⟨t208, t211⟩, A70, H⟩ := H
   replace H : (some (t208, 0)) = some (r1, r2) := H
   have A7 := Ae.mk A70
   clear A70
   simp only [Option.some.injEq, Prod.mk.injEq] at H
   obtain ⟨rfl, rfl⟩ := H
   go_enter Tryz.func11, Tryz.ntmps11
   go_wp2_with (first | ((with_reducible refine gD (N := 2) rfl ?_); refine bE ?hg (N := 2) ?hd (cs := #[.slice A0_0 lA.length c0_0, .slice A0_1 lB.length c0_1]) (t := 25) ?hr ?_; (case hd => rfl); (case hg => rfl); (case hr => first | (go_simp; done) | (go_simp; rfl)); intro gb205 hg w8 hbox hb; have n0_ := bes hb; have n1_ := Ae.mk (hbox); have n2_ := Ae.mk ((bez hg : w.heap.size ≤ gb205)); have n3_ := Ae.mk ((bez hg : w.heap.size ≤ gb205)); clear HB; have HB := n0_; have BK205 := n1_; have GW205 := n2_; have GE205 := n3_; clear n0_ n1_ n2_ n3_; clear hb hbox hg; have hcz9_0 : w8.cell? ⟨gb205, 0, none⟩ = some (.slice A0_0 lA.length c0_0) := (bC BK205.out 0).trans rfl; have hcz9_1 : w8.cell? ⟨gb205, 1, none⟩ = some (.slice A0_1 lB.length c0_1) := (bC BK205.out 1).trans rfl; have hfz9_0 := bF BK205.out 0; have hfz9_1 := bF BK205.out 1) | ((with_reducible refine gate_callee (f := 8) rfl ?_); refine goesL_ (some 10) rfl rfl Tryz.func8 (by kernel_rfl) rfl #[.agg #[.slice A0_0 lA.length c0_0, .slice A0_1 lB.length c0_1]] rfl am ?_; (with_reducible refine (cC.calls k _ _ lA _ _ lB t206 _ ?side1 ?side2 ?side3 ?side4 ?side5 A3.out).mono ?_); (case side1 => exact cb HR0_0); (case side2 => exact HC0_0.out); (case side3 => exact cb HR0_1); (case side4 => exact HC0_1.out); (case side5 => first | exact hT | exact tabs_below hT bel); rintro e w10 ⟨rfl, hb⟩; refine ⟨_, rfl, ?_⟩; have n0_ := bb BK205 hb; have n1_ := bes hb; clear BK205; clear HB; have BK205 := n0_; have HB := n1_; clear n0_ n1_; (try clear hb); (try clear hb2); (try clear hk); (try clear hi); have hcz11_0 : w10.cell? ⟨gb205, 0, none⟩ = some (.slice A0_0 lA.length c0_0) := (bC BK205.out 0).trans rfl; have hcz11_1 : w10.cell? ⟨gb205, 1, none⟩ = some (.slice A0_1 lB.length c0_1) := (bC BK205.out 1).trans rfl; have hfz11_0 := bF BK205.out 0; have hfz11_1 := bF BK205.out 1) | ((with_reducible refine gate_callee (f := 25) rfl ?_); refine goesL_ (some 19) rfl rfl Tryz.func25 (by kernel_rfl) rfl #[.int .i64 a1, .int .i64 (wrap64 ((lA.length : Int) - 1))] rfl am ?_; (with_reducible refine (code_inside.calls a1 (wrap64 ((lA.length : Int) - 1)) true _ A5.out).mono ?_); rintro e w' ⟨rfl, ⟨nd, rfl⟩⟩; refine ⟨_, rfl, ?_⟩) | ((with_reducible refine gate_callee (f := 23) rfl ?_); refine goesL_ (some 25) rfl rfl Tryz.func23 (by kernel_rfl) rfl #[.agg #[.slice A0_0 lA.length c0_0, .slice A0_1 lB.length c0_1], .int .i64 a1] rfl am ?_; (with_reducible refine (cHt.calls k _ _ lA _ _ lB a1 t208 t211 _ ?side1 ?side2 ?side3 ?side4 A7.out).mono ?_); (case side1 => repeat (first | exact (Kd.C_below HR0_0.out bel) | (with_reducible refine Kd.C_alloc ?_ _) | (with_reducible refine Kd.C_drewN ?_ _) | (with_reducible refine Kd.C_drew ?_))); (case side2 => exact HC0_0.out); (case side3 => repeat (first | exact (Kd.C_below HR0_1.out bel) | (with_reducible refine Kd.C_alloc ?_ _) | (with_reducible refine Kd.C_drewN ?_ _) | (with_reducible refine Kd.C_drew ?_))); (case side4 => exact HC0_1.out); rintro e w12 ⟨v209, rfl, ho0, hb⟩; refine ⟨_, rfl, ?_⟩; have n0_ := Ae.mk (Kd.R_lower ho0 (below_size bel)); have n1_ := bb BK205 hb; have n2_ := bes hb; clear BK205; clear HB; have HO210 := n0_; have BK205 := n1_; have HB := n2_; clear n0_ n1_ n2_; (try clear hb); (try clear hb2); (try clear hk); (try clear hi); (try clear ho0)))
   go_ret2
   exact ⟨_, by first | rfl | (simp [errW_none, errW_some] <;> rfl) | (simp [*, errW_none, errW_some] <;> rfl), rt HO210, bel⟩
  ·replace c6 := Bool.eq_false_iff.mpr c6
   subst c6
   have H1 : (some (([] : List Int), 2)) = some (r1, r2) := by rw [if_neg (show ¬ (false = true) by decide)] at H; exact H
   clear H
   have H := H1
   clear H1
   simp only [Option.some.injEq, Prod.mk.injEq] at H
   obtain ⟨rfl, rfl⟩ := H
   go_enter Tryz.func11, Tryz.ntmps11
   go_wp2_with (first | ((with_reducible refine gD (N := 2) rfl ?_); refine bE ?hg (N := 2) ?hd (cs := #[.slice A0_0 lA.length c0_0, .slice A0_1 lB.length c0_1]) (t := 25) ?hr ?_; (case hd => rfl); (case hg => rfl); (case hr => first | (go_simp; done) | (go_simp; rfl)); intro gb205 hg w13 hbox hb; have n0_ := bes hb; have n1_ := Ae.mk (hbox); have n2_ := Ae.mk ((bez hg : w.heap.size ≤ gb205)); have n3_ := Ae.mk ((bez hg : w.heap.size ≤ gb205)); clear HB; have HB := n0_; have BK205 := n1_; have GW205 := n2_; have GE205 := n3_; clear n0_ n1_ n2_ n3_; clear hb hbox hg; have hcz14_0 : w13.cell? ⟨gb205, 0, none⟩ = some (.slice A0_0 lA.length c0_0) := (bC BK205.out 0).trans rfl; have hcz14_1 : w13.cell? ⟨gb205, 1, none⟩ = some (.slice A0_1 lB.length c0_1) := (bC BK205.out 1).trans rfl; have hfz14_0 := bF BK205.out 0; have hfz14_1 := bF BK205.out 1) | ((with_reducible refine gate_callee (f := 8) rfl ?_); refine goesL_ (some 10) rfl rfl Tryz.func8 (by kernel_rfl) rfl #[.agg #[.slice A0_0 lA.length c0_0, .slice A0_1 lB.length c0_1]] rfl am ?_; (with_reducible refine (cC.calls k _ _ lA _ _ lB t206 _ ?side1 ?side2 ?side3 ?side4 ?side5 A3.out).mono ?_); (case side1 => exact cb HR0_0); (case side2 => exact HC0_0.out); (case side3 => exact cb HR0_1); (case side4 => exact HC0_1.out); (case side5 => first | exact hT | exact tabs_below hT bel); rintro e w15 ⟨rfl, hb⟩; refine ⟨_, rfl, ?_⟩; have n0_ := bb BK205 hb; have n1_ := bes hb; clear BK205; clear HB; have BK205 := n0_; have HB := n1_; clear n0_ n1_; (try clear hb); (try clear hb2); (try clear hk); (try clear hi); have hcz16_0 : w15.cell? ⟨gb205, 0, none⟩ = some (.slice A0_0 lA.length c0_0) := (bC BK205.out 0).trans rfl; have hcz16_1 : w15.cell? ⟨gb205, 1, none⟩ = some (.slice A0_1 lB.length c0_1) := (bC BK205.out 1).trans rfl; have hfz16_0 := bF BK205.out 0; have hfz16_1 := bF BK205.out 1) | ((with_reducible refine gate_callee (f := 25) rfl ?_); refine goesL_ (some 19) rfl rfl Tryz.func25 (by kernel_rfl) rfl #[.int .i64 a1, .int .i64 (wrap64 ((lA.length : Int) - 1))] rfl am ?_; (with_reducible refine (code_inside.calls a1 (wrap64 ((lA.length : Int) - 1)) false _ A5.out).mono ?_); rintro e w' ⟨rfl, ⟨nd, rfl⟩⟩; refine ⟨_, rfl, ?_⟩))
   go_ret2
   exact ⟨_, by first | rfl | (simp [errW_none, errW_some] <;> rfl) | (simp [*, errW_none, errW_some] <;> rfl), by first | exact Kd.R_nil _ _ _ _ _ | exact Kd.N_nil _ _ _ _ _ | exact Kd.V_nil _ _ _ _ _ | exact Kd.Q_nil _ _ _ _ _ | exact Kd.S_nil _ _ _ _ _, bel⟩
 ·rw [if_neg c4] at H
  have c4b0 : (t206 == 0) = false := beq_eq_false_iff_ne.mpr c4
  have c4b1 : (t206 != 0) = true := bne_iff_ne.mpr c4
  simp only [Option.some.injEq, Prod.mk.injEq] at H
  obtain ⟨rfl, rfl⟩ := H
  go_enter Tryz.func11, Tryz.ntmps11
  go_wp2_with (first | ((with_reducible refine gD (N := 2) rfl ?_); refine bE ?hg (N := 2) ?hd (cs := #[.slice A0_0 lA.length c0_0, .slice A0_1 lB.length c0_1]) (t := 25) ?hr ?_; (case hd => rfl); (case hg => rfl); (case hr => first | (go_simp; done) | (go_simp; rfl)); intro gb205 hg w17 hbox hb; have n0_ := bes hb; have n1_ := Ae.mk (hbox); have n2_ := Ae.mk ((bez hg : w.heap.size ≤ gb205)); have n3_ := Ae.mk ((bez hg : w.heap.size ≤ gb205)); clear HB; have HB := n0_; have BK205 := n1_; have GW205 := n2_; have GE205 := n3_; clear n0_ n1_ n2_ n3_; clear hb hbox hg; have hcz18_0 : w17.cell? ⟨gb205, 0, none⟩ = some (.slice A0_0 lA.length c0_0) := (bC BK205.out 0).trans rfl; have hcz18_1 : w17.cell? ⟨gb205, 1, none⟩ = some (.slice A0_1 lB.length c0_1) := (bC BK205.out 1).trans rfl; have hfz18_0 := bF BK205.out 0; have hfz18_1 := bF BK205.out 1) | ((with_reducible refine gate_callee (f := 8) rfl ?_); refine goesL_ (some 10) rfl rfl Tryz.func8 (by kernel_rfl) rfl #[.agg #[.slice A0_0 lA.length c0_0, .slice A0_1 lB.length c0_1]] rfl am ?_; (with_reducible refine (cC.calls k _ _ lA _ _ lB t206 _ ?side1 ?side2 ?side3 ?side4 ?side5 A3.out).mono ?_); (case side1 => exact cb HR0_0); (case side2 => exact HC0_0.out); (case side3 => exact cb HR0_1); (case side4 => exact HC0_1.out); (case side5 => first | exact hT | exact tabs_below hT bel); rintro e w19 ⟨rfl, hb⟩; refine ⟨_, rfl, ?_⟩; have n0_ := bb BK205 hb; have n1_ := bes hb; clear BK205; clear HB; have BK205 := n0_; have HB := n1_; clear n0_ n1_; (try clear hb); (try clear hb2); (try clear hk); (try clear hi)))
  go_ret2
  exact ⟨_, by first | rfl | (simp [errW_none, errW_some] <;> rfl) | (simp [*, errW_none, errW_some] <;> rfl), by first | exact Kd.R_nil _ _ _ _ _ | exact Kd.N_nil _ _ _ _ _ | exact Kd.V_nil _ _ _ _ _ | exact Kd.Q_nil _ _ _ _ _ | exact Kd.S_nil _ _ _ _ _, bel⟩
end Go.Proofs.YtlbcnacfgickcaaGreatDoor.A
