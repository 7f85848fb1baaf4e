/- Printed by this session's own copy of the printer (wip/tools/mkprint.py): functions, and that the Go code answers as they do. -/
import Derived.Test.YtlbcnacfgickcaaGreatDoorShort
import Derived.Test.YtlbcnacfgickcaaGreatDoorA0
namespace Go.Proofs.YtlbcnacfgickcaaGreatDoor.A
open Go.RowKit Go.Proofs.YtlbcnacfgickcaaGreatDoorW.PrintWords Go.Proofs.YtlbcnacfgickcaaGreatDoorW.PrintLast Go.Proofs.YtlbcnacfgickcaaGreatDoorW.PrintMore Go.Proofs.YtlbcnacfgickcaaGreatDoorW.Short
attribute [local go_sem] max2_int min2_int max_two min_two max_three min_three max_four min_four
set_option linter.unusedVariables false
set_option linter.unusedSimpArgs false
mutual
def cE.j0 : Nat → Int → Bool → Int → Int → Int → ByteArray → List (S99) → Option (Int × Int)
 | 0, _, _, _, _, _, _, _ => none
 | k + 1, x5, x8, x187000, x187001, x187002, x187003, x187004 => if x8 = true then (some (0, 0)) else (if x5 = 2 then (some (wrap64 (x187001 + 1), 1)) else (if x5 = 3 then (cE.j1 k x5 (x5 == 3) x187000 x187001 x187002 x187003 x187004) else (if x5 = 9 then (cE.j1 k x5 (x5 == 9) x187000 x187001 x187002 x187003 x187004) else (if x5 = 11 then (cE.j1 k x5 (x5 == 11) x187000 x187001 x187002 x187003 x187004) else (if x5 = 36 then (cE.j1 k x5 (x5 == 36) x187000 x187001 x187002 x187003 x187004) else (if x5 = 37 then (cE.j1 k x5 (x5 == 37) x187000 x187001 x187002 x187003 x187004) else (cE.j1 k x5 (x5 == 18) x187000 x187001 x187002 x187003 x187004)))))))
def cE.j1 : Nat → Int → Bool → Int → Int → Int → ByteArray → List (S99) → Option (Int × Int)
 | 0, _, _, _, _, _, _, _ => none
 | k + 1, x5, x16, x187000, x187001, x187002, x187003, x187004 => if x16 = true then (some (1, (-1))) else (if x5 = 38 then (cE.j2 k x5 (x5 == 38) x187000 x187001 x187002 x187003 x187004) else (if x5 = 7 then (cE.j2 k x5 (x5 == 7) x187000 x187001 x187002 x187003 x187004) else (if x5 = 12 then (cE.j2 k x5 (x5 == 12) x187000 x187001 x187002 x187003 x187004) else (cE.j2 k x5 (x5 == 23) x187000 x187001 x187002 x187003 x187004))))
def cE.j2 : Nat → Int → Bool → Int → Int → Int → ByteArray → List (S99) → Option (Int × Int)
 | 0, _, _, _, _, _, _, _ => none
 | k + 1, x5, x23, x187000, x187001, x187002, x187003, x187004 => if x23 = true then (some (2, (-1))) else (if x5 = 13 then (cE.j3 k x5 (x5 == 13) x187000 x187001 x187002 x187003 x187004) else (if x5 = 24 then (cE.j3 k x5 (x5 == 24) x187000 x187001 x187002 x187003 x187004) else (cE.j3 k x5 (x5 == 29) x187000 x187001 x187002 x187003 x187004)))
def cE.j3 : Nat → Int → Bool → Int → Int → Int → ByteArray → List (S99) → Option (Int × Int)
 | 0, _, _, _, _, _, _, _ => none
 | k + 1, x5, x28, x187000, x187001, x187002, x187003, x187004 => if x28 = true then (some (3, (-2))) else (if x5 = 22 then (cE.j4 k x5 (x5 == 22) x187000 x187001 x187002 x187003 x187004) else (cE.j4 k x5 (x5 == 32) x187000 x187001 x187002 x187003 x187004))
def cE.j4 : Nat → Int → Bool → Int → Int → Int → ByteArray → List (S99) → Option (Int × Int)
 | 0, _, _, _, _, _, _, _ => none
 | k + 1, x5, x32, x187000, x187001, x187002, x187003, x187004 => if x32 = true then (some (wrap64 (1 + x187001), wrap64 (-x187001))) else (if x5 = 34 then (some (wrap64 (1 + (wrap64 (2 * x187001))), wrap64 ((-2) * x187001))) else (some (1, 0)))
end
def cE.f (k : Nat) (a0_0 : Int) (a0_1 : Int) (a0_2 : Int) (a0_3 : ByteArray) (l0_4 : List (S99)) : Option (Int × Int) := if a0_0 = 10 then (some (0, 1)) else (if a0_0 = 17 then (cE.j0 k a0_0 (a0_0 == 17) a0_0 a0_1 a0_2 a0_3 l0_4) else (cE.j0 k a0_0 (a0_0 == 16) a0_0 a0_1 a0_2 a0_3 l0_4))
set_option maxHeartbeats 8000000 in
set_option maxRecDepth 100000 in
theorem cE.calls (k : Nat) (a0_0 : Int) (a0_1 : Int) (a0_2 : Int) (a0_3 : ByteArray) (A0_4 : Option Addr) (c0_4 : Nat) (l0_4 : List (S99)) (r1 : Int) (r2 : Int) (w : World) (hr0_4 : Kd.C k99 w A0_4 l0_4.length l0_4) (hc0_4 : l0_4.length ≤ c0_4) (h : cE.f k a0_0 a0_1 a0_2 a0_3 l0_4 = some (r1, r2)) :
  Calls Tryz.prog 51 #[.agg #[.int .i64 a0_0, .int .i64 a0_1, .int .i64 a0_2, .string a0_3, .slice A0_4 l0_4.length c0_4]] w fun e w' => e = .returned (.tuple #[.int .i64 r1, .int .i64 r2]) ∧ Below w.heap.size w w' := by
 have hu56 := Tryz.underlying56
 have HR0_4 := Ae.mk hr0_4
 have HC0_4 := Ae.mk hc0_4
 clear hr0_4 hc0_4
 have HB := Ae.mk (Below.refl w.heap.size w)
 have H : (if a0_0 = 10 then (some (0, 1)) else (if a0_0 = 17 then (cE.j0 k a0_0 (a0_0 == 17) a0_0 a0_1 a0_2 a0_3 l0_4) else (cE.j0 k a0_0 (a0_0 == 16) a0_0 a0_1 a0_2 a0_3 l0_4))) = some (r1, r2) := h
 clear h
 by_cases c2 : a0_0 = 10
 ·rw [if_pos c2] at H
  have c2b0 : (a0_0 == 10) = true := beq_iff_eq.mpr c2
  have c2b1 : (a0_0 != 10) = false := bne_eq_false_iff_eq.mpr c2
  clear c2
  simp only [Option.some.injEq, Prod.mk.injEq] at H
  obtain ⟨rfl, rfl⟩ := H
  go_enter Tryz.func51, Tryz.ntmps51
  go_wp2_with (first | ((with_reducible refine gD (N := 1) rfl ?_); refine bE ?hg (N := 1) ?hd (cs := #[.int .i64 a0_0, .int .i64 a0_1, .int .i64 a0_2, .string a0_3, .slice A0_4 l0_4.length c0_4]) (t := 56) ?hr ?_; (case hd => rfl); (case hg => rfl); (case hr => first | (go_simp; done) | (go_simp; rfl)); intro gb186 hg w3 hbox hb; have n0_ := bes hb; have n1_ := Ae.mk (hbox); have n2_ := Ae.mk ((bez hg : w.heap.size ≤ gb186)); have n3_ := Ae.mk ((bez hg : w.heap.size ≤ gb186)); clear HB; have HB := n0_; have BK186 := n1_; have GW186 := n2_; have GE186 := n3_; clear n0_ n1_ n2_ n3_; clear hb hbox hg; have hcz4_0 : w3.cell? ⟨gb186, 0, none⟩ = some (.int .i64 a0_0) := (bC BK186.out 0).trans rfl; have hcz4_1 : w3.cell? ⟨gb186, 1, none⟩ = some (.int .i64 a0_1) := (bC BK186.out 1).trans rfl; have hcz4_2 : w3.cell? ⟨gb186, 2, none⟩ = some (.int .i64 a0_2) := (bC BK186.out 2).trans rfl; have hcz4_3 : w3.cell? ⟨gb186, 3, none⟩ = some (.string a0_3) := (bC BK186.out 3).trans rfl; have hcz4_4 : w3.cell? ⟨gb186, 4, none⟩ = some (.slice A0_4 l0_4.length c0_4) := (bC BK186.out 4).trans rfl; have hfz4_0 := bF BK186.out 0; have hfz4_1 := bF BK186.out 1; have hfz4_2 := bF BK186.out 2; have hfz4_3 := bF BK186.out 3; have hfz4_4 := bF BK186.out 4))
  repeat (go_quiet (first | ((with_reducible refine gD (N := 1) rfl ?_); refine bE ?hg (N := 1) ?hd (cs := #[.int .i64 a0_0, .int .i64 a0_1, .int .i64 a0_2, .string a0_3, .slice A0_4 l0_4.length c0_4]) (t := 56) ?hr ?_; (case hd => rfl); (case hg => rfl); (case hr => first | (go_simp; done) | (go_simp; rfl)); intro gb186 hg w3 hbox hb; have n0_ := bes hb; have n1_ := Ae.mk (hbox); have n2_ := Ae.mk ((bez hg : w.heap.size ≤ gb186)); have n3_ := Ae.mk ((bez hg : w.heap.size ≤ gb186)); clear HB; have HB := n0_; have BK186 := n1_; have GW186 := n2_; have GE186 := n3_; clear n0_ n1_ n2_ n3_; clear hb hbox hg; have hcz4_0 : w3.cell? ⟨gb186, 0, none⟩ = some (.int .i64 a0_0) := (bC BK186.out 0).trans rfl; have hcz4_1 : w3.cell? ⟨gb186, 1, none⟩ = some (.int .i64 a0_1) := (bC BK186.out 1).trans rfl; have hcz4_2 : w3.cell? ⟨gb186, 2, none⟩ = some (.int .i64 a0_2) := (bC BK186.out 2).trans rfl; have hcz4_3 : w3.cell? ⟨gb186, 3, none⟩ = some (.string a0_3) := (bC BK186.out 3).trans rfl; have hcz4_4 : w3.cell? ⟨gb186, 4, none⟩ = some (.slice A0_4 l0_4.length c0_4) := (bC BK186.out 4).trans rfl; have hfz4_0 := bF BK186.out 0; have hfz4_1 := bF BK186.out 1; have hfz4_2 := bF BK186.out 2; have hfz4_3 := bF BK186.out 3; have hfz4_4 := bF BK186.out 4)); try go_wp2_with (first | ((with_reducible refine gD (N := 1) rfl ?_); refine bE ?hg (N := 1) ?hd (cs := #[.int .i64 a0_0, .int .i64 a0_1, .int .i64 a0_2, .string a0_3, .slice A0_4 l0_4.length c0_4]) (t := 56) ?hr ?_; (case hd => rfl); (case hg => rfl); (case hr => first | (go_simp; done) | (go_simp; rfl)); intro gb186 hg w3 hbox hb; have n0_ := bes hb; have n1_ := Ae.mk (hbox); have n2_ := Ae.mk ((bez hg : w.heap.size ≤ gb186)); have n3_ := Ae.mk ((bez hg : w.heap.size ≤ gb186)); clear HB; have HB := n0_; have BK186 := n1_; have GW186 := n2_; have GE186 := n3_; clear n0_ n1_ n2_ n3_; clear hb hbox hg; have hcz4_0 : w3.cell? ⟨gb186, 0, none⟩ = some (.int .i64 a0_0) := (bC BK186.out 0).trans rfl; have hcz4_1 : w3.cell? ⟨gb186, 1, none⟩ = some (.int .i64 a0_1) := (bC BK186.out 1).trans rfl; have hcz4_2 : w3.cell? ⟨gb186, 2, none⟩ = some (.int .i64 a0_2) := (bC BK186.out 2).trans rfl; have hcz4_3 : w3.cell? ⟨gb186, 3, none⟩ = some (.string a0_3) := (bC BK186.out 3).trans rfl; have hcz4_4 : w3.cell? ⟨gb186, 4, none⟩ = some (.slice A0_4 l0_4.length c0_4) := (bC BK186.out 4).trans rfl; have hfz4_0 := bF BK186.out 0; have hfz4_1 := bF BK186.out 1; have hfz4_2 := bF BK186.out 2; have hfz4_3 := bF BK186.out 3; have hfz4_4 := bF BK186.out 4)))
  go_ret2
  exact fn
 ·rw [if_neg c2] at H
  have c2b0 : (a0_0 == 10) = false := beq_eq_false_iff_ne.mpr c2
  have c2b1 : (a0_0 != 10) = true := bne_iff_ne.mpr c2
  have HC5 := Ae.mk H
  clear H
  go_enter Tryz.func51, Tryz.ntmps51
  go_upto_if 8 with (first | ((with_reducible refine gD (N := 1) rfl ?_); refine bE ?hg (N := 1) ?hd (cs := #[.int .i64 a0_0, .int .i64 a0_1, .int .i64 a0_2, .string a0_3, .slice A0_4 l0_4.length c0_4]) (t := 56) ?hr ?_; (case hd => rfl); (case hg => rfl); (case hr => first | (go_simp; done) | (go_simp; rfl)); intro gb186 hg w6 hbox hb; have n0_ := bes hb; have n1_ := Ae.mk (hbox); have n2_ := Ae.mk ((bez hg : w.heap.size ≤ gb186)); have n3_ := Ae.mk ((bez hg : w.heap.size ≤ gb186)); clear HB; have HB := n0_; have BK186 := n1_; have GW186 := n2_; have GE186 := n3_; clear n0_ n1_ n2_ n3_; clear hb hbox hg; have hcz7_0 : w6.cell? ⟨gb186, 0, none⟩ = some (.int .i64 a0_0) := (bC BK186.out 0).trans rfl; have hcz7_1 : w6.cell? ⟨gb186, 1, none⟩ = some (.int .i64 a0_1) := (bC BK186.out 1).trans rfl; have hcz7_2 : w6.cell? ⟨gb186, 2, none⟩ = some (.int .i64 a0_2) := (bC BK186.out 2).trans rfl; have hcz7_3 : w6.cell? ⟨gb186, 3, none⟩ = some (.string a0_3) := (bC BK186.out 3).trans rfl; have hcz7_4 : w6.cell? ⟨gb186, 4, none⟩ = some (.slice A0_4 l0_4.length c0_4) := (bC BK186.out 4).trans rfl; have hfz7_0 := bF BK186.out 0; have hfz7_1 := bF BK186.out 1; have hfz7_2 := bF BK186.out 2; have hfz7_3 := bF BK186.out 3; have hfz7_4 := bF BK186.out 4))
  repeat (go_quiet (first | ((with_reducible refine gD (N := 1) rfl ?_); refine bE ?hg (N := 1) ?hd (cs := #[.int .i64 a0_0, .int .i64 a0_1, .int .i64 a0_2, .string a0_3, .slice A0_4 l0_4.length c0_4]) (t := 56) ?hr ?_; (case hd => rfl); (case hg => rfl); (case hr => first | (go_simp; done) | (go_simp; rfl)); intro gb186 hg w6 hbox hb; have n0_ := bes hb; have n1_ := Ae.mk (hbox); have n2_ := Ae.mk ((bez hg : w.heap.size ≤ gb186)); have n3_ := Ae.mk ((bez hg : w.heap.size ≤ gb186)); clear HB; have HB := n0_; have BK186 := n1_; have GW186 := n2_; have GE186 := n3_; clear n0_ n1_ n2_ n3_; clear hb hbox hg; have hcz7_0 : w6.cell? ⟨gb186, 0, none⟩ = some (.int .i64 a0_0) := (bC BK186.out 0).trans rfl; have hcz7_1 : w6.cell? ⟨gb186, 1, none⟩ = some (.int .i64 a0_1) := (bC BK186.out 1).trans rfl; have hcz7_2 : w6.cell? ⟨gb186, 2, none⟩ = some (.int .i64 a0_2) := (bC BK186.out 2).trans rfl; have hcz7_3 : w6.cell? ⟨gb186, 3, none⟩ = some (.string a0_3) := (bC BK186.out 3).trans rfl; have hcz7_4 : w6.cell? ⟨gb186, 4, none⟩ = some (.slice A0_4 l0_4.length c0_4) := (bC BK186.out 4).trans rfl; have hfz7_0 := bF BK186.out 0; have hfz7_1 := bF BK186.out 1; have hfz7_2 := bF BK186.out 2; have hfz7_3 := bF BK186.out 3; have hfz7_4 := bF BK186.out 4)); go_upto_if 8 with (first | ((with_reducible refine gD (N := 1) rfl ?_); refine bE ?hg (N := 1) ?hd (cs := #[.int .i64 a0_0, .int .i64 a0_1, .int .i64 a0_2, .string a0_3, .slice A0_4 l0_4.length c0_4]) (t := 56) ?hr ?_; (case hd => rfl); (case hg => rfl); (case hr => first | (go_simp; done) | (go_simp; rfl)); intro gb186 hg w6 hbox hb; have n0_ := bes hb; have n1_ := Ae.mk (hbox); have n2_ := Ae.mk ((bez hg : w.heap.size ≤ gb186)); have n3_ := Ae.mk ((bez hg : w.heap.size ≤ gb186)); clear HB; have HB := n0_; have BK186 := n1_; have GW186 := n2_; have GE186 := n3_; clear n0_ n1_ n2_ n3_; clear hb hbox hg; have hcz7_0 : w6.cell? ⟨gb186, 0, none⟩ = some (.int .i64 a0_0) := (bC BK186.out 0).trans rfl; have hcz7_1 : w6.cell? ⟨gb186, 1, none⟩ = some (.int .i64 a0_1) := (bC BK186.out 1).trans rfl; have hcz7_2 : w6.cell? ⟨gb186, 2, none⟩ = some (.int .i64 a0_2) := (bC BK186.out 2).trans rfl; have hcz7_3 : w6.cell? ⟨gb186, 3, none⟩ = some (.string a0_3) := (bC BK186.out 3).trans rfl; have hcz7_4 : w6.cell? ⟨gb186, 4, none⟩ = some (.slice A0_4 l0_4.length c0_4) := (bC BK186.out 4).trans rfl; have hfz7_0 := bF BK186.out 0; have hfz7_1 := bF BK186.out 1; have hfz7_2 := bF BK186.out 2; have hfz7_3 := bF BK186.out 3; have hfz7_4 := bF BK186.out 4)))
  (try simp only [Act.put, List.setIfInBounds_toArray, List.set_cons_zero, List.set_cons_succ])
  go_cut [8] (fun v8 wc => ∃ (kq : Nat) (x8_4 : Bool), v8 = .bool x8_4 ∧ Ae (cE.j0 kq a0_0 x8_4 a0_0 a0_1 a0_2 a0_3 l0_4 = some (r1, r2)) ∧ Ae (kq ≤ k) ∧ Ae (wc.heap[gb186]? = some (.cells #[.int .i64 a0_0, .int .i64 a0_1, .int .i64 a0_2, .string a0_3, (.slice A0_4 l0_4.length c0_4)] 56 (0, 0))) ∧ Ae (Below w.heap.size w wc))
  case first =>
   have H := HC5.out
   clear HC5
   by_cases c8 : a0_0 = 17
   ·rw [if_pos c8] at H
    have c8b0 : (a0_0 == 17) = true := beq_iff_eq.mpr c8
    have c8b1 : (a0_0 != 17) = false := bne_eq_false_iff_eq.mpr c8
    clear c8
    (first | rw [c8b0] | (simp only [i64_w, i32_w]; rw [c8b0]) | skip)
    have H' := Ae.mk H
    clear H
    go_wp2
    repeat (go_quiet (fail); try go_wp2)
    go_meet
    case rel => exact ⟨_, ((a0_0 == 17)), pv, H', ⟨by first | omega | exact Nat.le_refl _⟩, ⟨bt⟩, ⟨bel⟩⟩
   ·rw [if_neg c8] at H
    have c8b0 : (a0_0 == 17) = false := beq_eq_false_iff_ne.mpr c8
    have c8b1 : (a0_0 != 17) = true := bne_iff_ne.mpr c8
    (first | rw [c8b0] | (simp only [i64_w, i32_w]; rw [c8b0]) | skip)
    have H' := Ae.mk H
    clear H
    go_wp2
    repeat (go_quiet (fail); try go_wp2)
    go_meet
    case rel => exact ⟨_, ((a0_0 == 16)), pv, H', ⟨by first | omega | exact Nat.le_refl _⟩, ⟨bt⟩, ⟨bel⟩⟩
  case rest =>
   clear HC5
   obtain ⟨kq, x8_4, rfl, HA, HJ4, BK186, HB⟩ := hcut
   cases kq with
   | zero => exact absurd HA.out (by simp [cE.j0])
   | succ kj4 =>
    have H := HA.out
    clear HA
    simp only [cE.j0] at H
    by_cases c9 : x8_4 = true
    ·subst c9
     have H1 : (some (0, 0)) = some (r1, r2) := by rw [if_pos rfl] at H; exact H
     clear H
     have H := H1
     clear H1
     simp only [Option.some.injEq, Prod.mk.injEq] at H
     obtain ⟨rfl, rfl⟩ := H
     go_wp2
     repeat (go_quiet (fail); try go_wp2)
     go_ret2
     exact fn
    ·replace c9 := Bool.eq_false_iff.mpr c9
     subst c9
     have H1 : (if a0_0 = 2 then (some (wrap64 (a0_1 + 1), 1)) else (if a0_0 = 3 then (cE.j1 kj4 a0_0 (a0_0 == 3) a0_0 a0_1 a0_2 a0_3 l0_4) else (if a0_0 = 9 then (cE.j1 kj4 a0_0 (a0_0 == 9) a0_0 a0_1 a0_2 a0_3 l0_4) else (if a0_0 = 11 then (cE.j1 kj4 a0_0 (a0_0 == 11) a0_0 a0_1 a0_2 a0_3 l0_4) else (if a0_0 = 36 then (cE.j1 kj4 a0_0 (a0_0 == 36) a0_0 a0_1 a0_2 a0_3 l0_4) else (if a0_0 = 37 then (cE.j1 kj4 a0_0 (a0_0 == 37) a0_0 a0_1 a0_2 a0_3 l0_4) else (cE.j1 kj4 a0_0 (a0_0 == 18) a0_0 a0_1 a0_2 a0_3 l0_4))))))) = some (r1, r2) := by rw [if_neg (show ¬ (false = true) by decide)] at H; exact H
     clear H
     have H := H1
     clear H1
     by_cases c10 : a0_0 = 2
     ·rw [if_pos c10] at H
      have c10b0 : (a0_0 == 2) = true := beq_iff_eq.mpr c10
      have c10b1 : (a0_0 != 2) = false := bne_eq_false_iff_eq.mpr c10
      clear c10
      simp only [Option.some.injEq, Prod.mk.injEq] at H
      obtain ⟨rfl, rfl⟩ := H
      have hcz11_0 : wc.cell? ⟨gb186, 0, none⟩ = some (.int .i64 a0_0) := (bC BK186.out 0).trans rfl
      have hcz11_1 : wc.cell? ⟨gb186, 1, none⟩ = some (.int .i64 a0_1) := (bC BK186.out 1).trans rfl
      have hcz11_2 : wc.cell? ⟨gb186, 2, none⟩ = some (.int .i64 a0_2) := (bC BK186.out 2).trans rfl
      have hcz11_3 : wc.cell? ⟨gb186, 3, none⟩ = some (.string a0_3) := (bC BK186.out 3).trans rfl
      have hcz11_4 : wc.cell? ⟨gb186, 4, none⟩ = some (.slice A0_4 l0_4.length c0_4) := (bC BK186.out 4).trans rfl
      have hfz11_0 := bF BK186.out 0
      have hfz11_1 := bF BK186.out 1
      have hfz11_2 := bF BK186.out 2
      have hfz11_3 := bF BK186.out 3
      have hfz11_4 := bF BK186.out 4
      go_wp2
      repeat (go_quiet (fail); try go_wp2)
      go_ret2
      exact fn
     ·rw [if_neg c10] at H
      have c10b0 : (a0_0 == 2) = false := beq_eq_false_iff_ne.mpr c10
      have c10b1 : (a0_0 != 2) = true := bne_iff_ne.mpr c10
      have HC12 := Ae.mk H
      clear H
      go_upto_if 16 with (fail)
      repeat (go_quiet (fail); go_upto_if 16 with (fail))
      go_cut [16] (fun v16 wc => ∃ (kq : Nat) (x16_11 : Bool), v16 = .bool x16_11 ∧ Ae (cE.j1 kq a0_0 x16_11 a0_0 a0_1 a0_2 a0_3 l0_4 = some (r1, r2)) ∧ Ae (kq ≤ kj4) ∧ Ae (wc.heap[gb186]? = some (.cells #[.int .i64 a0_0, .int .i64 a0_1, .int .i64 a0_2, .string a0_3, (.slice A0_4 l0_4.length c0_4)] 56 (0, 0))) ∧ Ae (Below w.heap.size w wc))
      case first =>
       have H := HC12.out
       clear HC12
       by_cases c13 : a0_0 = 3
       ·rw [if_pos c13] at H
        have c13b0 : (a0_0 == 3) = true := beq_iff_eq.mpr c13
        have c13b1 : (a0_0 != 3) = false := bne_eq_false_iff_eq.mpr c13
        clear c13
        (first | rw [c13b0] | (simp only [i64_w, i32_w]; rw [c13b0]) | skip)
        have H' := Ae.mk H
        clear H
        go_wp2
        repeat (go_quiet (fail); try go_wp2)
        go_meet
        case rel => exact ⟨_, ((a0_0 == 3)), pv, H', ⟨by have := HJ4.out; first | omega | exact Nat.le_refl _⟩, ⟨bt⟩, ⟨bel⟩⟩
       ·rw [if_neg c13] at H
        have c13b0 : (a0_0 == 3) = false := beq_eq_false_iff_ne.mpr c13
        have c13b1 : (a0_0 != 3) = true := bne_iff_ne.mpr c13
        (first | rw [c13b0] | (simp only [i64_w, i32_w]; rw [c13b0]) | skip)
        by_cases c14 : a0_0 = 9
        ·rw [if_pos c14] at H
         have c14b0 : (a0_0 == 9) = true := beq_iff_eq.mpr c14
         have c14b1 : (a0_0 != 9) = false := bne_eq_false_iff_eq.mpr c14
         clear c14
         have H' := Ae.mk H
         clear H
         go_wp2
         repeat (go_quiet (fail); try go_wp2)
         go_meet
         case rel => exact ⟨_, ((a0_0 == 9)), pv, H', ⟨by have := HJ4.out; first | omega | exact Nat.le_refl _⟩, ⟨bt⟩, ⟨bel⟩⟩
        ·rw [if_neg c14] at H
         have c14b0 : (a0_0 == 9) = false := beq_eq_false_iff_ne.mpr c14
         have c14b1 : (a0_0 != 9) = true := bne_iff_ne.mpr c14
         by_cases c15 : a0_0 = 11
         ·rw [if_pos c15] at H
          have c15b0 : (a0_0 == 11) = true := beq_iff_eq.mpr c15
          have c15b1 : (a0_0 != 11) = false := bne_eq_false_iff_eq.mpr c15
          clear c15
          have H' := Ae.mk H
          clear H
          go_wp2
          repeat (go_quiet (fail); try go_wp2)
          go_meet
          case rel => exact ⟨_, ((a0_0 == 11)), pv, H', ⟨by have := HJ4.out; first | omega | exact Nat.le_refl _⟩, ⟨bt⟩, ⟨bel⟩⟩
         ·rw [if_neg c15] at H
          have c15b0 : (a0_0 == 11) = false := beq_eq_false_iff_ne.mpr c15
          have c15b1 : (a0_0 != 11) = true := bne_iff_ne.mpr c15
          by_cases c16 : a0_0 = 36
          ·rw [if_pos c16] at H
           have c16b0 : (a0_0 == 36) = true := beq_iff_eq.mpr c16
           have c16b1 : (a0_0 != 36) = false := bne_eq_false_iff_eq.mpr c16
           clear c16
           have H' := Ae.mk H
           clear H
           go_wp2
           repeat (go_quiet (fail); try go_wp2)
           go_meet
           case rel => exact ⟨_, ((a0_0 == 36)), pv, H', ⟨by have := HJ4.out; first | omega | exact Nat.le_refl _⟩, ⟨bt⟩, ⟨bel⟩⟩
          ·rw [if_neg c16] at H
           have c16b0 : (a0_0 == 36) = false := beq_eq_false_iff_ne.mpr c16
           have c16b1 : (a0_0 != 36) = true := bne_iff_ne.mpr c16
           by_cases c17 : a0_0 = 37
           ·rw [if_pos c17] at H
            have c17b0 : (a0_0 == 37) = true := beq_iff_eq.mpr c17
            have c17b1 : (a0_0 != 37) = false := bne_eq_false_iff_eq.mpr c17
            clear c17
            have H' := Ae.mk H
            clear H
            go_wp2
            repeat (go_quiet (fail); try go_wp2)
            go_meet
            case rel => exact ⟨_, ((a0_0 == 37)), pv, H', ⟨by have := HJ4.out; first | omega | exact Nat.le_refl _⟩, ⟨bt⟩, ⟨bel⟩⟩
           ·rw [if_neg c17] at H
            have c17b0 : (a0_0 == 37) = false := beq_eq_false_iff_ne.mpr c17
            have c17b1 : (a0_0 != 37) = true := bne_iff_ne.mpr c17
            have H' := Ae.mk H
            clear H
            go_wp2
            repeat (go_quiet (fail); try go_wp2)
            go_meet
            case rel => exact ⟨_, ((a0_0 == 18)), pv, H', ⟨by have := HJ4.out; first | omega | exact Nat.le_refl _⟩, ⟨bt⟩, ⟨bel⟩⟩
      case rest =>
       clear HC12
       obtain ⟨kq, x16_11, rfl, HA, HJ11, BK186, HB⟩ := hcut
       cases kq with
       | zero => exact absurd HA.out (by simp [cE.j1])
       | succ kj11 =>
        have H := HA.out
        clear HA
        simp only [cE.j1] at H
        by_cases c18 : x16_11 = true
        ·subst c18
         have H1 : (some (1, (-1))) = some (r1, r2) := by rw [if_pos rfl] at H; exact H
         clear H
         have H := H1
         clear H1
         simp only [Option.some.injEq, Prod.mk.injEq] at H
         obtain ⟨rfl, rfl⟩ := H
         go_wp2
         repeat (go_quiet (fail); try go_wp2)
         go_ret2
         exact fn
        ·replace c18 := Bool.eq_false_iff.mpr c18
         subst c18
         have H1 : (if a0_0 = 38 then (cE.j2 kj11 a0_0 (a0_0 == 38) a0_0 a0_1 a0_2 a0_3 l0_4) else (if a0_0 = 7 then (cE.j2 kj11 a0_0 (a0_0 == 7) a0_0 a0_1 a0_2 a0_3 l0_4) else (if a0_0 = 12 then (cE.j2 kj11 a0_0 (a0_0 == 12) a0_0 a0_1 a0_2 a0_3 l0_4) else (cE.j2 kj11 a0_0 (a0_0 == 23) a0_0 a0_1 a0_2 a0_3 l0_4)))) = some (r1, r2) := by rw [if_neg (show ¬ (false = true) by decide)] at H; exact H
         clear H
         have H := H1
         clear H1
         have HC19 := Ae.mk H
         clear H
         go_upto_if 23 with (fail)
         repeat (go_quiet (fail); go_upto_if 23 with (fail))
         go_cut [23] (fun v23 wc => ∃ (kq : Nat) (x23_18 : Bool), v23 = .bool x23_18 ∧ Ae (cE.j2 kq a0_0 x23_18 a0_0 a0_1 a0_2 a0_3 l0_4 = some (r1, r2)) ∧ Ae (kq ≤ kj11) ∧ Ae (wc.heap[gb186]? = some (.cells #[.int .i64 a0_0, .int .i64 a0_1, .int .i64 a0_2, .string a0_3, (.slice A0_4 l0_4.length c0_4)] 56 (0, 0))) ∧ Ae (Below w.heap.size w wc))
         case first =>
          have H := HC19.out
          clear HC19
          by_cases c20 : a0_0 = 38
          ·rw [if_pos c20] at H
           have c20b0 : (a0_0 == 38) = true := beq_iff_eq.mpr c20
           have c20b1 : (a0_0 != 38) = false := bne_eq_false_iff_eq.mpr c20
           clear c20
           (first | rw [c20b0] | (simp only [i64_w, i32_w]; rw [c20b0]) | skip)
           have H' := Ae.mk H
           clear H
           go_wp2
           repeat (go_quiet (fail); try go_wp2)
           go_meet
           case rel => exact ⟨_, ((a0_0 == 38)), pv, H', ⟨by have := HJ4.out; have := HJ11.out; first | omega | exact Nat.le_refl _⟩, ⟨bt⟩, ⟨bel⟩⟩
          ·rw [if_neg c20] at H
           have c20b0 : (a0_0 == 38) = false := beq_eq_false_iff_ne.mpr c20
           have c20b1 : (a0_0 != 38) = true := bne_iff_ne.mpr c20
           (first | rw [c20b0] | (simp only [i64_w, i32_w]; rw [c20b0]) | skip)
           by_cases c21 : a0_0 = 7
           ·rw [if_pos c21] at H
            have c21b0 : (a0_0 == 7) = true := beq_iff_eq.mpr c21
            have c21b1 : (a0_0 != 7) = false := bne_eq_false_iff_eq.mpr c21
            clear c21
            have H' := Ae.mk H
            clear H
            go_wp2
            repeat (go_quiet (fail); try go_wp2)
            go_meet
            case rel => exact ⟨_, ((a0_0 == 7)), pv, H', ⟨by have := HJ4.out; have := HJ11.out; first | omega | exact Nat.le_refl _⟩, ⟨bt⟩, ⟨bel⟩⟩
           ·rw [if_neg c21] at H
            have c21b0 : (a0_0 == 7) = false := beq_eq_false_iff_ne.mpr c21
            have c21b1 : (a0_0 != 7) = true := bne_iff_ne.mpr c21
            by_cases c22 : a0_0 = 12
            ·rw [if_pos c22] at H
             have c22b0 : (a0_0 == 12) = true := beq_iff_eq.mpr c22
             have c22b1 : (a0_0 != 12) = false := bne_eq_false_iff_eq.mpr c22
             clear c22
             have H' := Ae.mk H
             clear H
             go_wp2
             repeat (go_quiet (fail); try go_wp2)
             go_meet
             case rel => exact ⟨_, ((a0_0 == 12)), pv, H', ⟨by have := HJ4.out; have := HJ11.out; first | omega | exact Nat.le_refl _⟩, ⟨bt⟩, ⟨bel⟩⟩
            ·rw [if_neg c22] at H
             have c22b0 : (a0_0 == 12) = false := beq_eq_false_iff_ne.mpr c22
             have c22b1 : (a0_0 != 12) = true := bne_iff_ne.mpr c22
             have H' := Ae.mk H
             clear H
             go_wp2
             repeat (go_quiet (fail); try go_wp2)
             go_meet
             case rel => exact ⟨_, ((a0_0 == 23)), pv, H', ⟨by have := HJ4.out; have := HJ11.out; first | omega | exact Nat.le_refl _⟩, ⟨bt⟩, ⟨bel⟩⟩
         case rest =>
          clear HC19
          obtain ⟨kq, x23_18, rfl, HA, HJ18, BK186, HB⟩ := hcut
          cases kq with
          | zero => exact absurd HA.out (by simp [cE.j2])
          | succ kj18 =>
           have H := HA.out
           clear HA
           simp only [cE.j2] at H
           by_cases c23 : x23_18 = true
           ·subst c23
            have H1 : (some (2, (-1))) = some (r1, r2) := by rw [if_pos rfl] at H; exact H
            clear H
            have H := H1
            clear H1
            simp only [Option.some.injEq, Prod.mk.injEq] at H
            obtain ⟨rfl, rfl⟩ := H
            go_wp2
            repeat (go_quiet (fail); try go_wp2)
            go_ret2
            exact fn
           ·replace c23 := Bool.eq_false_iff.mpr c23
            subst c23
            have H1 : (if a0_0 = 13 then (cE.j3 kj18 a0_0 (a0_0 == 13) a0_0 a0_1 a0_2 a0_3 l0_4) else (if a0_0 = 24 then (cE.j3 kj18 a0_0 (a0_0 == 24) a0_0 a0_1 a0_2 a0_3 l0_4) else (cE.j3 kj18 a0_0 (a0_0 == 29) a0_0 a0_1 a0_2 a0_3 l0_4))) = some (r1, r2) := by rw [if_neg (show ¬ (false = true) by decide)] at H; exact H
            clear H
            have H := H1
            clear H1
            have HC24 := Ae.mk H
            clear H
            go_upto_if 28 with (fail)
            repeat (go_quiet (fail); go_upto_if 28 with (fail))
            go_cut [28] (fun v28 wc => ∃ (kq : Nat) (x28_23 : Bool), v28 = .bool x28_23 ∧ Ae (cE.j3 kq a0_0 x28_23 a0_0 a0_1 a0_2 a0_3 l0_4 = some (r1, r2)) ∧ Ae (kq ≤ kj18) ∧ Ae (wc.heap[gb186]? = some (.cells #[.int .i64 a0_0, .int .i64 a0_1, .int .i64 a0_2, .string a0_3, (.slice A0_4 l0_4.length c0_4)] 56 (0, 0))) ∧ Ae (Below w.heap.size w wc))
            case first =>
             have H := HC24.out
             clear HC24
             by_cases c25 : a0_0 = 13
             ·rw [if_pos c25] at H
              have c25b0 : (a0_0 == 13) = true := beq_iff_eq.mpr c25
              have c25b1 : (a0_0 != 13) = false := bne_eq_false_iff_eq.mpr c25
              clear c25
              (first | rw [c25b0] | (simp only [i64_w, i32_w]; rw [c25b0]) | skip)
              have H' := Ae.mk H
              clear H
              go_wp2
              repeat (go_quiet (fail); try go_wp2)
              go_meet
              case rel => exact ⟨_, ((a0_0 == 13)), pv, H', ⟨by have := HJ4.out; have := HJ11.out; have := HJ18.out; first | omega | exact Nat.le_refl _⟩, ⟨bt⟩, ⟨bel⟩⟩
             ·rw [if_neg c25] at H
              have c25b0 : (a0_0 == 13) = false := beq_eq_false_iff_ne.mpr c25
              have c25b1 : (a0_0 != 13) = true := bne_iff_ne.mpr c25
              (first | rw [c25b0] | (simp only [i64_w, i32_w]; rw [c25b0]) | skip)
              by_cases c26 : a0_0 = 24
              ·rw [if_pos c26] at H
               have c26b0 : (a0_0 == 24) = true := beq_iff_eq.mpr c26
               have c26b1 : (a0_0 != 24) = false := bne_eq_false_iff_eq.mpr c26
               clear c26
               have H' := Ae.mk H
               clear H
               go_wp2
               repeat (go_quiet (fail); try go_wp2)
               go_meet
               case rel => exact ⟨_, ((a0_0 == 24)), pv, H', ⟨by have := HJ4.out; have := HJ11.out; have := HJ18.out; first | omega | exact Nat.le_refl _⟩, ⟨bt⟩, ⟨bel⟩⟩
              ·rw [if_neg c26] at H
               have c26b0 : (a0_0 == 24) = false := beq_eq_false_iff_ne.mpr c26
               have c26b1 : (a0_0 != 24) = true := bne_iff_ne.mpr c26
               have H' := Ae.mk H
               clear H
               go_wp2
               repeat (go_quiet (fail); try go_wp2)
               go_meet
               case rel => exact ⟨_, ((a0_0 == 29)), pv, H', ⟨by have := HJ4.out; have := HJ11.out; have := HJ18.out; first | omega | exact Nat.le_refl _⟩, ⟨bt⟩, ⟨bel⟩⟩
            case rest =>
             clear HC24
             obtain ⟨kq, x28_23, rfl, HA, HJ23, BK186, HB⟩ := hcut
             cases kq with
             | zero => exact absurd HA.out (by simp [cE.j3])
             | succ kj23 =>
              have H := HA.out
              clear HA
              simp only [cE.j3] at H
              by_cases c27 : x28_23 = true
              ·subst c27
               have H1 : (some (3, (-2))) = some (r1, r2) := by rw [if_pos rfl] at H; exact H
               clear H
               have H := H1
               clear H1
               simp only [Option.some.injEq, Prod.mk.injEq] at H
               obtain ⟨rfl, rfl⟩ := H
               go_wp2
               repeat (go_quiet (fail); try go_wp2)
               go_ret2
               exact fn
              ·replace c27 := Bool.eq_false_iff.mpr c27
               subst c27
               have H1 : (if a0_0 = 22 then (cE.j4 kj23 a0_0 (a0_0 == 22) a0_0 a0_1 a0_2 a0_3 l0_4) else (cE.j4 kj23 a0_0 (a0_0 == 32) a0_0 a0_1 a0_2 a0_3 l0_4)) = some (r1, r2) := by rw [if_neg (show ¬ (false = true) by decide)] at H; exact H
               clear H
               have H := H1
               clear H1
               have HC28 := Ae.mk H
               clear H
               go_upto_if 32 with (fail)
               repeat (go_quiet (fail); go_upto_if 32 with (fail))
               go_cut [32] (fun v32 wc => ∃ (kq : Nat) (x32_27 : Bool), v32 = .bool x32_27 ∧ Ae (cE.j4 kq a0_0 x32_27 a0_0 a0_1 a0_2 a0_3 l0_4 = some (r1, r2)) ∧ Ae (kq ≤ kj23) ∧ Ae (wc.heap[gb186]? = some (.cells #[.int .i64 a0_0, .int .i64 a0_1, .int .i64 a0_2, .string a0_3, (.slice A0_4 l0_4.length c0_4)] 56 (0, 0))) ∧ Ae (Below w.heap.size w wc))
               case first =>
                have H := HC28.out
                clear HC28
                by_cases c29 : a0_0 = 22
                ·rw [if_pos c29] at H
                 have c29b0 : (a0_0 == 22) = true := beq_iff_eq.mpr c29
                 have c29b1 : (a0_0 != 22) = false := bne_eq_false_iff_eq.mpr c29
                 clear c29
                 (first | rw [c29b0] | (simp only [i64_w, i32_w]; rw [c29b0]) | skip)
                 have H' := Ae.mk H
                 clear H
                 go_wp2
                 repeat (go_quiet (fail); try go_wp2)
                 go_meet
                 case rel => exact ⟨_, ((a0_0 == 22)), pv, H', ⟨by have := HJ4.out; have := HJ11.out; have := HJ18.out; have := HJ23.out; first | omega | exact Nat.le_refl _⟩, ⟨bt⟩, ⟨bel⟩⟩
                ·rw [if_neg c29] at H
                 have c29b0 : (a0_0 == 22) = false := beq_eq_false_iff_ne.mpr c29
                 have c29b1 : (a0_0 != 22) = true := bne_iff_ne.mpr c29
                 (first | rw [c29b0] | (simp only [i64_w, i32_w]; rw [c29b0]) | skip)
                 have H' := Ae.mk H
                 clear H
                 go_wp2
                 repeat (go_quiet (fail); try go_wp2)
                 go_meet
                 case rel => exact ⟨_, ((a0_0 == 32)), pv, H', ⟨by have := HJ4.out; have := HJ11.out; have := HJ18.out; have := HJ23.out; first | omega | exact Nat.le_refl _⟩, ⟨bt⟩, ⟨bel⟩⟩
               case rest =>
                clear HC28
                obtain ⟨kq, x32_27, rfl, HA, HJ27, BK186, HB⟩ := hcut
                cases kq with
                | zero => exact absurd HA.out (by simp [cE.j4])
                | succ kj27 =>
                 have H := HA.out
                 clear HA
                 simp only [cE.j4] at H
                 by_cases c30 : x32_27 = true
                 ·subst c30
                  have H1 : (some (wrap64 (1 + a0_1), wrap64 (-a0_1))) = some (r1, r2) := by rw [if_pos rfl] at H; exact H
                  clear H
                  have H := H1
                  clear H1
                  simp only [Option.some.injEq, Prod.mk.injEq] at H
                  obtain ⟨rfl, rfl⟩ := H
                  have hcz31_0 : wc.cell? ⟨gb186, 0, none⟩ = some (.int .i64 a0_0) := (bC BK186.out 0).trans rfl
                  have hcz31_1 : wc.cell? ⟨gb186, 1, none⟩ = some (.int .i64 a0_1) := (bC BK186.out 1).trans rfl
                  have hcz31_2 : wc.cell? ⟨gb186, 2, none⟩ = some (.int .i64 a0_2) := (bC BK186.out 2).trans rfl
                  have hcz31_3 : wc.cell? ⟨gb186, 3, none⟩ = some (.string a0_3) := (bC BK186.out 3).trans rfl
                  have hcz31_4 : wc.cell? ⟨gb186, 4, none⟩ = some (.slice A0_4 l0_4.length c0_4) := (bC BK186.out 4).trans rfl
                  have hfz31_0 := bF BK186.out 0
                  have hfz31_1 := bF BK186.out 1
                  have hfz31_2 := bF BK186.out 2
                  have hfz31_3 := bF BK186.out 3
                  have hfz31_4 := bF BK186.out 4
                  go_wp2
                  repeat (go_quiet (fail); try go_wp2)
                  go_ret2
                  exact fn
                 ·replace c30 := Bool.eq_false_iff.mpr c30
                  subst c30
                  have H1 : (if a0_0 = 34 then (some (wrap64 (1 + (wrap64 (2 * a0_1))), wrap64 ((-2) * a0_1))) else (some (1, 0))) = some (r1, r2) := by rw [if_neg (show ¬ (false = true) by decide)] at H; exact H
                  clear H
                  have H := H1
                  clear H1
                  by_cases c32 : a0_0 = 34
                  ·rw [if_pos c32] at H
                   have c32b0 : (a0_0 == 34) = true := beq_iff_eq.mpr c32
                   have c32b1 : (a0_0 != 34) = false := bne_eq_false_iff_eq.mpr c32
                   clear c32
                   simp only [Option.some.injEq, Prod.mk.injEq] at H
                   obtain ⟨rfl, rfl⟩ := H
                   have hcz33_0 : wc.cell? ⟨gb186, 0, none⟩ = some (.int .i64 a0_0) := (bC BK186.out 0).trans rfl
                   have hcz33_1 : wc.cell? ⟨gb186, 1, none⟩ = some (.int .i64 a0_1) := (bC BK186.out 1).trans rfl
                   have hcz33_2 : wc.cell? ⟨gb186, 2, none⟩ = some (.int .i64 a0_2) := (bC BK186.out 2).trans rfl
                   have hcz33_3 : wc.cell? ⟨gb186, 3, none⟩ = some (.string a0_3) := (bC BK186.out 3).trans rfl
                   have hcz33_4 : wc.cell? ⟨gb186, 4, none⟩ = some (.slice A0_4 l0_4.length c0_4) := (bC BK186.out 4).trans rfl
                   have hfz33_0 := bF BK186.out 0
                   have hfz33_1 := bF BK186.out 1
                   have hfz33_2 := bF BK186.out 2
                   have hfz33_3 := bF BK186.out 3
                   have hfz33_4 := bF BK186.out 4
                   go_wp2
                   repeat (go_quiet (fail); try go_wp2)
                   go_ret2
                   exact fn
                  ·rw [if_neg c32] at H
                   have c32b0 : (a0_0 == 34) = false := beq_eq_false_iff_ne.mpr c32
                   have c32b1 : (a0_0 != 34) = true := bne_iff_ne.mpr c32
                   simp only [Option.some.injEq, Prod.mk.injEq] at H
                   obtain ⟨rfl, rfl⟩ := H
                   go_wp2
                   repeat (go_quiet (fail); try go_wp2)
                   go_ret2
                   exact fn
end Go.Proofs.YtlbcnacfgickcaaGreatDoor.A
