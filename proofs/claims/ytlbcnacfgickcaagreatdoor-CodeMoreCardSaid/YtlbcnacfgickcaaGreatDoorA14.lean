/- Printed by this session's own copy of the printer (wip/tools/mkprint.py): functions, and that the Go code answers as they do. -/
import Derived.Test.YtlbcnacfgickcaaGreatDoorShort
import Derived.Test.YtlbcnacfgickcaaGreatDoorA0
import Derived.Test.YtlbcnacfgickcaaGreatDoorA5
import Derived.Test.YtlbcnacfgickcaaGreatDoorA12
import Derived.Test.YtlbcnacfgickcaaGreatDoorHandMono
import Derived.Test.YtlbcnacfgickcaaGreatDoorHandShape
namespace Go.Proofs.YtlbcnacfgickcaaGreatDoor.A
open Go.RowKit Go.Proofs.YtlbcnacfgickcaaGreatDoorW.PrintWords Go.Proofs.YtlbcnacfgickcaaGreatDoorW.PrintLast Go.Proofs.YtlbcnacfgickcaaGreatDoorW.PrintMore Go.Proofs.YtlbcnacfgickcaaGreatDoorW.Short
attribute [local go_sem] max2_int min2_int max_two min_two max_three min_three max_four min_four
set_option linter.unusedVariables false
set_option linter.unusedSimpArgs false
mutual
def cC.j0 : Nat → Bool → List (S30) → List (S36) → List (S30) → List (S36) → Option (Int)
 | 0, _, _, _, _, _ => none
 | k + 1, x49, x188000, x188001, x189000, x189001 => if x49 = true then (some 190) else (cC.l0 k 262144 x188000 (x188000.length : Int) 0 x188000 x188001 x189000 x189001)
def cC.l0 : Nat → Int → List (S30) → Int → Int → List (S30) → List (S36) → List (S30) → List (S36) → Option (Int)
 | 0, _, _, _, _, _, _, _, _ => none
 | k + 1, x5, x51, x52, x53, x188000, x188001, x189000, x189001 => if x53 < x52 then (if 0 ≤ x53 then (if x53 < (x51.length : Int) then (if (wrap64 (x5 - (((R3 x51 x53).f5).length : Int))) < 0 then (some 190) else ((code_program_shape.f x189000 x189001 x53).bind fun t194 => (if t194 = true then (cC.l0 k (wrap64 (x5 - (((R3 x51 x53).f5).length : Int))) x51 x52 (wrap64 (x53 + 1)) x188000 x188001 x189000 x189001) else (some 190)))) else (none)) else (none)) else (cC.l1 k x188001 (x188001.length : Int) 0 x188000 x188001 x189000 x189001)
def cC.l1 : Nat → List (S36) → Int → Int → List (S30) → List (S36) → List (S30) → List (S36) → Option (Int)
 | 0, _, _, _, _, _, _, _ => none
 | k + 1, x73, x74, x75, x188000, x188001, x189000, x189001 => if x75 < x74 then (if 0 ≤ x75 then (if x75 < (x73.length : Int) then ((value_Right.f k ((rd_T36 x73 x75).f0) ((rd_T36 x73 x75).f1) ((rd_T36 x73 x75).f2) ((rd_T36 x73 x75).f3) ((rd_T36 x73 x75).f4)).bind fun t197 => (if t197 = true then (cC.l1 k x73 x74 (wrap64 (x75 + 1)) x188000 x188001 x189000 x189001) else (some 190))) else (none)) else (none)) else (cC.l2 k x188000 (x188000.length : Int) 0 x189000 x189001)
def cC.l2 : Nat → List (S30) → Int → Int → List (S30) → List (S36) → Option (Int)
 | 0, _, _, _, _, _ => none
 | k + 1, x84, x85, x86, x189000, x189001 => if x86 < x85 then (if 0 ≤ x86 then (if x86 < (x84.length : Int) then (cC.l3 k x86 x84 x85 x86 (((R3 x84 x86).f5).length : Int) 0 x189000 x189001) else (none)) else (none)) else (some 0)
def cC.l3 : Nat → Int → List (S30) → Int → Int → Int → Int → List (S30) → List (S36) → Option (Int)
 | 0, _, _, _, _, _, _, _, _ => none
 | k + 1, x10, x84, x85, x86, x93, x94, x189000, x189001 => if x94 < x93 then ((mY.f k x189000 x189001 x10 x94).bind fun t200 => (if t200 = true then (cC.l3 k x10 x84 x85 x86 x93 (wrap64 (x94 + 1)) x189000 x189001) else (some 190))) else ((cHt.f k x189000 x189001 x10).bind fun bt201 => (if bt201.2 = true then (cC.l2 k x84 x85 (wrap64 (x86 + 1)) x189000 x189001) else (some 190)))
end
def cC.f (k : Nat) (lA : List (S30)) (lB : List (S36)) : Option (Int) := if (lA.length : Int) < 1 then (cC.j0 k true lA lB lA lB) else (if (lA.length : Int) > 20000 then (cC.j0 k true lA lB lA lB) else (if 0 < (lA.length : Int) then (if ((R3 lA 0).f1) = (-1) then (if ((R3 lA 0).f2) = (-1) then (cC.j0 k (((R3 lA 0).f3) != 0) lA lB lA lB) else (cC.j0 k true lA lB lA lB)) else (cC.j0 k true lA lB lA lB)) else (none)))
set_option maxHeartbeats 8000000 in
set_option maxRecDepth 100000 in
theorem cC.calls (k : Nat) (A0_0 : Option Addr) (c0_0 : Nat) (lA : List (S30)) (A0_1 : Option Addr) (c0_1 : Nat) (lB : List (S36)) (r : Int) (w : World) (hr0_0 : Kd.C k30 w A0_0 lA.length lA) (hc0_0 : lA.length ≤ c0_0) (hr0_1 : Kd.C k36 w A0_1 lB.length lB) (hc0_1 : lB.length ≤ c0_1) (hT : Tabs w) (h : cC.f k lA lB = some r) :
  Calls Tryz.prog 8 #[.agg #[.slice A0_0 lA.length c0_0, .slice A0_1 lB.length c0_1]] w fun e w' => e = .returned (.int .i64 r) ∧ Below w.heap.size w w' := by
 have hu25 := Tryz.underlying25
 have hu58 := Tryz.underlying58
 have hu30 := Tryz.underlying30
 have hu36 := Tryz.underlying36
 have HR0_0 := Ae.mk hr0_0
 have HC0_0 := Ae.mk hc0_0
 clear hr0_0 hc0_0
 have HR0_1 := Ae.mk hr0_1
 have HC0_1 := Ae.mk hc0_1
 clear hr0_1 hc0_1
 have HB := Ae.mk (Below.refl w.heap.size w)
 have H : (if (lA.length : Int) < 1 then (cC.j0 k true lA lB lA lB) else (if (lA.length : Int) > 20000 then (cC.j0 k true lA lB lA lB) else (if 0 < (lA.length : Int) then (if ((R3 lA 0).f1) = (-1) then (if ((R3 lA 0).f2) = (-1) then (cC.j0 k (((R3 lA 0).f3) != 0) lA lB lA lB) else (cC.j0 k true lA lB lA lB)) else (cC.j0 k true lA lB lA lB)) else (none)))) = some r := h
 clear h
 have HC2 := Ae.mk H
 clear H
 go_enter Tryz.func8, Tryz.ntmps8
 go_upto_region 3 with (first | ((with_reducible refine gD (N := 1) rfl ?_); refine bE ?hg (N := 1) ?hd (cs := #[.slice A0_0 lA.length c0_0, .slice A0_1 lB.length c0_1]) (t := 25) ?hr ?_; (case hd => rfl); (case hg => rfl); (case hr => first | (go_simp; done) | (go_simp; rfl)); intro gb187 hg w3 hbox hb; have n0_ := bes hb; have n1_ := Ae.mk (hbox); have n2_ := Ae.mk ((bez hg : w.heap.size ≤ gb187)); have n3_ := Ae.mk ((bez hg : w.heap.size ≤ gb187)); clear HB; have HB := n0_; have BK187 := n1_; have GW187 := n2_; have GE187 := n3_; clear n0_ n1_ n2_ n3_; clear hb hbox hg; have hcz4_0 : w3.cell? ⟨gb187, 0, none⟩ = some (.slice A0_0 lA.length c0_0) := (bC BK187.out 0).trans rfl; have hcz4_1 : w3.cell? ⟨gb187, 1, none⟩ = some (.slice A0_1 lB.length c0_1) := (bC BK187.out 1).trans rfl; have hfz4_0 := bF BK187.out 0; have hfz4_1 := bF BK187.out 1) | ((with_reducible refine gD (N := 3) rfl ?_); refine bE ?hg (N := 3) ?hd (cs := #[.slice none 0 0, .slice none 0 0]) (t := 58) ?hr ?_; (case hd => rfl); (case hg => rfl); (case hr => first | (go_simp; done) | (go_simp; rfl)); intro gb188 hg w5 hbox hb; have n0_ := bb BK187 hb; have n1_ := bes hb; have n2_ := Ae.mk (hbox); have n3_ := Ae.mk ((bez hg : w.heap.size ≤ gb188)); have n4_ := Ae.mk ((bez hg : w.heap.size ≤ gb188)); have n5_ := Ae.mk ((by rw [hg]; exact Nat.ne_of_lt (blk_lt (g := gb187) (o := .cells #[.slice A0_0 lA.length c0_0, .slice A0_1 lB.length c0_1] 25 (0, 0)) bt) : gb187 ≠ gb188)); have n6_ := Ae.mk ((by rw [hg]; exact Nat.ne_of_gt (blk_lt (g := gb187) (o := .cells #[.slice A0_0 lA.length c0_0, .slice A0_1 lB.length c0_1] 25 (0, 0)) bt) : gb188 ≠ gb187)); clear BK187; clear HB; have BK187 := n0_; have HB := n1_; have BK188 := n2_; have GW188 := n3_; have GE188 := n4_; have NB187_188 := n5_; have NB188_187 := n6_; clear n0_ n1_ n2_ n3_ n4_ n5_ n6_; clear hb hbox hg; have hnb6 := NB188_187.out; have hnc6 := NB187_188.out; have hcz7_0 : w5.cell? ⟨gb188, 0, none⟩ = some (.slice none 0 0) := (bC BK188.out 0).trans rfl; have hcz7_1 : w5.cell? ⟨gb188, 1, none⟩ = some (.slice none 0 0) := (bC BK188.out 1).trans rfl; have hfz7_0 := bF BK188.out 0; have hfz7_1 := bF BK188.out 1; have hcz8_0 : w5.cell? ⟨gb187, 0, none⟩ = some (.slice A0_0 lA.length c0_0) := (bC BK187.out 0).trans rfl; have hcz8_1 : w5.cell? ⟨gb187, 1, none⟩ = some (.slice A0_1 lB.length c0_1) := (bC BK187.out 1).trans rfl; have hfz8_0 := bF BK187.out 0; have hfz8_1 := bF BK187.out 1))
 (try simp only [Act.put, List.setIfInBounds_toArray, List.set_cons_zero, List.set_cons_succ])
 go_cut [49] (fun v49 wc => ∃ (kq : Nat) (x49_1 : Bool), v49 = .bool x49_1 ∧ Ae (cC.j0 kq x49_1 lA lB lA lB = some r) ∧ Ae (kq ≤ k) ∧ Ae (wc.heap[gb187]? = some (.cells #[(.slice A0_0 lA.length c0_0), (.slice A0_1 lB.length c0_1)] 25 (0, 0))) ∧ Ae (wc.heap[gb188]? = some (.cells #[(.slice A0_0 lA.length c0_0), (.slice A0_1 lB.length c0_1)] 58 (0, 0))) ∧ Ae (Below w.heap.size w wc))
 case first =>
  have H := HC2.out
  clear HC2
  by_cases c9 : (lA.length : Int) < 1
  ·rw [if_pos c9] at H
   have c9b0 : decide ((lA.length : Int) < 1) = true := decide_eq_true c9
   have c9b1 : decide (lA.length < 1) = true := decide_eq_true (by omega)
   clear c9
   (first | rw [c9b0] | (simp only [i64_w, i32_w]; rw [c9b0]) | skip)
   have H' := Ae.mk H
   clear H
   go_wp2
   go_meet
   case rel => exact ⟨_, (true), pv, H', ⟨by first | omega | exact Nat.le_refl _⟩, ⟨bt⟩, ⟨bt⟩, ⟨bel⟩⟩
  ·rw [if_neg c9] at H
   have c9b0 : decide ((lA.length : Int) < 1) = false := decide_eq_false c9
   have c9b1 : decide (lA.length < 1) = false := decide_eq_false (by omega)
   clear c9
   (first | rw [c9b0] | (simp only [i64_w, i32_w]; rw [c9b0]) | skip)
   by_cases c10 : (lA.length : Int) > 20000
   ·rw [if_pos c10] at H
    have c10b0 : decide (20000 < (lA.length : Int)) = true := decide_eq_true c10
    have c10b1 : decide (20000 < lA.length) = true := decide_eq_true (by omega)
    clear c10
    have H' := Ae.mk H
    clear H
    go_wp2
    go_meet
    case rel => exact ⟨_, (true), pv, H', ⟨by first | omega | exact Nat.le_refl _⟩, ⟨bt⟩, ⟨bt⟩, ⟨bel⟩⟩
   ·rw [if_neg c10] at H
    have c10b0 : decide (20000 < (lA.length : Int)) = false := decide_eq_false c10
    have c10b1 : decide (20000 < lA.length) = false := decide_eq_false (by omega)
    clear c10
    by_cases c11 : 0 < (lA.length : Int)
    ·rw [if_pos c11] at H
     have c11b0 : decide (0 < (lA.length : Int)) = true := decide_eq_true c11
     have c11b1 : decide (0 < lA.length) = true := decide_eq_true (by omega)
     clear c11
     by_cases c12 : ((R3 lA 0).f1) = (-1)
     ·rw [if_pos c12] at H
      have c12b0 : (((R3 lA 0).f1) == (-1)) = true := beq_iff_eq.mpr c12
      have c12b1 : (((R3 lA 0).f1) != (-1)) = false := bne_eq_false_iff_eq.mpr c12
      clear c12
      by_cases c13 : ((R3 lA 0).f2) = (-1)
      ·rw [if_pos c13] at H
       have c13b0 : (((R3 lA 0).f2) == (-1)) = true := beq_iff_eq.mpr c13
       have c13b1 : (((R3 lA 0).f2) != (-1)) = false := bne_eq_false_iff_eq.mpr c13
       clear c13
       have H' := Ae.mk H
       clear H
       have hnb14 := NB187_188.out
       have hnc14 := NB188_187.out
       have hcz15_0 : w5.cell? ⟨gb187, 0, none⟩ = some (.slice A0_0 lA.length c0_0) := (bC BK187.out 0).trans rfl
       have hcz15_1 : w5.cell? ⟨gb187, 1, none⟩ = some (.slice A0_1 lB.length c0_1) := (bC BK187.out 1).trans rfl
       have hfz15_0 := bF BK187.out 0
       have hfz15_1 := bF BK187.out 1
       have p189 : 0 ≤ (0 : Int) := (by omega)
       have q189 : 0 < (lA.length : Int) := of_decide_eq_true ass
       obtain ⟨ad189, A189_5, c189_5, e189, hx189_0, hx189_1, hx189_2, hx189_3, hx189_4, hx189_5, hl189_5, hi189_5⟩ := at_T30 HR0_0.out 0 p189 q189
       cases e189
       have qi189 : (0 < lA.length) = True := eq_true (by omega)
       (try rw [show ((0 : Int)).toNat = 0 from rfl] at hx189_0)
       (try rw [show 0 * 6 = 0 from rfl] at hx189_0)
       (try rw [Addr.add_zero'] at hx189_0)
       (try rw [show ((0 : Int)).toNat = 0 from rfl] at hx189_1)
       (try rw [show 0 * 6 = 0 from rfl] at hx189_1)
       (try rw [Addr.add_zero'] at hx189_1)
       (try rw [show ((0 : Int)).toNat = 0 from rfl] at hx189_2)
       (try rw [show 0 * 6 = 0 from rfl] at hx189_2)
       (try rw [Addr.add_zero'] at hx189_2)
       (try rw [show ((0 : Int)).toNat = 0 from rfl] at hx189_3)
       (try rw [show 0 * 6 = 0 from rfl] at hx189_3)
       (try rw [Addr.add_zero'] at hx189_3)
       (try rw [show ((0 : Int)).toNat = 0 from rfl] at hx189_4)
       (try rw [show 0 * 6 = 0 from rfl] at hx189_4)
       (try rw [Addr.add_zero'] at hx189_4)
       (try rw [show ((0 : Int)).toNat = 0 from rfl] at hx189_5)
       (try rw [show 0 * 6 = 0 from rfl] at hx189_5)
       (try rw [Addr.add_zero'] at hx189_5)
       have hn189_0 : ad189.block ≠ gb188 := Nat.ne_of_lt (Nat.lt_of_lt_of_le (by have := World.block_lt_of_cell? _ _ hx189_0; first | rwa [add_block] at this | exact this) GW188.out)
       have hn189_1 : ad189.block ≠ gb188 := Nat.ne_of_lt (Nat.lt_of_lt_of_le (by have := World.block_lt_of_cell? _ _ hx189_0; first | rwa [add_block] at this | exact this) GW188.out)
       replace hx189_0 := cq HB hx189_0
       replace hx189_1 := cq HB hx189_1
       replace hx189_2 := cq HB hx189_2
       replace hx189_3 := cq HB hx189_3
       replace hx189_4 := cq HB hx189_4
       replace hx189_5 := cq HB hx189_5
       have HR189_5 := Ae.mk hi189_5
       have HC189_5 := Ae.mk hl189_5
       clear hi189_5 hl189_5
       replace hx189_0 := (cell_far (p := ⟨gb188, 0, none⟩) (nn hn189_0) (.slice (some ad189) lA.length c0_0)).trans hx189_0
       replace hx189_1 := (cell_far (p := ⟨gb188, 0, none⟩) (nn hn189_0) (.slice (some ad189) lA.length c0_0)).trans hx189_1
       replace hx189_2 := (cell_far (p := ⟨gb188, 0, none⟩) (nn hn189_0) (.slice (some ad189) lA.length c0_0)).trans hx189_2
       replace hx189_3 := (cell_far (p := ⟨gb188, 0, none⟩) (nn hn189_0) (.slice (some ad189) lA.length c0_0)).trans hx189_3
       replace hx189_4 := (cell_far (p := ⟨gb188, 0, none⟩) (nn hn189_0) (.slice (some ad189) lA.length c0_0)).trans hx189_4
       replace hx189_5 := (cell_far (p := ⟨gb188, 0, none⟩) (nn hn189_0) (.slice (some ad189) lA.length c0_0)).trans hx189_5
       replace hx189_0 := (cell_far (p := ⟨gb188, 1, none⟩) (nn hn189_1) (.slice A0_1 lB.length c0_1)).trans hx189_0
       replace hx189_1 := (cell_far (p := ⟨gb188, 1, none⟩) (nn hn189_1) (.slice A0_1 lB.length c0_1)).trans hx189_1
       replace hx189_2 := (cell_far (p := ⟨gb188, 1, none⟩) (nn hn189_1) (.slice A0_1 lB.length c0_1)).trans hx189_2
       replace hx189_3 := (cell_far (p := ⟨gb188, 1, none⟩) (nn hn189_1) (.slice A0_1 lB.length c0_1)).trans hx189_3
       replace hx189_4 := (cell_far (p := ⟨gb188, 1, none⟩) (nn hn189_1) (.slice A0_1 lB.length c0_1)).trans hx189_4
       replace hx189_5 := (cell_far (p := ⟨gb188, 1, none⟩) (nn hn189_1) (.slice A0_1 lB.length c0_1)).trans hx189_5
       clear hn189_0
       clear hn189_1
       replace p189 := eq_true p189
       replace q189 := eq_true q189
       have p190 : 0 ≤ (0 : Int) := (by omega)
       have q190 : 0 < (lA.length : Int) := of_decide_eq_true ass
       obtain ⟨ad190, A190_5, c190_5, e190, hx190_0, hx190_1, hx190_2, hx190_3, hx190_4, hx190_5, hl190_5, hi190_5⟩ := at_T30 HR0_0.out 0 p190 q190
       obtain rfl : ad189 = ad190 := (by injection e190)
       have qi190 : (0 < lA.length) = True := eq_true (by omega)
       (try rw [show ((0 : Int)).toNat = 0 from rfl] at hx190_0)
       (try rw [show 0 * 6 = 0 from rfl] at hx190_0)
       (try rw [Addr.add_zero'] at hx190_0)
       (try rw [show ((0 : Int)).toNat = 0 from rfl] at hx190_1)
       (try rw [show 0 * 6 = 0 from rfl] at hx190_1)
       (try rw [Addr.add_zero'] at hx190_1)
       (try rw [show ((0 : Int)).toNat = 0 from rfl] at hx190_2)
       (try rw [show 0 * 6 = 0 from rfl] at hx190_2)
       (try rw [Addr.add_zero'] at hx190_2)
       (try rw [show ((0 : Int)).toNat = 0 from rfl] at hx190_3)
       (try rw [show 0 * 6 = 0 from rfl] at hx190_3)
       (try rw [Addr.add_zero'] at hx190_3)
       (try rw [show ((0 : Int)).toNat = 0 from rfl] at hx190_4)
       (try rw [show 0 * 6 = 0 from rfl] at hx190_4)
       (try rw [Addr.add_zero'] at hx190_4)
       (try rw [show ((0 : Int)).toNat = 0 from rfl] at hx190_5)
       (try rw [show 0 * 6 = 0 from rfl] at hx190_5)
       (try rw [Addr.add_zero'] at hx190_5)
       have hn190_0 : ad189.block ≠ gb188 := Nat.ne_of_lt (Nat.lt_of_lt_of_le (by have := World.block_lt_of_cell? _ _ hx190_0; first | rwa [add_block] at this | exact this) GW188.out)
       have hn190_1 : ad189.block ≠ gb188 := Nat.ne_of_lt (Nat.lt_of_lt_of_le (by have := World.block_lt_of_cell? _ _ hx190_0; first | rwa [add_block] at this | exact this) GW188.out)
       replace hx190_0 := cq HB hx190_0
       replace hx190_1 := cq HB hx190_1
       replace hx190_2 := cq HB hx190_2
       replace hx190_3 := cq HB hx190_3
       replace hx190_4 := cq HB hx190_4
       replace hx190_5 := cq HB hx190_5
       have HR190_5 := Ae.mk hi190_5
       have HC190_5 := Ae.mk hl190_5
       clear hi190_5 hl190_5
       replace hx190_0 := (cell_far (p := ⟨gb188, 0, none⟩) (nn hn190_0) (.slice (some ad189) lA.length c0_0)).trans hx190_0
       replace hx190_1 := (cell_far (p := ⟨gb188, 0, none⟩) (nn hn190_0) (.slice (some ad189) lA.length c0_0)).trans hx190_1
       replace hx190_2 := (cell_far (p := ⟨gb188, 0, none⟩) (nn hn190_0) (.slice (some ad189) lA.length c0_0)).trans hx190_2
       replace hx190_3 := (cell_far (p := ⟨gb188, 0, none⟩) (nn hn190_0) (.slice (some ad189) lA.length c0_0)).trans hx190_3
       replace hx190_4 := (cell_far (p := ⟨gb188, 0, none⟩) (nn hn190_0) (.slice (some ad189) lA.length c0_0)).trans hx190_4
       replace hx190_5 := (cell_far (p := ⟨gb188, 0, none⟩) (nn hn190_0) (.slice (some ad189) lA.length c0_0)).trans hx190_5
       replace hx190_0 := (cell_far (p := ⟨gb188, 1, none⟩) (nn hn190_1) (.slice A0_1 lB.length c0_1)).trans hx190_0
       replace hx190_1 := (cell_far (p := ⟨gb188, 1, none⟩) (nn hn190_1) (.slice A0_1 lB.length c0_1)).trans hx190_1
       replace hx190_2 := (cell_far (p := ⟨gb188, 1, none⟩) (nn hn190_1) (.slice A0_1 lB.length c0_1)).trans hx190_2
       replace hx190_3 := (cell_far (p := ⟨gb188, 1, none⟩) (nn hn190_1) (.slice A0_1 lB.length c0_1)).trans hx190_3
       replace hx190_4 := (cell_far (p := ⟨gb188, 1, none⟩) (nn hn190_1) (.slice A0_1 lB.length c0_1)).trans hx190_4
       replace hx190_5 := (cell_far (p := ⟨gb188, 1, none⟩) (nn hn190_1) (.slice A0_1 lB.length c0_1)).trans hx190_5
       clear hn190_0
       clear hn190_1
       replace p190 := eq_true p190
       replace q190 := eq_true q190
       have p191 : 0 ≤ (0 : Int) := (by omega)
       have q191 : 0 < (lA.length : Int) := of_decide_eq_true ass
       obtain ⟨ad191, A191_5, c191_5, e191, hx191_0, hx191_1, hx191_2, hx191_3, hx191_4, hx191_5, hl191_5, hi191_5⟩ := at_T30 HR0_0.out 0 p191 q191
       obtain rfl : ad189 = ad191 := (by injection e191)
       have qi191 : (0 < lA.length) = True := eq_true (by omega)
       (try rw [show ((0 : Int)).toNat = 0 from rfl] at hx191_0)
       (try rw [show 0 * 6 = 0 from rfl] at hx191_0)
       (try rw [Addr.add_zero'] at hx191_0)
       (try rw [show ((0 : Int)).toNat = 0 from rfl] at hx191_1)
       (try rw [show 0 * 6 = 0 from rfl] at hx191_1)
       (try rw [Addr.add_zero'] at hx191_1)
       (try rw [show ((0 : Int)).toNat = 0 from rfl] at hx191_2)
       (try rw [show 0 * 6 = 0 from rfl] at hx191_2)
       (try rw [Addr.add_zero'] at hx191_2)
       (try rw [show ((0 : Int)).toNat = 0 from rfl] at hx191_3)
       (try rw [show 0 * 6 = 0 from rfl] at hx191_3)
       (try rw [Addr.add_zero'] at hx191_3)
       (try rw [show ((0 : Int)).toNat = 0 from rfl] at hx191_4)
       (try rw [show 0 * 6 = 0 from rfl] at hx191_4)
       (try rw [Addr.add_zero'] at hx191_4)
       (try rw [show ((0 : Int)).toNat = 0 from rfl] at hx191_5)
       (try rw [show 0 * 6 = 0 from rfl] at hx191_5)
       (try rw [Addr.add_zero'] at hx191_5)
       have hn191_0 : ad189.block ≠ gb188 := Nat.ne_of_lt (Nat.lt_of_lt_of_le (by have := World.block_lt_of_cell? _ _ hx191_0; first | rwa [add_block] at this | exact this) GW188.out)
       have hn191_1 : ad189.block ≠ gb188 := Nat.ne_of_lt (Nat.lt_of_lt_of_le (by have := World.block_lt_of_cell? _ _ hx191_0; first | rwa [add_block] at this | exact this) GW188.out)
       replace hx191_0 := cq HB hx191_0
       replace hx191_1 := cq HB hx191_1
       replace hx191_2 := cq HB hx191_2
       replace hx191_3 := cq HB hx191_3
       replace hx191_4 := cq HB hx191_4
       replace hx191_5 := cq HB hx191_5
       have HR191_5 := Ae.mk hi191_5
       have HC191_5 := Ae.mk hl191_5
       clear hi191_5 hl191_5
       replace hx191_0 := (cell_far (p := ⟨gb188, 0, none⟩) (nn hn191_0) (.slice (some ad189) lA.length c0_0)).trans hx191_0
       replace hx191_1 := (cell_far (p := ⟨gb188, 0, none⟩) (nn hn191_0) (.slice (some ad189) lA.length c0_0)).trans hx191_1
       replace hx191_2 := (cell_far (p := ⟨gb188, 0, none⟩) (nn hn191_0) (.slice (some ad189) lA.length c0_0)).trans hx191_2
       replace hx191_3 := (cell_far (p := ⟨gb188, 0, none⟩) (nn hn191_0) (.slice (some ad189) lA.length c0_0)).trans hx191_3
       replace hx191_4 := (cell_far (p := ⟨gb188, 0, none⟩) (nn hn191_0) (.slice (some ad189) lA.length c0_0)).trans hx191_4
       replace hx191_5 := (cell_far (p := ⟨gb188, 0, none⟩) (nn hn191_0) (.slice (some ad189) lA.length c0_0)).trans hx191_5
       replace hx191_0 := (cell_far (p := ⟨gb188, 1, none⟩) (nn hn191_1) (.slice A0_1 lB.length c0_1)).trans hx191_0
       replace hx191_1 := (cell_far (p := ⟨gb188, 1, none⟩) (nn hn191_1) (.slice A0_1 lB.length c0_1)).trans hx191_1
       replace hx191_2 := (cell_far (p := ⟨gb188, 1, none⟩) (nn hn191_1) (.slice A0_1 lB.length c0_1)).trans hx191_2
       replace hx191_3 := (cell_far (p := ⟨gb188, 1, none⟩) (nn hn191_1) (.slice A0_1 lB.length c0_1)).trans hx191_3
       replace hx191_4 := (cell_far (p := ⟨gb188, 1, none⟩) (nn hn191_1) (.slice A0_1 lB.length c0_1)).trans hx191_4
       replace hx191_5 := (cell_far (p := ⟨gb188, 1, none⟩) (nn hn191_1) (.slice A0_1 lB.length c0_1)).trans hx191_5
       clear hn191_0
       clear hn191_1
       replace p191 := eq_true p191
       replace q191 := eq_true q191
       go_wp2
       go_meet
       case rel => exact ⟨_, ((((R3 lA 0).f3) != 0)), pv, H', ⟨by first | omega | exact Nat.le_refl _⟩, ⟨bt⟩, ⟨bt⟩, ⟨bel⟩⟩
      ·rw [if_neg c13] at H
       have c13b0 : (((R3 lA 0).f2) == (-1)) = false := beq_eq_false_iff_ne.mpr c13
       have c13b1 : (((R3 lA 0).f2) != (-1)) = true := bne_iff_ne.mpr c13
       have H' := Ae.mk H
       clear H
       have hnb16 := NB187_188.out
       have hnc16 := NB188_187.out
       have hcz17_0 : w5.cell? ⟨gb187, 0, none⟩ = some (.slice A0_0 lA.length c0_0) := (bC BK187.out 0).trans rfl
       have hcz17_1 : w5.cell? ⟨gb187, 1, none⟩ = some (.slice A0_1 lB.length c0_1) := (bC BK187.out 1).trans rfl
       have hfz17_0 := bF BK187.out 0
       have hfz17_1 := bF BK187.out 1
       have p189 : 0 ≤ (0 : Int) := (by omega)
       have q189 : 0 < (lA.length : Int) := of_decide_eq_true ass
       obtain ⟨ad189, A189_5, c189_5, e189, hx189_0, hx189_1, hx189_2, hx189_3, hx189_4, hx189_5, hl189_5, hi189_5⟩ := at_T30 HR0_0.out 0 p189 q189
       cases e189
       have qi189 : (0 < lA.length) = True := eq_true (by omega)
       (try rw [show ((0 : Int)).toNat = 0 from rfl] at hx189_0)
       (try rw [show 0 * 6 = 0 from rfl] at hx189_0)
       (try rw [Addr.add_zero'] at hx189_0)
       (try rw [show ((0 : Int)).toNat = 0 from rfl] at hx189_1)
       (try rw [show 0 * 6 = 0 from rfl] at hx189_1)
       (try rw [Addr.add_zero'] at hx189_1)
       (try rw [show ((0 : Int)).toNat = 0 from rfl] at hx189_2)
       (try rw [show 0 * 6 = 0 from rfl] at hx189_2)
       (try rw [Addr.add_zero'] at hx189_2)
       (try rw [show ((0 : Int)).toNat = 0 from rfl] at hx189_3)
       (try rw [show 0 * 6 = 0 from rfl] at hx189_3)
       (try rw [Addr.add_zero'] at hx189_3)
       (try rw [show ((0 : Int)).toNat = 0 from rfl] at hx189_4)
       (try rw [show 0 * 6 = 0 from rfl] at hx189_4)
       (try rw [Addr.add_zero'] at hx189_4)
       (try rw [show ((0 : Int)).toNat = 0 from rfl] at hx189_5)
       (try rw [show 0 * 6 = 0 from rfl] at hx189_5)
       (try rw [Addr.add_zero'] at hx189_5)
       have hn189_0 : ad189.block ≠ gb188 := Nat.ne_of_lt (Nat.lt_of_lt_of_le (by have := World.block_lt_of_cell? _ _ hx189_0; first | rwa [add_block] at this | exact this) GW188.out)
       have hn189_1 : ad189.block ≠ gb188 := Nat.ne_of_lt (Nat.lt_of_lt_of_le (by have := World.block_lt_of_cell? _ _ hx189_0; first | rwa [add_block] at this | exact this) GW188.out)
       replace hx189_0 := cq HB hx189_0
       replace hx189_1 := cq HB hx189_1
       replace hx189_2 := cq HB hx189_2
       replace hx189_3 := cq HB hx189_3
       replace hx189_4 := cq HB hx189_4
       replace hx189_5 := cq HB hx189_5
       have HR189_5 := Ae.mk hi189_5
       have HC189_5 := Ae.mk hl189_5
       clear hi189_5 hl189_5
       replace hx189_0 := (cell_far (p := ⟨gb188, 0, none⟩) (nn hn189_0) (.slice (some ad189) lA.length c0_0)).trans hx189_0
       replace hx189_1 := (cell_far (p := ⟨gb188, 0, none⟩) (nn hn189_0) (.slice (some ad189) lA.length c0_0)).trans hx189_1
       replace hx189_2 := (cell_far (p := ⟨gb188, 0, none⟩) (nn hn189_0) (.slice (some ad189) lA.length c0_0)).trans hx189_2
       replace hx189_3 := (cell_far (p := ⟨gb188, 0, none⟩) (nn hn189_0) (.slice (some ad189) lA.length c0_0)).trans hx189_3
       replace hx189_4 := (cell_far (p := ⟨gb188, 0, none⟩) (nn hn189_0) (.slice (some ad189) lA.length c0_0)).trans hx189_4
       replace hx189_5 := (cell_far (p := ⟨gb188, 0, none⟩) (nn hn189_0) (.slice (some ad189) lA.length c0_0)).trans hx189_5
       replace hx189_0 := (cell_far (p := ⟨gb188, 1, none⟩) (nn hn189_1) (.slice A0_1 lB.length c0_1)).trans hx189_0
       replace hx189_1 := (cell_far (p := ⟨gb188, 1, none⟩) (nn hn189_1) (.slice A0_1 lB.length c0_1)).trans hx189_1
       replace hx189_2 := (cell_far (p := ⟨gb188, 1, none⟩) (nn hn189_1) (.slice A0_1 lB.length c0_1)).trans hx189_2
       replace hx189_3 := (cell_far (p := ⟨gb188, 1, none⟩) (nn hn189_1) (.slice A0_1 lB.length c0_1)).trans hx189_3
       replace hx189_4 := (cell_far (p := ⟨gb188, 1, none⟩) (nn hn189_1) (.slice A0_1 lB.length c0_1)).trans hx189_4
       replace hx189_5 := (cell_far (p := ⟨gb188, 1, none⟩) (nn hn189_1) (.slice A0_1 lB.length c0_1)).trans hx189_5
       clear hn189_0
       clear hn189_1
       replace p189 := eq_true p189
       replace q189 := eq_true q189
       have p190 : 0 ≤ (0 : Int) := (by omega)
       have q190 : 0 < (lA.length : Int) := of_decide_eq_true ass
       obtain ⟨ad190, A190_5, c190_5, e190, hx190_0, hx190_1, hx190_2, hx190_3, hx190_4, hx190_5, hl190_5, hi190_5⟩ := at_T30 HR0_0.out 0 p190 q190
       obtain rfl : ad189 = ad190 := (by injection e190)
       have qi190 : (0 < lA.length) = True := eq_true (by omega)
       (try rw [show ((0 : Int)).toNat = 0 from rfl] at hx190_0)
       (try rw [show 0 * 6 = 0 from rfl] at hx190_0)
       (try rw [Addr.add_zero'] at hx190_0)
       (try rw [show ((0 : Int)).toNat = 0 from rfl] at hx190_1)
       (try rw [show 0 * 6 = 0 from rfl] at hx190_1)
       (try rw [Addr.add_zero'] at hx190_1)
       (try rw [show ((0 : Int)).toNat = 0 from rfl] at hx190_2)
       (try rw [show 0 * 6 = 0 from rfl] at hx190_2)
       (try rw [Addr.add_zero'] at hx190_2)
       (try rw [show ((0 : Int)).toNat = 0 from rfl] at hx190_3)
       (try rw [show 0 * 6 = 0 from rfl] at hx190_3)
       (try rw [Addr.add_zero'] at hx190_3)
       (try rw [show ((0 : Int)).toNat = 0 from rfl] at hx190_4)
       (try rw [show 0 * 6 = 0 from rfl] at hx190_4)
       (try rw [Addr.add_zero'] at hx190_4)
       (try rw [show ((0 : Int)).toNat = 0 from rfl] at hx190_5)
       (try rw [show 0 * 6 = 0 from rfl] at hx190_5)
       (try rw [Addr.add_zero'] at hx190_5)
       have hn190_0 : ad189.block ≠ gb188 := Nat.ne_of_lt (Nat.lt_of_lt_of_le (by have := World.block_lt_of_cell? _ _ hx190_0; first | rwa [add_block] at this | exact this) GW188.out)
       have hn190_1 : ad189.block ≠ gb188 := Nat.ne_of_lt (Nat.lt_of_lt_of_le (by have := World.block_lt_of_cell? _ _ hx190_0; first | rwa [add_block] at this | exact this) GW188.out)
       replace hx190_0 := cq HB hx190_0
       replace hx190_1 := cq HB hx190_1
       replace hx190_2 := cq HB hx190_2
       replace hx190_3 := cq HB hx190_3
       replace hx190_4 := cq HB hx190_4
       replace hx190_5 := cq HB hx190_5
       have HR190_5 := Ae.mk hi190_5
       have HC190_5 := Ae.mk hl190_5
       clear hi190_5 hl190_5
       replace hx190_0 := (cell_far (p := ⟨gb188, 0, none⟩) (nn hn190_0) (.slice (some ad189) lA.length c0_0)).trans hx190_0
       replace hx190_1 := (cell_far (p := ⟨gb188, 0, none⟩) (nn hn190_0) (.slice (some ad189) lA.length c0_0)).trans hx190_1
       replace hx190_2 := (cell_far (p := ⟨gb188, 0, none⟩) (nn hn190_0) (.slice (some ad189) lA.length c0_0)).trans hx190_2
       replace hx190_3 := (cell_far (p := ⟨gb188, 0, none⟩) (nn hn190_0) (.slice (some ad189) lA.length c0_0)).trans hx190_3
       replace hx190_4 := (cell_far (p := ⟨gb188, 0, none⟩) (nn hn190_0) (.slice (some ad189) lA.length c0_0)).trans hx190_4
       replace hx190_5 := (cell_far (p := ⟨gb188, 0, none⟩) (nn hn190_0) (.slice (some ad189) lA.length c0_0)).trans hx190_5
       replace hx190_0 := (cell_far (p := ⟨gb188, 1, none⟩) (nn hn190_1) (.slice A0_1 lB.length c0_1)).trans hx190_0
       replace hx190_1 := (cell_far (p := ⟨gb188, 1, none⟩) (nn hn190_1) (.slice A0_1 lB.length c0_1)).trans hx190_1
       replace hx190_2 := (cell_far (p := ⟨gb188, 1, none⟩) (nn hn190_1) (.slice A0_1 lB.length c0_1)).trans hx190_2
       replace hx190_3 := (cell_far (p := ⟨gb188, 1, none⟩) (nn hn190_1) (.slice A0_1 lB.length c0_1)).trans hx190_3
       replace hx190_4 := (cell_far (p := ⟨gb188, 1, none⟩) (nn hn190_1) (.slice A0_1 lB.length c0_1)).trans hx190_4
       replace hx190_5 := (cell_far (p := ⟨gb188, 1, none⟩) (nn hn190_1) (.slice A0_1 lB.length c0_1)).trans hx190_5
       clear hn190_0
       clear hn190_1
       replace p190 := eq_true p190
       replace q190 := eq_true q190
       go_wp2
       go_meet
       case rel => exact ⟨_, (true), pv, H', ⟨by first | omega | exact Nat.le_refl _⟩, ⟨bt⟩, ⟨bt⟩, ⟨bel⟩⟩
     ·rw [if_neg c12] at H
      have c12b0 : (((R3 lA 0).f1) == (-1)) = false := beq_eq_false_iff_ne.mpr c12
      have c12b1 : (((R3 lA 0).f1) != (-1)) = true := bne_iff_ne.mpr c12
      have H' := Ae.mk H
      clear H
      have hnb18 := NB187_188.out
      have hnc18 := NB188_187.out
      have hcz19_0 : w5.cell? ⟨gb187, 0, none⟩ = some (.slice A0_0 lA.length c0_0) := (bC BK187.out 0).trans rfl
      have hcz19_1 : w5.cell? ⟨gb187, 1, none⟩ = some (.slice A0_1 lB.length c0_1) := (bC BK187.out 1).trans rfl
      have hfz19_0 := bF BK187.out 0
      have hfz19_1 := bF BK187.out 1
      have p189 : 0 ≤ (0 : Int) := (by omega)
      have q189 : 0 < (lA.length : Int) := of_decide_eq_true ass
      obtain ⟨ad189, A189_5, c189_5, e189, hx189_0, hx189_1, hx189_2, hx189_3, hx189_4, hx189_5, hl189_5, hi189_5⟩ := at_T30 HR0_0.out 0 p189 q189
      cases e189
      have qi189 : (0 < lA.length) = True := eq_true (by omega)
      (try rw [show ((0 : Int)).toNat = 0 from rfl] at hx189_0)
      (try rw [show 0 * 6 = 0 from rfl] at hx189_0)
      (try rw [Addr.add_zero'] at hx189_0)
      (try rw [show ((0 : Int)).toNat = 0 from rfl] at hx189_1)
      (try rw [show 0 * 6 = 0 from rfl] at hx189_1)
      (try rw [Addr.add_zero'] at hx189_1)
      (try rw [show ((0 : Int)).toNat = 0 from rfl] at hx189_2)
      (try rw [show 0 * 6 = 0 from rfl] at hx189_2)
      (try rw [Addr.add_zero'] at hx189_2)
      (try rw [show ((0 : Int)).toNat = 0 from rfl] at hx189_3)
      (try rw [show 0 * 6 = 0 from rfl] at hx189_3)
      (try rw [Addr.add_zero'] at hx189_3)
      (try rw [show ((0 : Int)).toNat = 0 from rfl] at hx189_4)
      (try rw [show 0 * 6 = 0 from rfl] at hx189_4)
      (try rw [Addr.add_zero'] at hx189_4)
      (try rw [show ((0 : Int)).toNat = 0 from rfl] at hx189_5)
      (try rw [show 0 * 6 = 0 from rfl] at hx189_5)
      (try rw [Addr.add_zero'] at hx189_5)
      have hn189_0 : ad189.block ≠ gb188 := Nat.ne_of_lt (Nat.lt_of_lt_of_le (by have := World.block_lt_of_cell? _ _ hx189_0; first | rwa [add_block] at this | exact this) GW188.out)
      have hn189_1 : ad189.block ≠ gb188 := Nat.ne_of_lt (Nat.lt_of_lt_of_le (by have := World.block_lt_of_cell? _ _ hx189_0; first | rwa [add_block] at this | exact this) GW188.out)
      replace hx189_0 := cq HB hx189_0
      replace hx189_1 := cq HB hx189_1
      replace hx189_2 := cq HB hx189_2
      replace hx189_3 := cq HB hx189_3
      replace hx189_4 := cq HB hx189_4
      replace hx189_5 := cq HB hx189_5
      have HR189_5 := Ae.mk hi189_5
      have HC189_5 := Ae.mk hl189_5
      clear hi189_5 hl189_5
      replace hx189_0 := (cell_far (p := ⟨gb188, 0, none⟩) (nn hn189_0) (.slice (some ad189) lA.length c0_0)).trans hx189_0
      replace hx189_1 := (cell_far (p := ⟨gb188, 0, none⟩) (nn hn189_0) (.slice (some ad189) lA.length c0_0)).trans hx189_1
      replace hx189_2 := (cell_far (p := ⟨gb188, 0, none⟩) (nn hn189_0) (.slice (some ad189) lA.length c0_0)).trans hx189_2
      replace hx189_3 := (cell_far (p := ⟨gb188, 0, none⟩) (nn hn189_0) (.slice (some ad189) lA.length c0_0)).trans hx189_3
      replace hx189_4 := (cell_far (p := ⟨gb188, 0, none⟩) (nn hn189_0) (.slice (some ad189) lA.length c0_0)).trans hx189_4
      replace hx189_5 := (cell_far (p := ⟨gb188, 0, none⟩) (nn hn189_0) (.slice (some ad189) lA.length c0_0)).trans hx189_5
      replace hx189_0 := (cell_far (p := ⟨gb188, 1, none⟩) (nn hn189_1) (.slice A0_1 lB.length c0_1)).trans hx189_0
      replace hx189_1 := (cell_far (p := ⟨gb188, 1, none⟩) (nn hn189_1) (.slice A0_1 lB.length c0_1)).trans hx189_1
      replace hx189_2 := (cell_far (p := ⟨gb188, 1, none⟩) (nn hn189_1) (.slice A0_1 lB.length c0_1)).trans hx189_2
      replace hx189_3 := (cell_far (p := ⟨gb188, 1, none⟩) (nn hn189_1) (.slice A0_1 lB.length c0_1)).trans hx189_3
      replace hx189_4 := (cell_far (p := ⟨gb188, 1, none⟩) (nn hn189_1) (.slice A0_1 lB.length c0_1)).trans hx189_4
      replace hx189_5 := (cell_far (p := ⟨gb188, 1, none⟩) (nn hn189_1) (.slice A0_1 lB.length c0_1)).trans hx189_5
      clear hn189_0
      clear hn189_1
      replace p189 := eq_true p189
      replace q189 := eq_true q189
      go_wp2
      go_meet
      case rel => exact ⟨_, (true), pv, H', ⟨by first | omega | exact Nat.le_refl _⟩, ⟨bt⟩, ⟨bt⟩, ⟨bel⟩⟩
    ·rw [if_neg c11] at H
     exact absurd H (by simp)
 case rest =>
  clear HC2
  obtain ⟨kq, x49_1, rfl, HA, HJ1, BK187, BK188, HB⟩ := hcut
  cases kq with
  | zero => exact absurd HA.out (by simp [cC.j0])
  | succ kj1 =>
   have H := HA.out
   clear HA
   simp only [cC.j0] at H
   by_cases c20 : x49_1 = true
   ·subst c20
    have H1 : (some 190) = some r := by rw [if_pos rfl] at H; exact H
    clear H
    have H := H1
    clear H1
    obtain rfl := Option.some.inj H
    go_wp2
    go_ret
    exact fn
   ·replace c20 := Bool.eq_false_iff.mpr c20
    subst c20
    have H1 : (cC.l0 kj1 262144 lA (lA.length : Int) 0 lA lB lA lB) = some r := by rw [if_neg (show ¬ (false = true) by decide)] at H; exact H
    clear H
    have H := H1
    clear H1
    have H' := Ae.mk H
    clear H
    have hnb21 := NB187_188.out
    have hnc21 := NB188_187.out
    have hcz22_0 : wc.cell? ⟨gb187, 0, none⟩ = some (.slice A0_0 lA.length c0_0) := (bC BK187.out 0).trans rfl
    have hcz22_1 : wc.cell? ⟨gb187, 1, none⟩ = some (.slice A0_1 lB.length c0_1) := (bC BK187.out 1).trans rfl
    have hfz22_0 := bF BK187.out 0
    have hfz22_1 := bF BK187.out 1
    go_wp2
    go_loopg [5, 53] kj1 (fun kq v5 v53 w' => ∃ (x5_2 : Int) (x53_2 : Int), v5 = .int .i64 x5_2 ∧ v53 = .int .i64 x53_2 ∧ Ae (cC.l0 kq x5_2 lA (lA.length : Int) x53_2 lA lB lA lB = some r) ∧ Ae (kq ≤ kj1) ∧ Ae (w'.heap[gb187]? = some (.cells #[(.slice A0_0 lA.length c0_0), (.slice A0_1 lB.length c0_1)] 25 (0, 0))) ∧ Ae (w'.heap[gb188]? = some (.cells #[(.slice A0_0 lA.length c0_0), (.slice A0_1 lB.length c0_1)] 58 (0, 0))) ∧ Ae (Below w.heap.size w w'))
    case atStart => exact ⟨(262144), (0), pv, pv, H', ⟨Nat.le_refl _⟩, ⟨bt⟩, ⟨bt⟩, ⟨bel⟩⟩
    case round =>
     clear H'
     obtain ⟨x5_2, x53_2, rfl, rfl, HA, HK2, BK187, BK188, HB⟩ := hrel
     cases gk with
     | zero => exact absurd HA.out (by simp [cC.l0])
     | succ k2 =>
      have H := HA.out
      clear HA
      simp only [cC.l0] at H
      by_cases c23 : x53_2 < (lA.length : Int)
      ·rw [if_pos c23] at H
       have c23b0 : decide (x53_2 < (lA.length : Int)) = true := decide_eq_true c23
       clear c23
       by_cases c24 : 0 ≤ x53_2
       ·rw [if_pos c24] at H
        have c24b0 : decide (0 ≤ x53_2) = true := decide_eq_true c24
        clear c24
        by_cases c25 : x53_2 < (lA.length : Int)
        ·rw [if_pos c25] at H
         have c25b0 : decide (x53_2 < (lA.length : Int)) = true := decide_eq_true c25
         clear c25
         by_cases c26 : (wrap64 (x5_2 - (((R3 lA x53_2).f5).length : Int))) < 0
         ·rw [if_pos c26] at H
          have c26b0 : decide ((wrap64 (x5_2 - (((R3 lA x53_2).f5).length : Int))) < 0) = true := decide_eq_true c26
          clear c26
          obtain rfl := Option.some.inj H
          have p192 : 0 ≤ (x53_2 : Int) := of_decide_eq_true ass
          have q192 : x53_2 < (lA.length : Int) := of_decide_eq_true ass
          obtain ⟨ad192, A192_5, c192_5, e192, hx192_0, hx192_1, hx192_2, hx192_3, hx192_4, hx192_5, hl192_5, hi192_5⟩ := at_T30 HR0_0.out x53_2 p192 q192
          cases e192
          replace hx192_0 := cq HB hx192_0
          replace hx192_1 := cq HB hx192_1
          replace hx192_2 := cq HB hx192_2
          replace hx192_3 := cq HB hx192_3
          replace hx192_4 := cq HB hx192_4
          replace hx192_5 := cq HB hx192_5
          have HR192_5 := Ae.mk hi192_5
          have HC192_5 := Ae.mk hl192_5
          clear hi192_5 hl192_5
          replace p192 := eq_true p192
          replace q192 := eq_true q192
          go_wp2_with (first | ((with_reducible refine gD (N := 7) rfl ?_); refine bE ?hg (N := 7) ?hd (cs := #[.string (⟨#[]⟩ : ByteArray), .int .i64 0, .int .i64 0, .int .i64 0, .int .i64 0, .slice none 0 0]) (t := 30) ?hr ?_; (case hd => rfl); (case hg => rfl); (case hr => first | (go_simp; done) | (go_simp; rfl)); intro gb193 hg w27 hbox hb; have n0_ := bb BK187 hb; have n1_ := bb BK188 hb; have n2_ := bes hb; have n3_ := Ae.mk (hbox); have n4_ := Ae.mk ((bez hg : w.heap.size ≤ gb193)); have n5_ := Ae.mk ((bez hg : w.heap.size ≤ gb193)); have n6_ := Ae.mk ((by rw [hg]; exact Nat.ne_of_lt (blk_lt (g := gb187) (o := .cells #[.slice (some ad192) lA.length c0_0, .slice A0_1 lB.length c0_1] 25 (0, 0)) bt) : gb187 ≠ gb193)); have n7_ := Ae.mk ((by rw [hg]; exact Nat.ne_of_gt (blk_lt (g := gb187) (o := .cells #[.slice (some ad192) lA.length c0_0, .slice A0_1 lB.length c0_1] 25 (0, 0)) bt) : gb193 ≠ gb187)); have n8_ := Ae.mk ((by rw [hg]; exact Nat.ne_of_lt (blk_lt (g := gb188) (o := .cells #[.slice (some ad192) lA.length c0_0, .slice A0_1 lB.length c0_1] 58 (0, 0)) bt) : gb188 ≠ gb193)); have n9_ := Ae.mk ((by rw [hg]; exact Nat.ne_of_gt (blk_lt (g := gb188) (o := .cells #[.slice (some ad192) lA.length c0_0, .slice A0_1 lB.length c0_1] 58 (0, 0)) bt) : gb193 ≠ gb188)); clear BK187; clear BK188; clear HB; have BK187 := n0_; have BK188 := n1_; have HB := n2_; have BK193 := n3_; have GW193 := n4_; have GE193 := n5_; have NB187_193 := n6_; have NB193_187 := n7_; have NB188_193 := n8_; have NB193_188 := n9_; clear n0_ n1_ n2_ n3_ n4_ n5_ n6_ n7_ n8_ n9_; clear hb hbox hg; have hnb28 := NB193_187.out; have hnc28 := NB187_193.out; have hnb29 := NB193_188.out; have hnc29 := NB188_193.out; have hcz30_0 : w27.cell? ⟨gb193, 0, none⟩ = some (.string (⟨#[]⟩ : ByteArray)) := (bC BK193.out 0).trans rfl; have hcz30_1 : w27.cell? ⟨gb193, 1, none⟩ = some (.int .i64 0) := (bC BK193.out 1).trans rfl; have hcz30_2 : w27.cell? ⟨gb193, 2, none⟩ = some (.int .i64 0) := (bC BK193.out 2).trans rfl; have hcz30_3 : w27.cell? ⟨gb193, 3, none⟩ = some (.int .i64 0) := (bC BK193.out 3).trans rfl; have hcz30_4 : w27.cell? ⟨gb193, 4, none⟩ = some (.int .i64 0) := (bC BK193.out 4).trans rfl; have hcz30_5 : w27.cell? ⟨gb193, 5, none⟩ = some (.slice none 0 0) := (bC BK193.out 5).trans rfl; have hfz30_0 := bF BK193.out 0; have hfz30_1 := bF BK193.out 1; have hfz30_2 := bF BK193.out 2; have hfz30_3 := bF BK193.out 3; have hfz30_4 := bF BK193.out 4; have hfz30_5 := bF BK193.out 5))
          go_ret
          exact fn
         ·rw [if_neg c26] at H
          have c26b0 : decide ((wrap64 (x5_2 - (((R3 lA x53_2).f5).length : Int))) < 0) = false := decide_eq_false c26
          clear c26
          replace H := Option.bind_eq_some_iff.mp H
          obtain ⟨t194, A310, H⟩ := H
          replace H : (if t194 = true then (cC.l0 k2 (wrap64 (x5_2 - (((R3 lA x53_2).f5).length : Int))) lA (lA.length : Int) (wrap64 (x53_2 + 1)) lA lB lA lB) else (some 190)) = some r := H
          have A31 := Ae.mk A310
          clear A310
          by_cases c32 : t194 = true
          ·subst c32
           have H1 : (cC.l0 k2 (wrap64 (x5_2 - (((R3 lA x53_2).f5).length : Int))) lA (lA.length : Int) (wrap64 (x53_2 + 1)) lA lB lA lB) = some r := by rw [if_pos rfl] at H; exact H
           clear H
           have H := H1
           clear H1
           have H' := Ae.mk H
           clear H
           have p192 : 0 ≤ (x53_2 : Int) := of_decide_eq_true ass
           have q192 : x53_2 < (lA.length : Int) := of_decide_eq_true ass
           obtain ⟨ad192, A192_5, c192_5, e192, hx192_0, hx192_1, hx192_2, hx192_3, hx192_4, hx192_5, hl192_5, hi192_5⟩ := at_T30 HR0_0.out x53_2 p192 q192
           cases e192
           replace hx192_0 := cq HB hx192_0
           replace hx192_1 := cq HB hx192_1
           replace hx192_2 := cq HB hx192_2
           replace hx192_3 := cq HB hx192_3
           replace hx192_4 := cq HB hx192_4
           replace hx192_5 := cq HB hx192_5
           have HR192_5 := Ae.mk hi192_5
           have HC192_5 := Ae.mk hl192_5
           clear hi192_5 hl192_5
           replace p192 := eq_true p192
           replace q192 := eq_true q192
           go_wp2_with (first | ((with_reducible refine gD (N := 7) rfl ?_); refine bE ?hg (N := 7) ?hd (cs := #[.string (⟨#[]⟩ : ByteArray), .int .i64 0, .int .i64 0, .int .i64 0, .int .i64 0, .slice none 0 0]) (t := 30) ?hr ?_; (case hd => rfl); (case hg => rfl); (case hr => first | (go_simp; done) | (go_simp; rfl)); intro gb193 hg w33 hbox hb; have n0_ := bb BK187 hb; have n1_ := bb BK188 hb; have n2_ := bes hb; have n3_ := Ae.mk (hbox); have n4_ := Ae.mk ((bez hg : w.heap.size ≤ gb193)); have n5_ := Ae.mk ((bez hg : w.heap.size ≤ gb193)); have n6_ := Ae.mk ((by rw [hg]; exact Nat.ne_of_lt (blk_lt (g := gb187) (o := .cells #[.slice (some ad192) lA.length c0_0, .slice A0_1 lB.length c0_1] 25 (0, 0)) bt) : gb187 ≠ gb193)); have n7_ := Ae.mk ((by rw [hg]; exact Nat.ne_of_gt (blk_lt (g := gb187) (o := .cells #[.slice (some ad192) lA.length c0_0, .slice A0_1 lB.length c0_1] 25 (0, 0)) bt) : gb193 ≠ gb187)); have n8_ := Ae.mk ((by rw [hg]; exact Nat.ne_of_lt (blk_lt (g := gb188) (o := .cells #[.slice (some ad192) lA.length c0_0, .slice A0_1 lB.length c0_1] 58 (0, 0)) bt) : gb188 ≠ gb193)); have n9_ := Ae.mk ((by rw [hg]; exact Nat.ne_of_gt (blk_lt (g := gb188) (o := .cells #[.slice (some ad192) lA.length c0_0, .slice A0_1 lB.length c0_1] 58 (0, 0)) bt) : gb193 ≠ gb188)); clear BK187; clear BK188; clear HB; have BK187 := n0_; have BK188 := n1_; have HB := n2_; have BK193 := n3_; have GW193 := n4_; have GE193 := n5_; have NB187_193 := n6_; have NB193_187 := n7_; have NB188_193 := n8_; have NB193_188 := n9_; clear n0_ n1_ n2_ n3_ n4_ n5_ n6_ n7_ n8_ n9_; clear hb hbox hg; have hnb34 := NB193_187.out; have hnc34 := NB187_193.out; have hnb35 := NB193_188.out; have hnc35 := NB188_193.out; have hcz36_0 : w33.cell? ⟨gb193, 0, none⟩ = some (.string (⟨#[]⟩ : ByteArray)) := (bC BK193.out 0).trans rfl; have hcz36_1 : w33.cell? ⟨gb193, 1, none⟩ = some (.int .i64 0) := (bC BK193.out 1).trans rfl; have hcz36_2 : w33.cell? ⟨gb193, 2, none⟩ = some (.int .i64 0) := (bC BK193.out 2).trans rfl; have hcz36_3 : w33.cell? ⟨gb193, 3, none⟩ = some (.int .i64 0) := (bC BK193.out 3).trans rfl; have hcz36_4 : w33.cell? ⟨gb193, 4, none⟩ = some (.int .i64 0) := (bC BK193.out 4).trans rfl; have hcz36_5 : w33.cell? ⟨gb193, 5, none⟩ = some (.slice none 0 0) := (bC BK193.out 5).trans rfl; have hfz36_0 := bF BK193.out 0; have hfz36_1 := bF BK193.out 1; have hfz36_2 := bF BK193.out 2; have hfz36_3 := bF BK193.out 3; have hfz36_4 := bF BK193.out 4; have hfz36_5 := bF BK193.out 5; have hnb37 := NB188_187.out; have hnc37 := NB187_188.out; have hcz38_0 : w33.cell? ⟨gb188, 0, none⟩ = some (.slice (some ad192) lA.length c0_0) := (bC BK188.out 0).trans rfl; have hcz38_1 : w33.cell? ⟨gb188, 1, none⟩ = some (.slice A0_1 lB.length c0_1) := (bC BK188.out 1).trans rfl; have hfz38_0 := bF BK188.out 0; have hfz38_1 := bF BK188.out 1) | (go_at_call 20; (with_reducible refine (code_program_shape.calls _ _ lA _ _ lB x53_2 true _ ?side1 ?side2 ?side3 ?side4 A31.out).mono ?_); (case side1 => exact Kd.C_below HR0_0.out bel); (case side2 => exact HC0_0.out); (case side3 => exact Kd.C_below HR0_1.out bel); (case side4 => exact HC0_1.out); rintro e w39 ⟨rfl, hb⟩; have n0_ := bb BK187 hb; have n1_ := bb BK188 hb; have n2_ := Ae.mk (blk_below (g := gb193) (o := .cells #[.string ((R3 lA x53_2).f0), .int .i64 ((R3 lA x53_2).f1), .int .i64 ((R3 lA x53_2).f2), .int .i64 ((R3 lA x53_2).f3), .int .i64 ((R3 lA x53_2).f4), .slice A192_5 ((R3 lA x53_2).f5).length c192_5] 30 (0, 0)) bt hb); have n3_ := bes hb; clear BK187; clear BK188; clear BK193; clear HB; have BK187 := n0_; have BK188 := n1_; have BK193 := n2_; have HB := n3_; clear n0_ n1_ n2_ n3_; (try clear hb); (try clear hb2); (try clear hk); (try clear hi)))
           go_roundg k2
           case measure => have := HJ1.out; have := HK2.out; omega
           case rel => exact ⟨(wrap64 (x5_2 - (((R3 lA x53_2).f5).length : Int))), (wrap64 (x53_2 + 1)), pv, pv, H', ⟨by have := HJ1.out; have := HK2.out; omega⟩, ⟨bt⟩, ⟨bt⟩, ⟨bel⟩⟩
          ·replace c32 := Bool.eq_false_iff.mpr c32
           subst c32
           have H1 : (some 190) = some r := by rw [if_neg (show ¬ (false = true) by decide)] at H; exact H
           clear H
           have H := H1
           clear H1
           obtain rfl := Option.some.inj H
           have p192 : 0 ≤ (x53_2 : Int) := of_decide_eq_true ass
           have q192 : x53_2 < (lA.length : Int) := of_decide_eq_true ass
           obtain ⟨ad192, A192_5, c192_5, e192, hx192_0, hx192_1, hx192_2, hx192_3, hx192_4, hx192_5, hl192_5, hi192_5⟩ := at_T30 HR0_0.out x53_2 p192 q192
           cases e192
           replace hx192_0 := cq HB hx192_0
           replace hx192_1 := cq HB hx192_1
           replace hx192_2 := cq HB hx192_2
           replace hx192_3 := cq HB hx192_3
           replace hx192_4 := cq HB hx192_4
           replace hx192_5 := cq HB hx192_5
           have HR192_5 := Ae.mk hi192_5
           have HC192_5 := Ae.mk hl192_5
           clear hi192_5 hl192_5
           replace p192 := eq_true p192
           replace q192 := eq_true q192
           go_wp2_with (first | ((with_reducible refine gD (N := 7) rfl ?_); refine bE ?hg (N := 7) ?hd (cs := #[.string (⟨#[]⟩ : ByteArray), .int .i64 0, .int .i64 0, .int .i64 0, .int .i64 0, .slice none 0 0]) (t := 30) ?hr ?_; (case hd => rfl); (case hg => rfl); (case hr => first | (go_simp; done) | (go_simp; rfl)); intro gb193 hg w40 hbox hb; have n0_ := bb BK187 hb; have n1_ := bb BK188 hb; have n2_ := bes hb; have n3_ := Ae.mk (hbox); have n4_ := Ae.mk ((bez hg : w.heap.size ≤ gb193)); have n5_ := Ae.mk ((bez hg : w.heap.size ≤ gb193)); have n6_ := Ae.mk ((by rw [hg]; exact Nat.ne_of_lt (blk_lt (g := gb187) (o := .cells #[.slice (some ad192) lA.length c0_0, .slice A0_1 lB.length c0_1] 25 (0, 0)) bt) : gb187 ≠ gb193)); have n7_ := Ae.mk ((by rw [hg]; exact Nat.ne_of_gt (blk_lt (g := gb187) (o := .cells #[.slice (some ad192) lA.length c0_0, .slice A0_1 lB.length c0_1] 25 (0, 0)) bt) : gb193 ≠ gb187)); have n8_ := Ae.mk ((by rw [hg]; exact Nat.ne_of_lt (blk_lt (g := gb188) (o := .cells #[.slice (some ad192) lA.length c0_0, .slice A0_1 lB.length c0_1] 58 (0, 0)) bt) : gb188 ≠ gb193)); have n9_ := Ae.mk ((by rw [hg]; exact Nat.ne_of_gt (blk_lt (g := gb188) (o := .cells #[.slice (some ad192) lA.length c0_0, .slice A0_1 lB.length c0_1] 58 (0, 0)) bt) : gb193 ≠ gb188)); clear BK187; clear BK188; clear HB; have BK187 := n0_; have BK188 := n1_; have HB := n2_; have BK193 := n3_; have GW193 := n4_; have GE193 := n5_; have NB187_193 := n6_; have NB193_187 := n7_; have NB188_193 := n8_; have NB193_188 := n9_; clear n0_ n1_ n2_ n3_ n4_ n5_ n6_ n7_ n8_ n9_; clear hb hbox hg; have hnb41 := NB193_187.out; have hnc41 := NB187_193.out; have hnb42 := NB193_188.out; have hnc42 := NB188_193.out; have hcz43_0 : w40.cell? ⟨gb193, 0, none⟩ = some (.string (⟨#[]⟩ : ByteArray)) := (bC BK193.out 0).trans rfl; have hcz43_1 : w40.cell? ⟨gb193, 1, none⟩ = some (.int .i64 0) := (bC BK193.out 1).trans rfl; have hcz43_2 : w40.cell? ⟨gb193, 2, none⟩ = some (.int .i64 0) := (bC BK193.out 2).trans rfl; have hcz43_3 : w40.cell? ⟨gb193, 3, none⟩ = some (.int .i64 0) := (bC BK193.out 3).trans rfl; have hcz43_4 : w40.cell? ⟨gb193, 4, none⟩ = some (.int .i64 0) := (bC BK193.out 4).trans rfl; have hcz43_5 : w40.cell? ⟨gb193, 5, none⟩ = some (.slice none 0 0) := (bC BK193.out 5).trans rfl; have hfz43_0 := bF BK193.out 0; have hfz43_1 := bF BK193.out 1; have hfz43_2 := bF BK193.out 2; have hfz43_3 := bF BK193.out 3; have hfz43_4 := bF BK193.out 4; have hfz43_5 := bF BK193.out 5; have hnb44 := NB188_187.out; have hnc44 := NB187_188.out; have hcz45_0 : w40.cell? ⟨gb188, 0, none⟩ = some (.slice (some ad192) lA.length c0_0) := (bC BK188.out 0).trans rfl; have hcz45_1 : w40.cell? ⟨gb188, 1, none⟩ = some (.slice A0_1 lB.length c0_1) := (bC BK188.out 1).trans rfl; have hfz45_0 := bF BK188.out 0; have hfz45_1 := bF BK188.out 1) | (go_at_call 20; (with_reducible refine (code_program_shape.calls _ _ lA _ _ lB x53_2 false _ ?side1 ?side2 ?side3 ?side4 A31.out).mono ?_); (case side1 => exact Kd.C_below HR0_0.out bel); (case side2 => exact HC0_0.out); (case side3 => exact Kd.C_below HR0_1.out bel); (case side4 => exact HC0_1.out); rintro e w46 ⟨rfl, hb⟩; have n0_ := bb BK187 hb; have n1_ := bb BK188 hb; have n2_ := Ae.mk (blk_below (g := gb193) (o := .cells #[.string ((R3 lA x53_2).f0), .int .i64 ((R3 lA x53_2).f1), .int .i64 ((R3 lA x53_2).f2), .int .i64 ((R3 lA x53_2).f3), .int .i64 ((R3 lA x53_2).f4), .slice A192_5 ((R3 lA x53_2).f5).length c192_5] 30 (0, 0)) bt hb); have n3_ := bes hb; clear BK187; clear BK188; clear BK193; clear HB; have BK187 := n0_; have BK188 := n1_; have BK193 := n2_; have HB := n3_; clear n0_ n1_ n2_ n3_; (try clear hb); (try clear hb2); (try clear hk); (try clear hi)))
           go_ret
           exact fn
        ·rw [if_neg c25] at H
         exact absurd H (by simp)
       ·rw [if_neg c24] at H
        exact absurd H (by simp)
      ·rw [if_neg c23] at H
       have c23b0 : decide (x53_2 < (lA.length : Int)) = false := decide_eq_false c23
       clear c23
       have H' := Ae.mk H
       clear H
       have hnb47 := NB187_188.out
       have hnc47 := NB188_187.out
       have hcz48_0 : wr.cell? ⟨gb187, 0, none⟩ = some (.slice A0_0 lA.length c0_0) := (bC BK187.out 0).trans rfl
       have hcz48_1 : wr.cell? ⟨gb187, 1, none⟩ = some (.slice A0_1 lB.length c0_1) := (bC BK187.out 1).trans rfl
       have hfz48_0 := bF BK187.out 0
       have hfz48_1 := bF BK187.out 1
       go_wp2
       go_loopg [75] k2 (fun kq v75 w' => ∃ (x75_3 : Int), v75 = .int .i64 x75_3 ∧ Ae (cC.l1 kq lB (lB.length : Int) x75_3 lA lB lA lB = some r) ∧ Ae (kq ≤ k2) ∧ Ae (w'.heap[gb187]? = some (.cells #[(.slice A0_0 lA.length c0_0), (.slice A0_1 lB.length c0_1)] 25 (0, 0))) ∧ Ae (w'.heap[gb188]? = some (.cells #[(.slice A0_0 lA.length c0_0), (.slice A0_1 lB.length c0_1)] 58 (0, 0))) ∧ Ae (Below w.heap.size w w'))
       case atStart => exact ⟨(0), pv, H', ⟨Nat.le_refl _⟩, ⟨bt⟩, ⟨bt⟩, ⟨bel⟩⟩
       case round =>
        clear H'
        obtain ⟨x75_3, rfl, HA, HK3, BK187, BK188, HB⟩ := hrel
        cases gk with
        | zero => exact absurd HA.out (by simp [cC.l1])
        | succ k3 =>
         have H := HA.out
         clear HA
         simp only [cC.l1] at H
         by_cases c49 : x75_3 < (lB.length : Int)
         ·rw [if_pos c49] at H
          have c49b0 : decide (x75_3 < (lB.length : Int)) = true := decide_eq_true c49
          clear c49
          by_cases c50 : 0 ≤ x75_3
          ·rw [if_pos c50] at H
           have c50b0 : decide (0 ≤ x75_3) = true := decide_eq_true c50
           clear c50
           by_cases c51 : x75_3 < (lB.length : Int)
           ·rw [if_pos c51] at H
            have c51b0 : decide (x75_3 < (lB.length : Int)) = true := decide_eq_true c51
            clear c51
            replace H := Option.bind_eq_some_iff.mp H
            obtain ⟨t197, A520, H⟩ := H
            replace H : (if t197 = true then (cC.l1 k3 lB (lB.length : Int) (wrap64 (x75_3 + 1)) lA lB lA lB) else (some 190)) = some r := H
            have A52 := Ae.mk A520
            clear A520
            by_cases c53 : t197 = true
            ·subst c53
             have H1 : (cC.l1 k3 lB (lB.length : Int) (wrap64 (x75_3 + 1)) lA lB lA lB) = some r := by rw [if_pos rfl] at H; exact H
             clear H
             have H := H1
             clear H1
             have H' := Ae.mk H
             clear H
             have p195 : 0 ≤ (x75_3 : Int) := of_decide_eq_true ass
             have q195 : x75_3 < (lB.length : Int) := of_decide_eq_true ass
             obtain ⟨ad195, A195_3, c195_3, A195_4, c195_4, e195, hx195_0, hx195_1, hx195_2, hx195_3, hx195_4, hl195_3, hi195_3, hl195_4, hi195_4⟩ := at_T36 HR0_1.out x75_3 p195 q195
             cases e195
             replace hx195_0 := cq HB hx195_0
             replace hx195_1 := cq HB hx195_1
             replace hx195_2 := cq HB hx195_2
             replace hx195_3 := cq HB hx195_3
             replace hx195_4 := cq HB hx195_4
             have HR195_3 := Ae.mk hi195_3
             have HC195_3 := Ae.mk hl195_3
             clear hi195_3 hl195_3
             have HR195_4 := Ae.mk hi195_4
             have HC195_4 := Ae.mk hl195_4
             clear hi195_4 hl195_4
             replace p195 := eq_true p195
             replace q195 := eq_true q195
             go_wp2_with (first | ((with_reducible refine gD (N := 9) rfl ?_); refine bE ?hg (N := 9) ?hd (cs := #[.int .i64 0, .float .f64 0, .string (⟨#[]⟩ : ByteArray), .slice none 0 0, .slice none 0 0]) (t := 36) ?hr ?_; (case hd => rfl); (case hg => rfl); (case hr => first | (go_simp; done) | (go_simp; rfl)); intro gb196 hg w54 hbox hb; have n0_ := bb BK187 hb; have n1_ := bb BK188 hb; have n2_ := bes hb; have n3_ := Ae.mk (hbox); have n4_ := Ae.mk ((bez hg : w.heap.size ≤ gb196)); have n5_ := Ae.mk ((bez hg : w.heap.size ≤ gb196)); have n6_ := Ae.mk ((by rw [hg]; exact Nat.ne_of_lt (blk_lt (g := gb187) (o := .cells #[.slice A0_0 lA.length c0_0, .slice (some ad195) lB.length c0_1] 25 (0, 0)) bt) : gb187 ≠ gb196)); have n7_ := Ae.mk ((by rw [hg]; exact Nat.ne_of_gt (blk_lt (g := gb187) (o := .cells #[.slice A0_0 lA.length c0_0, .slice (some ad195) lB.length c0_1] 25 (0, 0)) bt) : gb196 ≠ gb187)); have n8_ := Ae.mk ((by rw [hg]; exact Nat.ne_of_lt (blk_lt (g := gb188) (o := .cells #[.slice A0_0 lA.length c0_0, .slice (some ad195) lB.length c0_1] 58 (0, 0)) bt) : gb188 ≠ gb196)); have n9_ := Ae.mk ((by rw [hg]; exact Nat.ne_of_gt (blk_lt (g := gb188) (o := .cells #[.slice A0_0 lA.length c0_0, .slice (some ad195) lB.length c0_1] 58 (0, 0)) bt) : gb196 ≠ gb188)); clear BK187; clear BK188; clear HB; have BK187 := n0_; have BK188 := n1_; have HB := n2_; have BK196 := n3_; have GW196 := n4_; have GE196 := n5_; have NB187_196 := n6_; have NB196_187 := n7_; have NB188_196 := n8_; have NB196_188 := n9_; clear n0_ n1_ n2_ n3_ n4_ n5_ n6_ n7_ n8_ n9_; clear hb hbox hg; have hnb55 := NB196_187.out; have hnc55 := NB187_196.out; have hnb56 := NB196_188.out; have hnc56 := NB188_196.out; have hcz57_0 : w54.cell? ⟨gb196, 0, none⟩ = some (.int .i64 0) := (bC BK196.out 0).trans rfl; have hcz57_1 : w54.cell? ⟨gb196, 1, none⟩ = some (.float .f64 0) := (bC BK196.out 1).trans rfl; have hcz57_2 : w54.cell? ⟨gb196, 2, none⟩ = some (.string (⟨#[]⟩ : ByteArray)) := (bC BK196.out 2).trans rfl; have hcz57_3 : w54.cell? ⟨gb196, 3, none⟩ = some (.slice none 0 0) := (bC BK196.out 3).trans rfl; have hcz57_4 : w54.cell? ⟨gb196, 4, none⟩ = some (.slice none 0 0) := (bC BK196.out 4).trans rfl; have hfz57_0 := bF BK196.out 0; have hfz57_1 := bF BK196.out 1; have hfz57_2 := bF BK196.out 2; have hfz57_3 := bF BK196.out 3; have hfz57_4 := bF BK196.out 4) | ((with_reducible refine gate_callee (f := 21) rfl ?_); refine goesL_ (some 80) rfl rfl Tryz.func21 (by kernel_rfl) rfl #[.agg #[.int .i64 ((rd_T36 lB x75_3).f0), .float .f64 ((rd_T36 lB x75_3).f1), .string ((rd_T36 lB x75_3).f2), .slice A195_3 ((rd_T36 lB x75_3).f3).length c195_3, .slice A195_4 ((rd_T36 lB x75_3).f4).length c195_4]] rfl am ?_; (with_reducible refine (value_Right.calls k3 ((rd_T36 lB x75_3).f0) ((rd_T36 lB x75_3).f1) ((rd_T36 lB x75_3).f2) _ _ ((rd_T36 lB x75_3).f3) _ _ ((rd_T36 lB x75_3).f4) true _ ?side1 ?side2 ?side3 ?side4 ?side5 A52.out).mono ?_); (case side1 => exact Kd.C_below HR195_3.out bel); (case side2 => exact HC195_3.out); (case side3 => exact Kd.C_below HR195_4.out bel); (case side4 => exact HC195_4.out); (case side5 => first | exact hT | exact tabs_below hT bel); rintro e w58 ⟨rfl, hb⟩; refine ⟨_, rfl, ?_⟩; have n0_ := bb BK187 hb; have n1_ := bb BK188 hb; have n2_ := Ae.mk (blk_below (g := gb196) (o := .cells #[.int .i64 ((rd_T36 lB x75_3).f0), .float .f64 ((rd_T36 lB x75_3).f1), .string ((rd_T36 lB x75_3).f2), .slice A195_3 ((rd_T36 lB x75_3).f3).length c195_3, .slice A195_4 ((rd_T36 lB x75_3).f4).length c195_4] 36 (0, 0)) bt hb); have n3_ := bes hb; clear BK187; clear BK188; clear BK196; clear HB; have BK187 := n0_; have BK188 := n1_; have BK196 := n2_; have HB := n3_; clear n0_ n1_ n2_ n3_; (try clear hb); (try clear hb2); (try clear hk); (try clear hi)))
             go_roundg k3
             case measure => have := HJ1.out; have := HK2.out; have := HK3.out; omega
             case rel => exact ⟨(wrap64 (x75_3 + 1)), pv, H', ⟨by have := HJ1.out; have := HK2.out; have := HK3.out; omega⟩, ⟨bt⟩, ⟨bt⟩, ⟨bel⟩⟩
            ·replace c53 := Bool.eq_false_iff.mpr c53
             subst c53
             have H1 : (some 190) = some r := by rw [if_neg (show ¬ (false = true) by decide)] at H; exact H
             clear H
             have H := H1
             clear H1
             obtain rfl := Option.some.inj H
             have p195 : 0 ≤ (x75_3 : Int) := of_decide_eq_true ass
             have q195 : x75_3 < (lB.length : Int) := of_decide_eq_true ass
             obtain ⟨ad195, A195_3, c195_3, A195_4, c195_4, e195, hx195_0, hx195_1, hx195_2, hx195_3, hx195_4, hl195_3, hi195_3, hl195_4, hi195_4⟩ := at_T36 HR0_1.out x75_3 p195 q195
             cases e195
             replace hx195_0 := cq HB hx195_0
             replace hx195_1 := cq HB hx195_1
             replace hx195_2 := cq HB hx195_2
             replace hx195_3 := cq HB hx195_3
             replace hx195_4 := cq HB hx195_4
             have HR195_3 := Ae.mk hi195_3
             have HC195_3 := Ae.mk hl195_3
             clear hi195_3 hl195_3
             have HR195_4 := Ae.mk hi195_4
             have HC195_4 := Ae.mk hl195_4
             clear hi195_4 hl195_4
             replace p195 := eq_true p195
             replace q195 := eq_true q195
             go_wp2_with (first | ((with_reducible refine gD (N := 9) rfl ?_); refine bE ?hg (N := 9) ?hd (cs := #[.int .i64 0, .float .f64 0, .string (⟨#[]⟩ : ByteArray), .slice none 0 0, .slice none 0 0]) (t := 36) ?hr ?_; (case hd => rfl); (case hg => rfl); (case hr => first | (go_simp; done) | (go_simp; rfl)); intro gb196 hg w59 hbox hb; have n0_ := bb BK187 hb; have n1_ := bb BK188 hb; have n2_ := bes hb; have n3_ := Ae.mk (hbox); have n4_ := Ae.mk ((bez hg : w.heap.size ≤ gb196)); have n5_ := Ae.mk ((bez hg : w.heap.size ≤ gb196)); have n6_ := Ae.mk ((by rw [hg]; exact Nat.ne_of_lt (blk_lt (g := gb187) (o := .cells #[.slice A0_0 lA.length c0_0, .slice (some ad195) lB.length c0_1] 25 (0, 0)) bt) : gb187 ≠ gb196)); have n7_ := Ae.mk ((by rw [hg]; exact Nat.ne_of_gt (blk_lt (g := gb187) (o := .cells #[.slice A0_0 lA.length c0_0, .slice (some ad195) lB.length c0_1] 25 (0, 0)) bt) : gb196 ≠ gb187)); have n8_ := Ae.mk ((by rw [hg]; exact Nat.ne_of_lt (blk_lt (g := gb188) (o := .cells #[.slice A0_0 lA.length c0_0, .slice (some ad195) lB.length c0_1] 58 (0, 0)) bt) : gb188 ≠ gb196)); have n9_ := Ae.mk ((by rw [hg]; exact Nat.ne_of_gt (blk_lt (g := gb188) (o := .cells #[.slice A0_0 lA.length c0_0, .slice (some ad195) lB.length c0_1] 58 (0, 0)) bt) : gb196 ≠ gb188)); clear BK187; clear BK188; clear HB; have BK187 := n0_; have BK188 := n1_; have HB := n2_; have BK196 := n3_; have GW196 := n4_; have GE196 := n5_; have NB187_196 := n6_; have NB196_187 := n7_; have NB188_196 := n8_; have NB196_188 := n9_; clear n0_ n1_ n2_ n3_ n4_ n5_ n6_ n7_ n8_ n9_; clear hb hbox hg; have hnb60 := NB196_187.out; have hnc60 := NB187_196.out; have hnb61 := NB196_188.out; have hnc61 := NB188_196.out; have hcz62_0 : w59.cell? ⟨gb196, 0, none⟩ = some (.int .i64 0) := (bC BK196.out 0).trans rfl; have hcz62_1 : w59.cell? ⟨gb196, 1, none⟩ = some (.float .f64 0) := (bC BK196.out 1).trans rfl; have hcz62_2 : w59.cell? ⟨gb196, 2, none⟩ = some (.string (⟨#[]⟩ : ByteArray)) := (bC BK196.out 2).trans rfl; have hcz62_3 : w59.cell? ⟨gb196, 3, none⟩ = some (.slice none 0 0) := (bC BK196.out 3).trans rfl; have hcz62_4 : w59.cell? ⟨gb196, 4, none⟩ = some (.slice none 0 0) := (bC BK196.out 4).trans rfl; have hfz62_0 := bF BK196.out 0; have hfz62_1 := bF BK196.out 1; have hfz62_2 := bF BK196.out 2; have hfz62_3 := bF BK196.out 3; have hfz62_4 := bF BK196.out 4) | ((with_reducible refine gate_callee (f := 21) rfl ?_); refine goesL_ (some 80) rfl rfl Tryz.func21 (by kernel_rfl) rfl #[.agg #[.int .i64 ((rd_T36 lB x75_3).f0), .float .f64 ((rd_T36 lB x75_3).f1), .string ((rd_T36 lB x75_3).f2), .slice A195_3 ((rd_T36 lB x75_3).f3).length c195_3, .slice A195_4 ((rd_T36 lB x75_3).f4).length c195_4]] rfl am ?_; (with_reducible refine (value_Right.calls k3 ((rd_T36 lB x75_3).f0) ((rd_T36 lB x75_3).f1) ((rd_T36 lB x75_3).f2) _ _ ((rd_T36 lB x75_3).f3) _ _ ((rd_T36 lB x75_3).f4) false _ ?side1 ?side2 ?side3 ?side4 ?side5 A52.out).mono ?_); (case side1 => exact Kd.C_below HR195_3.out bel); (case side2 => exact HC195_3.out); (case side3 => exact Kd.C_below HR195_4.out bel); (case side4 => exact HC195_4.out); (case side5 => first | exact hT | exact tabs_below hT bel); rintro e w63 ⟨rfl, hb⟩; refine ⟨_, rfl, ?_⟩; have n0_ := bb BK187 hb; have n1_ := bb BK188 hb; have n2_ := Ae.mk (blk_below (g := gb196) (o := .cells #[.int .i64 ((rd_T36 lB x75_3).f0), .float .f64 ((rd_T36 lB x75_3).f1), .string ((rd_T36 lB x75_3).f2), .slice A195_3 ((rd_T36 lB x75_3).f3).length c195_3, .slice A195_4 ((rd_T36 lB x75_3).f4).length c195_4] 36 (0, 0)) bt hb); have n3_ := bes hb; clear BK187; clear BK188; clear BK196; clear HB; have BK187 := n0_; have BK188 := n1_; have BK196 := n2_; have HB := n3_; clear n0_ n1_ n2_ n3_; (try clear hb); (try clear hb2); (try clear hk); (try clear hi)))
             go_ret
             exact fn
           ·rw [if_neg c51] at H
            exact absurd H (by simp)
          ·rw [if_neg c50] at H
           exact absurd H (by simp)
         ·rw [if_neg c49] at H
          have c49b0 : decide (x75_3 < (lB.length : Int)) = false := decide_eq_false c49
          clear c49
          have H' := Ae.mk H
          clear H
          have hnb64 := NB187_188.out
          have hnc64 := NB188_187.out
          have hcz65_0 : wr.cell? ⟨gb187, 0, none⟩ = some (.slice A0_0 lA.length c0_0) := (bC BK187.out 0).trans rfl
          have hcz65_1 : wr.cell? ⟨gb187, 1, none⟩ = some (.slice A0_1 lB.length c0_1) := (bC BK187.out 1).trans rfl
          have hfz65_0 := bF BK187.out 0
          have hfz65_1 := bF BK187.out 1
          go_wp2
          go_loopg [86] k3 (fun kq v86 w' => ∃ (x86_4 : Int), v86 = .int .i64 x86_4 ∧ Ae (cC.l2 kq lA (lA.length : Int) x86_4 lA lB = some r) ∧ Ae (kq ≤ k3) ∧ Ae (w'.heap[gb187]? = some (.cells #[(.slice A0_0 lA.length c0_0), (.slice A0_1 lB.length c0_1)] 25 (0, 0))) ∧ Ae (w'.heap[gb188]? = some (.cells #[(.slice A0_0 lA.length c0_0), (.slice A0_1 lB.length c0_1)] 58 (0, 0))) ∧ Ae (Below w.heap.size w w'))
          case atStart => exact ⟨(0), pv, H', ⟨Nat.le_refl _⟩, ⟨bt⟩, ⟨bt⟩, ⟨bel⟩⟩
          case round =>
           clear H'
           obtain ⟨x86_4, rfl, HA, HK4, BK187, BK188, HB⟩ := hrel
           cases gk with
           | zero => exact absurd HA.out (by simp [cC.l2])
           | succ k4 =>
            have H := HA.out
            clear HA
            simp only [cC.l2] at H
            by_cases c66 : x86_4 < (lA.length : Int)
            ·rw [if_pos c66] at H
             have c66b0 : decide (x86_4 < (lA.length : Int)) = true := decide_eq_true c66
             clear c66
             by_cases c67 : 0 ≤ x86_4
             ·rw [if_pos c67] at H
              have c67b0 : decide (0 ≤ x86_4) = true := decide_eq_true c67
              clear c67
              by_cases c68 : x86_4 < (lA.length : Int)
              ·rw [if_pos c68] at H
               have c68b0 : decide (x86_4 < (lA.length : Int)) = true := decide_eq_true c68
               clear c68
               have H' := Ae.mk H
               clear H
               have p198 : 0 ≤ (x86_4 : Int) := of_decide_eq_true ass
               have q198 : x86_4 < (lA.length : Int) := of_decide_eq_true ass
               obtain ⟨ad198, A198_5, c198_5, e198, hx198_0, hx198_1, hx198_2, hx198_3, hx198_4, hx198_5, hl198_5, hi198_5⟩ := at_T30 HR0_0.out x86_4 p198 q198
               cases e198
               replace hx198_0 := cq HB hx198_0
               replace hx198_1 := cq HB hx198_1
               replace hx198_2 := cq HB hx198_2
               replace hx198_3 := cq HB hx198_3
               replace hx198_4 := cq HB hx198_4
               replace hx198_5 := cq HB hx198_5
               have HR198_5 := Ae.mk hi198_5
               have HC198_5 := Ae.mk hl198_5
               clear hi198_5 hl198_5
               replace p198 := eq_true p198
               replace q198 := eq_true q198
               go_wp2_with (first | ((with_reducible refine gD (N := 11) rfl ?_); refine bE ?hg (N := 11) ?hd (cs := #[.string (⟨#[]⟩ : ByteArray), .int .i64 0, .int .i64 0, .int .i64 0, .int .i64 0, .slice none 0 0]) (t := 30) ?hr ?_; (case hd => rfl); (case hg => rfl); (case hr => first | (go_simp; done) | (go_simp; rfl)); intro gb199 hg w69 hbox hb; have n0_ := bb BK187 hb; have n1_ := bb BK188 hb; have n2_ := bes hb; have n3_ := Ae.mk (hbox); have n4_ := Ae.mk ((bez hg : w.heap.size ≤ gb199)); have n5_ := Ae.mk ((bez hg : w.heap.size ≤ gb199)); have n6_ := Ae.mk ((by rw [hg]; exact Nat.ne_of_lt (blk_lt (g := gb187) (o := .cells #[.slice (some ad198) lA.length c0_0, .slice A0_1 lB.length c0_1] 25 (0, 0)) bt) : gb187 ≠ gb199)); have n7_ := Ae.mk ((by rw [hg]; exact Nat.ne_of_gt (blk_lt (g := gb187) (o := .cells #[.slice (some ad198) lA.length c0_0, .slice A0_1 lB.length c0_1] 25 (0, 0)) bt) : gb199 ≠ gb187)); have n8_ := Ae.mk ((by rw [hg]; exact Nat.ne_of_lt (blk_lt (g := gb188) (o := .cells #[.slice (some ad198) lA.length c0_0, .slice A0_1 lB.length c0_1] 58 (0, 0)) bt) : gb188 ≠ gb199)); have n9_ := Ae.mk ((by rw [hg]; exact Nat.ne_of_gt (blk_lt (g := gb188) (o := .cells #[.slice (some ad198) lA.length c0_0, .slice A0_1 lB.length c0_1] 58 (0, 0)) bt) : gb199 ≠ gb188)); clear BK187; clear BK188; clear HB; have BK187 := n0_; have BK188 := n1_; have HB := n2_; have BK199 := n3_; have GW199 := n4_; have GE199 := n5_; have NB187_199 := n6_; have NB199_187 := n7_; have NB188_199 := n8_; have NB199_188 := n9_; clear n0_ n1_ n2_ n3_ n4_ n5_ n6_ n7_ n8_ n9_; clear hb hbox hg; have hnb70 := NB199_187.out; have hnc70 := NB187_199.out; have hnb71 := NB199_188.out; have hnc71 := NB188_199.out; have hcz72_0 : w69.cell? ⟨gb199, 0, none⟩ = some (.string (⟨#[]⟩ : ByteArray)) := (bC BK199.out 0).trans rfl; have hcz72_1 : w69.cell? ⟨gb199, 1, none⟩ = some (.int .i64 0) := (bC BK199.out 1).trans rfl; have hcz72_2 : w69.cell? ⟨gb199, 2, none⟩ = some (.int .i64 0) := (bC BK199.out 2).trans rfl; have hcz72_3 : w69.cell? ⟨gb199, 3, none⟩ = some (.int .i64 0) := (bC BK199.out 3).trans rfl; have hcz72_4 : w69.cell? ⟨gb199, 4, none⟩ = some (.int .i64 0) := (bC BK199.out 4).trans rfl; have hcz72_5 : w69.cell? ⟨gb199, 5, none⟩ = some (.slice none 0 0) := (bC BK199.out 5).trans rfl; have hfz72_0 := bF BK199.out 0; have hfz72_1 := bF BK199.out 1; have hfz72_2 := bF BK199.out 2; have hfz72_3 := bF BK199.out 3; have hfz72_4 := bF BK199.out 4; have hfz72_5 := bF BK199.out 5))
               go_loopg [94] k4 (fun kq v94 w' => ∃ (x94_5 : Int), v94 = .int .i64 x94_5 ∧ Ae (cC.l3 kq x86_4 lA (lA.length : Int) x86_4 (((R3 lA x86_4).f5).length : Int) x94_5 lA lB = some r) ∧ Ae (kq ≤ k4) ∧ Ae (w'.heap[gb187]? = some (.cells #[(.slice (some ad198) lA.length c0_0), (.slice A0_1 lB.length c0_1)] 25 (0, 0))) ∧ Ae (w'.heap[gb188]? = some (.cells #[(.slice (some ad198) lA.length c0_0), (.slice A0_1 lB.length c0_1)] 58 (0, 0))) ∧ Ae (w'.heap[gb199]? = some (.cells #[.string ((R3 lA x86_4).f0), .int .i64 ((R3 lA x86_4).f1), .int .i64 ((R3 lA x86_4).f2), .int .i64 ((R3 lA x86_4).f3), .int .i64 ((R3 lA x86_4).f4), (.slice A198_5 ((R3 lA x86_4).f5).length c198_5)] 30 (0, 0))) ∧ Ae (Below w.heap.size w w'))
               case atStart => exact ⟨(0), pv, H', ⟨Nat.le_refl _⟩, ⟨bt⟩, ⟨bt⟩, ⟨bt⟩, ⟨bel⟩⟩
               case round =>
                clear H'
                obtain ⟨x94_5, rfl, HA, HK5, BK187, BK188, BK199, HB⟩ := hrel
                cases gk with
                | zero => exact absurd HA.out (by simp [cC.l3])
                | succ k5 =>
                 have H := HA.out
                 clear HA
                 simp only [cC.l3] at H
                 by_cases c73 : x94_5 < (((R3 lA x86_4).f5).length : Int)
                 ·rw [if_pos c73] at H
                  have c73b0 : decide (x94_5 < (((R3 lA x86_4).f5).length : Int)) = true := decide_eq_true c73
                  clear c73
                  replace H := Option.bind_eq_some_iff.mp H
                  obtain ⟨t200, A740, H⟩ := H
                  replace H : (if t200 = true then (cC.l3 k5 x86_4 lA (lA.length : Int) x86_4 (((R3 lA x86_4).f5).length : Int) (wrap64 (x94_5 + 1)) lA lB) else (some 190)) = some r := H
                  have A74 := Ae.mk A740
                  clear A740
                  by_cases c75 : t200 = true
                  ·subst c75
                   have H1 : (cC.l3 k5 x86_4 lA (lA.length : Int) x86_4 (((R3 lA x86_4).f5).length : Int) (wrap64 (x94_5 + 1)) lA lB) = some r := by rw [if_pos rfl] at H; exact H
                   clear H
                   have H := H1
                   clear H1
                   have H' := Ae.mk H
                   clear H
                   have hnb76 := NB188_187.out
                   have hnc76 := NB187_188.out
                   have hnb77 := NB188_199.out
                   have hnc77 := NB199_188.out
                   have hcz78_0 : wr.cell? ⟨gb188, 0, none⟩ = some (.slice (some ad198) lA.length c0_0) := (bC BK188.out 0).trans rfl
                   have hcz78_1 : wr.cell? ⟨gb188, 1, none⟩ = some (.slice A0_1 lB.length c0_1) := (bC BK188.out 1).trans rfl
                   have hfz78_0 := bF BK188.out 0
                   have hfz78_1 := bF BK188.out 1
                   go_wp2_with (first | ((with_reducible refine gate_callee (f := 22) rfl ?_); refine goesL_ (some 100) rfl rfl Tryz.func22 (by kernel_rfl) rfl #[.agg #[.slice (some ad198) lA.length c0_0, .slice A0_1 lB.length c0_1], .int .i64 x86_4, .int .i64 x94_5] rfl am ?_; (with_reducible refine (mY.calls k5 _ _ lA _ _ lB x86_4 x94_5 true _ ?side1 ?side2 ?side3 ?side4 ?side5 A74.out).mono ?_); (case side1 => exact cb HR0_0); (case side2 => exact HC0_0.out); (case side3 => exact cb HR0_1); (case side4 => exact HC0_1.out); (case side5 => first | exact hT | exact tabs_below hT bel); rintro e w79 ⟨rfl, hb⟩; refine ⟨_, rfl, ?_⟩; have n0_ := bb BK187 hb; have n1_ := bb BK188 hb; have n2_ := bb BK199 hb; have n3_ := bes hb; clear BK187; clear BK188; clear BK199; clear HB; have BK187 := n0_; have BK188 := n1_; have BK199 := n2_; have HB := n3_; clear n0_ n1_ n2_ n3_; (try clear hb); (try clear hb2); (try clear hk); (try clear hi)))
                   go_roundg k5
                   case measure => have := HJ1.out; have := HK2.out; have := HK3.out; have := HK4.out; have := HK5.out; omega
                   case rel => exact ⟨(wrap64 (x94_5 + 1)), pv, H', ⟨by have := HJ1.out; have := HK2.out; have := HK3.out; have := HK4.out; have := HK5.out; omega⟩, ⟨bt⟩, ⟨bt⟩, ⟨bt⟩, ⟨bel⟩⟩
                  ·replace c75 := Bool.eq_false_iff.mpr c75
                   subst c75
                   have H1 : (some 190) = some r := by rw [if_neg (show ¬ (false = true) by decide)] at H; exact H
                   clear H
                   have H := H1
                   clear H1
                   obtain rfl := Option.some.inj H
                   have hnb80 := NB188_187.out
                   have hnc80 := NB187_188.out
                   have hnb81 := NB188_199.out
                   have hnc81 := NB199_188.out
                   have hcz82_0 : wr.cell? ⟨gb188, 0, none⟩ = some (.slice (some ad198) lA.length c0_0) := (bC BK188.out 0).trans rfl
                   have hcz82_1 : wr.cell? ⟨gb188, 1, none⟩ = some (.slice A0_1 lB.length c0_1) := (bC BK188.out 1).trans rfl
                   have hfz82_0 := bF BK188.out 0
                   have hfz82_1 := bF BK188.out 1
                   go_wp2_with (first | ((with_reducible refine gate_callee (f := 22) rfl ?_); refine goesL_ (some 100) rfl rfl Tryz.func22 (by kernel_rfl) rfl #[.agg #[.slice (some ad198) lA.length c0_0, .slice A0_1 lB.length c0_1], .int .i64 x86_4, .int .i64 x94_5] rfl am ?_; (with_reducible refine (mY.calls k5 _ _ lA _ _ lB x86_4 x94_5 false _ ?side1 ?side2 ?side3 ?side4 ?side5 A74.out).mono ?_); (case side1 => exact cb HR0_0); (case side2 => exact HC0_0.out); (case side3 => exact cb HR0_1); (case side4 => exact HC0_1.out); (case side5 => first | exact hT | exact tabs_below hT bel); rintro e w83 ⟨rfl, hb⟩; refine ⟨_, rfl, ?_⟩; have n0_ := bb BK187 hb; have n1_ := bb BK188 hb; have n2_ := bb BK199 hb; have n3_ := bes hb; clear BK187; clear BK188; clear BK199; clear HB; have BK187 := n0_; have BK188 := n1_; have BK199 := n2_; have HB := n3_; clear n0_ n1_ n2_ n3_; (try clear hb); (try clear hb2); (try clear hk); (try clear hi)))
                   go_ret
                   exact fn
                 ·rw [if_neg c73] at H
                  have c73b0 : decide (x94_5 < (((R3 lA x86_4).f5).length : Int)) = false := decide_eq_false c73
                  clear c73
                  replace H := Option.bind_eq_some_iff.mp H
                  obtain ⟨⟨t201, t204⟩, A840, H⟩ := H
                  replace H : (if t204 = true then (cC.l2 k5 lA (lA.length : Int) (wrap64 (x86_4 + 1)) lA lB) else (some 190)) = some r := H
                  have A84 := Ae.mk A840
                  clear A840
                  by_cases c85 : t204 = true
                  ·subst c85
                   have H1 : (cC.l2 k5 lA (lA.length : Int) (wrap64 (x86_4 + 1)) lA lB) = some r := by rw [if_pos rfl] at H; exact H
                   clear H
                   have H := H1
                   clear H1
                   have H' := Ae.mk H
                   clear H
                   have hnb86 := NB188_187.out
                   have hnc86 := NB187_188.out
                   have hnb87 := NB188_199.out
                   have hnc87 := NB199_188.out
                   have hcz88_0 : wr.cell? ⟨gb188, 0, none⟩ = some (.slice (some ad198) lA.length c0_0) := (bC BK188.out 0).trans rfl
                   have hcz88_1 : wr.cell? ⟨gb188, 1, none⟩ = some (.slice A0_1 lB.length c0_1) := (bC BK188.out 1).trans rfl
                   have hfz88_0 := bF BK188.out 0
                   have hfz88_1 := bF BK188.out 1
                   go_wp2_with (first | ((with_reducible refine gate_callee (f := 23) rfl ?_); refine goesL_ (some 106) rfl rfl Tryz.func23 (by kernel_rfl) rfl #[.agg #[.slice (some ad198) lA.length c0_0, .slice A0_1 lB.length c0_1], .int .i64 x86_4] rfl am ?_; (with_reducible refine (cHt.calls k5 _ _ lA _ _ lB x86_4 t201 true _ ?side1 ?side2 ?side3 ?side4 A84.out).mono ?_); (case side1 => exact cb HR0_0); (case side2 => exact HC0_0.out); (case side3 => exact cb HR0_1); (case side4 => exact HC0_1.out); rintro e w89 ⟨v202, rfl, ho0, hb⟩; refine ⟨_, rfl, ?_⟩; have n0_ := Ae.mk (Kd.R_lower ho0 (below_size bel)); have n1_ := bb BK187 hb; have n2_ := bb BK188 hb; have n3_ := bb BK199 hb; have n4_ := bes hb; clear BK187; clear BK188; clear BK199; clear HB; have HO203 := n0_; have BK187 := n1_; have BK188 := n2_; have BK199 := n3_; have HB := n4_; clear n0_ n1_ n2_ n3_ n4_; (try clear hb); (try clear hb2); (try clear hk); (try clear hi); (try clear ho0)))
                   go_roundg k5
                   case measure => have := HJ1.out; have := HK2.out; have := HK3.out; have := HK4.out; have := HK5.out; omega
                   case rel => exact ⟨(wrap64 (x86_4 + 1)), pv, H', ⟨by have := HJ1.out; have := HK2.out; have := HK3.out; have := HK4.out; have := HK5.out; omega⟩, ⟨bt⟩, ⟨bt⟩, ⟨bel⟩⟩
                  ·replace c85 := Bool.eq_false_iff.mpr c85
                   subst c85
                   have H1 : (some 190) = some r := by rw [if_neg (show ¬ (false = true) by decide)] at H; exact H
                   clear H
                   have H := H1
                   clear H1
                   obtain rfl := Option.some.inj H
                   have hnb90 := NB188_187.out
                   have hnc90 := NB187_188.out
                   have hnb91 := NB188_199.out
                   have hnc91 := NB199_188.out
                   have hcz92_0 : wr.cell? ⟨gb188, 0, none⟩ = some (.slice (some ad198) lA.length c0_0) := (bC BK188.out 0).trans rfl
                   have hcz92_1 : wr.cell? ⟨gb188, 1, none⟩ = some (.slice A0_1 lB.length c0_1) := (bC BK188.out 1).trans rfl
                   have hfz92_0 := bF BK188.out 0
                   have hfz92_1 := bF BK188.out 1
                   go_wp2_with (first | ((with_reducible refine gate_callee (f := 23) rfl ?_); refine goesL_ (some 106) rfl rfl Tryz.func23 (by kernel_rfl) rfl #[.agg #[.slice (some ad198) lA.length c0_0, .slice A0_1 lB.length c0_1], .int .i64 x86_4] rfl am ?_; (with_reducible refine (cHt.calls k5 _ _ lA _ _ lB x86_4 t201 false _ ?side1 ?side2 ?side3 ?side4 A84.out).mono ?_); (case side1 => exact cb HR0_0); (case side2 => exact HC0_0.out); (case side3 => exact cb HR0_1); (case side4 => exact HC0_1.out); rintro e w93 ⟨v202, rfl, ho0, hb⟩; refine ⟨_, rfl, ?_⟩; have n0_ := Ae.mk (Kd.R_lower ho0 (below_size bel)); have n1_ := bb BK187 hb; have n2_ := bb BK188 hb; have n3_ := bb BK199 hb; have n4_ := bes hb; clear BK187; clear BK188; clear BK199; clear HB; have HO203 := n0_; have BK187 := n1_; have BK188 := n2_; have BK199 := n3_; have HB := n4_; clear n0_ n1_ n2_ n3_ n4_; (try clear hb); (try clear hb2); (try clear hk); (try clear hi); (try clear ho0)))
                   go_ret
                   exact fn
              ·rw [if_neg c68] at H
               exact absurd H (by simp)
             ·rw [if_neg c67] at H
              exact absurd H (by simp)
            ·rw [if_neg c66] at H
             have c66b0 : decide (x86_4 < (lA.length : Int)) = false := decide_eq_false c66
             clear c66
             obtain rfl := Option.some.inj H
             go_wp2
             go_ret
             exact fn
end Go.Proofs.YtlbcnacfgickcaaGreatDoor.A
