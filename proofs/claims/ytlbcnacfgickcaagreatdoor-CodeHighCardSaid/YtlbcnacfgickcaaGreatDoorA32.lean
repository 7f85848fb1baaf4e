/- Printed by this session's own copy of the printer (wip/tools/mkprint.py): functions, and that the Go code answers as they do. -/
import Derived.Test.YtlbcnacfgickcaaGreatDoorShort
import Derived.Test.YtlbcnacfgickcaaGreatDoorA0
import Derived.Test.YtlbcnacfgickcaaGreatDoorA14
import Derived.Test.YtlbcnacfgickcaaGreatDoorA15
import Derived.Test.YtlbcnacfgickcaaGreatDoorHandHead
namespace Go.Proofs.YtlbcnacfgickcaaGreatDoor.A
open Go.RowKit Go.Proofs.YtlbcnacfgickcaaGreatDoorW.PrintWords Go.Proofs.YtlbcnacfgickcaaGreatDoorW.PrintLast Go.Proofs.YtlbcnacfgickcaaGreatDoorW.PrintMore Go.Proofs.YtlbcnacfgickcaaGreatDoorW.Short
attribute [local go_sem] max2_int min2_int max_two min_two max_three min_three max_four min_four   -- for this text's walks alone
set_option linter.unusedVariables false
set_option linter.unusedSimpArgs false
mutual
def colanderlaw19_CodeHigh.l0 : Nat → Int → List (S30) → List (S36) → Option (Bool)
 | 0, _, _, _ => none
 | k + 1, x3, x446000, x446001 => if x3 < (x446000.length : Int) then ((code_Heights.f k x446000 x446001 x3).bind fun bt449 => (if 0 ≤ x3 then (if bt449.2 = 0 then (if (bt449.1.length : Int) = (((rd_T30 x446000 x3).f5).length : Int) then (if 0 < (bt449.1.length : Int) then (colanderlaw19_CodeHigh.j1 k x3 bt449.1 ((rd_T30 x446000 x3).f5) ((rd bt449.1 0) != 1) x446000 x446001) else (none)) else (colanderlaw19_CodeHigh.j1 k x3 bt449.1 ((rd_T30 x446000 x3).f5) true x446000 x446001)) else (colanderlaw19_CodeHigh.j1 k x3 bt449.1 ((rd_T30 x446000 x3).f5) true x446000 x446001)) else (none))) else ((colanderlaw19_heads.f).bind fun t448 => (some t448))
def colanderlaw19_CodeHigh.j1 : Nat → Int → List Int → List (S56) → Bool → List (S30) → List (S36) → Option (Bool)
 | 0, _, _, _, _, _, _ => none
 | k + 1, x3, x4, x6, x45, x446000, x446001 => if x45 = true then (some false) else (colanderlaw19_CodeHigh.l1 k x3 x4 x6 0 x446000 x446001)
def colanderlaw19_CodeHigh.l1 : Nat → Int → List Int → List (S56) → Int → List (S30) → List (S36) → Option (Bool)
 | 0, _, _, _, _, _, _ => none
 | k + 1, x3, x4, x6, x7, x446000, x446001 => if x7 < (x6.length : Int) then (if 0 ≤ x7 then (if x7 < (x4.length : Int) then (if (rd x4 x7) < (-1) then (colanderlaw19_CodeHigh.j3 k x3 x4 x6 x7 true x446000 x446001) else (if (rd x4 x7) ≥ 0 then (if ((rd_T56 x6 x7).f0) = 21 then (if (rd x4 x7) = 1 then (if (rd x4 x7) = 0 then (if ((rd_T56 x6 x7).f0) = 10 then (colanderlaw19_CodeHigh.j3 k x3 x4 x6 x7 false x446000 x446001) else (if ((rd_T56 x6 x7).f0) = 17 then (colanderlaw19_CodeHigh.j3 k x3 x4 x6 x7 false x446000 x446001) else (colanderlaw19_CodeHigh.j3 k x3 x4 x6 x7 (((rd_T56 x6 x7).f0) != 16) x446000 x446001))) else (colanderlaw19_CodeHigh.j3 k x3 x4 x6 x7 false x446000 x446001)) else (colanderlaw19_CodeHigh.j3 k x3 x4 x6 x7 true x446000 x446001)) else (if (rd x4 x7) = 0 then (if ((rd_T56 x6 x7).f0) = 10 then (colanderlaw19_CodeHigh.j3 k x3 x4 x6 x7 false x446000 x446001) else (if ((rd_T56 x6 x7).f0) = 17 then (colanderlaw19_CodeHigh.j3 k x3 x4 x6 x7 false x446000 x446001) else (colanderlaw19_CodeHigh.j3 k x3 x4 x6 x7 (((rd_T56 x6 x7).f0) != 16) x446000 x446001))) else (colanderlaw19_CodeHigh.j3 k x3 x4 x6 x7 false x446000 x446001))) else (if (rd x4 x7) = 0 then (if ((rd_T56 x6 x7).f0) = 10 then (colanderlaw19_CodeHigh.j3 k x3 x4 x6 x7 false x446000 x446001) else (if ((rd_T56 x6 x7).f0) = 17 then (colanderlaw19_CodeHigh.j3 k x3 x4 x6 x7 false x446000 x446001) else (colanderlaw19_CodeHigh.j3 k x3 x4 x6 x7 (((rd_T56 x6 x7).f0) != 16) x446000 x446001))) else (colanderlaw19_CodeHigh.j3 k x3 x4 x6 x7 false x446000 x446001)))) else (none)) else (none)) else (colanderlaw19_CodeHigh.l0 k (wrap64 (x3 + 1)) x446000 x446001)
def colanderlaw19_CodeHigh.j3 : Nat → Int → List Int → List (S56) → Int → Bool → List (S30) → List (S36) → Option (Bool)
 | 0, _, _, _, _, _, _, _ => none
 | k + 1, x3, x4, x6, x7, x109, x446000, x446001 => if x109 = true then (some false) else (if 0 ≤ x7 then (if x7 < (x4.length : Int) then (if (rd x4 x7) ≥ 0 then (if (wrap64 (x7 + 1)) = (x6.length : Int) then (if x7 < (x6.length : Int) then (if ((rd_T56 x6 x7).f0) = 21 then (colanderlaw19_CodeHigh.l1 k x3 x4 x6 (wrap64 (x7 + 1)) x446000 x446001) else (if ((rd_T56 x6 x7).f0) = 16 then (colanderlaw19_CodeHigh.l1 k x3 x4 x6 (wrap64 (x7 + 1)) x446000 x446001) else (if ((rd_T56 x6 x7).f0) = 17 then (colanderlaw19_CodeHigh.l1 k x3 x4 x6 (wrap64 (x7 + 1)) x446000 x446001) else (some false)))) else (none)) else (colanderlaw19_CodeHigh.l1 k x3 x4 x6 (wrap64 (x7 + 1)) x446000 x446001)) else (colanderlaw19_CodeHigh.l1 k x3 x4 x6 (wrap64 (x7 + 1)) x446000 x446001)) else (none)) else (none))
end
def colanderlaw19_CodeHigh.f (k : Nat) (l0_0 : List (S30)) (l0_1 : List (S36)) : Option (Bool) := (code_Check.f k l0_0 l0_1).bind fun t446 => (if t446 = 0 then (colanderlaw19_CodeHigh.l0 k 0 l0_0 l0_1) else ((colanderlaw19_heads.f).bind fun t447 => (some t447)))
set_option maxHeartbeats 8000000 in
set_option maxRecDepth 100000 in
theorem colanderlaw19_CodeHigh.calls (k : Nat) (A0_0 : Option Addr) (c0_0 : Nat) (l0_0 : List (S30)) (A0_1 : Option Addr) (c0_1 : Nat) (l0_1 : List (S36)) (r : Bool) (w : World) (hr0_0 : Kd.C k30 w A0_0 l0_0.length l0_0) (hc0_0 : l0_0.length ≤ c0_0) (hr0_1 : Kd.C k36 w A0_1 l0_1.length l0_1) (hc0_1 : l0_1.length ≤ c0_1) (hT : Tabs w) (h : colanderlaw19_CodeHigh.f k l0_0 l0_1 = some r) :
  Calls Tryz.prog 6 #[.agg #[.slice A0_0 l0_0.length c0_0, .slice A0_1 l0_1.length c0_1]] w fun e w' => e = .returned (.bool r) ∧ Below w.heap.size w w' := by
 have hu25 := Tryz.underlying25
 have HR0_0 := Aside0.mk hr0_0
 have HC0_0 := Aside0.mk hc0_0
 clear hr0_0 hc0_0
 have HR0_1 := Aside0.mk hr0_1
 have HC0_1 := Aside0.mk hc0_1
 clear hr0_1 hc0_1
 have HB := Aside0.mk (Below.refl w.heap.size w)
 have H : ((code_Check.f k l0_0 l0_1).bind fun t446 => (if t446 = 0 then (colanderlaw19_CodeHigh.l0 k 0 l0_0 l0_1) else ((colanderlaw19_heads.f).bind fun t447 => (some t447)))) = some r := h
 clear h
 replace H := Option.bind_eq_some_iff.mp H
 obtain ⟨t446, A20, H⟩ := H
 replace H : (if t446 = 0 then (colanderlaw19_CodeHigh.l0 k 0 l0_0 l0_1) else ((colanderlaw19_heads.f).bind fun t447 => (some t447))) = some r := H
 have A2 := Aside0.mk A20
 clear A20
 by_cases c3 : t446 = 0
 ·rw [if_pos c3] at H
  have c3b0 : (t446 == 0) = true := beq_iff_eq.mpr c3
  have c3b1 : (t446 != 0) = false := bne_eq_false_iff_eq.mpr c3
  clear c3
  have H' := Aside0.mk H
  clear H
  go_enter Tryz.func6, Tryz.ntmps6
  go_wp2_with (first | ((with_reducible refine gate_dst (N := 1) rfl ?_); (try (refine gate_guard (by rfl) ?_; dsimp only)); refine box_event ?hg (N := 1) ?hd (cs := #[.slice A0_0 l0_0.length c0_0, .slice A0_1 l0_1.length c0_1]) (t := 25) ?hr ?_; (case hd => rfl); (case hg => rfl); (case hr => first | (go_simp; done) | (go_simp; rfl)); intro gb445 hg w4 hbox hb; have n0_ := bes hb; have n1_ := Aside0.mk (hbox); have n2_ := Aside0.mk ((bez hg : w.heap.size ≤ gb445)); have n3_ := Aside0.mk ((bez hg : w.heap.size ≤ gb445)); clear HB; have HB := n0_; have BK445 := n1_; have GW445 := n2_; have GE445 := n3_; clear n0_ n1_ n2_ n3_; clear hb hbox hg; have hcz5_0 : w4.cell? ⟨gb445, 0, none⟩ = some (.slice A0_0 l0_0.length c0_0) := (blk_cell BK445.out 0).trans rfl; have hcz5_1 : w4.cell? ⟨gb445, 1, none⟩ = some (.slice A0_1 l0_1.length c0_1) := (blk_cell BK445.out 1).trans rfl; have hfz5_0 := blk_frozen BK445.out 0; have hfz5_1 := blk_frozen BK445.out 1) | ((with_reducible refine gate_callee (f := 8) rfl ?_); refine goesL_ (some 9) rfl rfl Tryz.func8 (by kernel_rfl) rfl #[.agg #[.slice A0_0 l0_0.length c0_0, .slice A0_1 l0_1.length c0_1]] rfl am ?_; (with_reducible refine (code_Check.calls k _ _ l0_0 _ _ l0_1 t446 _ ?side1 ?side2 ?side3 ?side4 ?side5 A2.out).mono ?_); (case side1 => exact cb HR0_0); (case side2 => exact HC0_0.out); (case side3 => exact cb HR0_1); (case side4 => exact HC0_1.out); (case side5 => first | exact hT | exact tabs_below hT bel); rintro e w6 ⟨rfl, hb⟩; refine ⟨_, rfl, ?_⟩; have n0_ := bb BK445 hb; have n1_ := bes hb; clear BK445; clear HB; have BK445 := n0_; have HB := n1_; clear n0_ n1_; (try clear hb); (try clear hb2); (try clear hk); (try clear hi)))
  go_loopg [3] k (fun kq v3 w' => ∃ (x3_1 : Int), v3 = .int .i64 x3_1 ∧ Aside0 (colanderlaw19_CodeHigh.l0 kq x3_1 l0_0 l0_1 = some r) ∧ Aside0 (kq ≤ k) ∧ Aside0 (w'.heap[gb445]? = some (.cells #[(.slice A0_0 l0_0.length c0_0), (.slice A0_1 l0_1.length c0_1)] 25 (0, 0))) ∧ Aside0 (Below w.heap.size w w'))
  case atStart => exact ⟨(0), pv, H', ⟨Nat.le_refl _⟩, ⟨bt⟩, ⟨bel⟩⟩
  case round =>
   clear H'
   obtain ⟨x3_1, rfl, HA, HK1, BK445, HB⟩ := hrel
   cases gk with
   | zero => exact absurd HA.out (by simp [colanderlaw19_CodeHigh.l0])
   | succ k1 =>
    have H := HA.out
    clear HA
    simp only [colanderlaw19_CodeHigh.l0] at H
    by_cases c7 : x3_1 < (l0_0.length : Int)
    ·rw [if_pos c7] at H
     have c7b0 : decide (x3_1 < (l0_0.length : Int)) = true := decide_eq_true c7
     clear c7
     replace H := Option.bind_eq_some_iff.mp H
     obtain ⟨⟨t449, t452⟩, A80, H⟩ := H
     replace H : (if 0 ≤ x3_1 then (if t452 = 0 then (if (t449.length : Int) = (((rd_T30 l0_0 x3_1).f5).length : Int) then (if 0 < (t449.length : Int) then (colanderlaw19_CodeHigh.j1 k1 x3_1 t449 ((rd_T30 l0_0 x3_1).f5) ((rd t449 0) != 1) l0_0 l0_1) else (none)) else (colanderlaw19_CodeHigh.j1 k1 x3_1 t449 ((rd_T30 l0_0 x3_1).f5) true l0_0 l0_1)) else (colanderlaw19_CodeHigh.j1 k1 x3_1 t449 ((rd_T30 l0_0 x3_1).f5) true l0_0 l0_1)) else (none)) = some r := H
     have A8 := Aside0.mk A80
     clear A80
     by_cases c9 : 0 ≤ x3_1
     ·rw [if_pos c9] at H
      have c9b0 : decide (0 ≤ x3_1) = true := decide_eq_true c9
      clear c9
      have HC10 := Aside0.mk H
      clear H
      have hcz11_0 : wr.cell? ⟨gb445, 0, none⟩ = some (.slice A0_0 l0_0.length c0_0) := (blk_cell BK445.out 0).trans rfl
      have hcz11_1 : wr.cell? ⟨gb445, 1, none⟩ = some (.slice A0_1 l0_1.length c0_1) := (blk_cell BK445.out 1).trans rfl
      have hfz11_0 := blk_frozen BK445.out 0
      have hfz11_1 := blk_frozen BK445.out 1
      go_upto_region 8 with (first | ((with_reducible refine gate_callee (f := 11) rfl ?_); refine goesL_ (some 22) rfl rfl Tryz.func11 (by kernel_rfl) rfl #[.agg #[.slice A0_0 l0_0.length c0_0, .slice A0_1 l0_1.length c0_1], .int .i64 x3_1] rfl am ?_; (with_reducible refine (code_Heights.calls k1 _ _ l0_0 _ _ l0_1 x3_1 t449 t452 _ ?side1 ?side2 ?side3 ?side4 ?side5 A8.out).mono ?_); (case side1 => exact cb HR0_0); (case side2 => exact HC0_0.out); (case side3 => exact cb HR0_1); (case side4 => exact HC0_1.out); (case side5 => first | exact hT | exact tabs_below hT bel); rintro e w12 ⟨v450, rfl, ho0, hb⟩; refine ⟨_, rfl, ?_⟩; have n0_ := Aside0.mk (Kd.R_lower ho0 (below_size bel)); have n1_ := bb BK445 hb; have n2_ := bes hb; clear BK445; clear HB; have HO451 := n0_; have BK445 := n1_; have HB := n2_; clear n0_ n1_ n2_; (try clear hb); (try clear hb2); (try clear hk); (try clear hi); (try clear ho0); have hcz13_0 : w12.cell? ⟨gb445, 0, none⟩ = some (.slice A0_0 l0_0.length c0_0) := (blk_cell BK445.out 0).trans rfl; have hcz13_1 : w12.cell? ⟨gb445, 1, none⟩ = some (.slice A0_1 l0_1.length c0_1) := (blk_cell BK445.out 1).trans rfl; have hfz13_0 := blk_frozen BK445.out 0; have hfz13_1 := blk_frozen BK445.out 1; have p453 : 0 ≤ (x3_1 : Int) := of_decide_eq_true ass; have q453 : x3_1 < (l0_0.length : Int) := of_decide_eq_true ass; obtain ⟨ad453, A453_5, c453_5, e453, hx453_0, hx453_1, hx453_2, hx453_3, hx453_4, hx453_5, hl453_5, hi453_5⟩ := at_T30 HR0_0.out x3_1 p453 q453; cases e453; replace hx453_0 := cq HB hx453_0; replace hx453_1 := cq HB hx453_1; replace hx453_2 := cq HB hx453_2; replace hx453_3 := cq HB hx453_3; replace hx453_4 := cq HB hx453_4; replace hx453_5 := cq HB hx453_5; have HR453_5 := Aside0.mk hi453_5; have HC453_5 := Aside0.mk hl453_5; clear hi453_5 hl453_5; replace p453 := eq_true p453; replace q453 := eq_true q453))
      (try simp only [Act.put, List.setIfInBounds_toArray, List.set_cons_zero, List.set_cons_succ])
      go_cut [45] (fun v45 wc => ∃ (kq : Nat) (x45_9 : Bool), v45 = .bool x45_9 ∧ Aside0 (colanderlaw19_CodeHigh.j1 kq x3_1 t449 ((rd_T30 l0_0 x3_1).f5) x45_9 l0_0 l0_1 = some r) ∧ Aside0 (kq ≤ k1) ∧ Aside0 (Kd.R (Kd.int .i64) 3 wc w.heap.size (fun _ => True) v450 t449) ∧ Aside0 (wc.heap[gb445]? = some (.cells #[(.slice (some ad453) l0_0.length c0_0), (.slice A0_1 l0_1.length c0_1)] 25 (0, 0))) ∧ Aside0 (Below w.heap.size w wc))
      case first =>
       have H := HC10.out
       clear HC10
       by_cases c14 : t452 = 0
       ·rw [if_pos c14] at H
        have c14b0 : (t452 == 0) = true := beq_iff_eq.mpr c14
        have c14b1 : (t452 != 0) = false := bne_eq_false_iff_eq.mpr c14
        clear c14
        (first | rw [c14b0] | (simp only [i64_w, i32_w]; rw [c14b0]) | skip)
        by_cases c15 : (t449.length : Int) = (((rd_T30 l0_0 x3_1).f5).length : Int)
        ·rw [if_pos c15] at H
         have c15b0 : ((t449.length : Int) == (((rd_T30 l0_0 x3_1).f5).length : Int)) = true := beq_iff_eq.mpr c15
         have c15b1 : ((t449.length : Int) != (((rd_T30 l0_0 x3_1).f5).length : Int)) = false := bne_eq_false_iff_eq.mpr c15
         have c15b2 : (t449.length == ((rd_T30 l0_0 x3_1).f5).length) = true := by first | simpa using c15 | (simp at c15 ⊢; omega)
         clear c15
         by_cases c16 : 0 < (t449.length : Int)
         ·rw [if_pos c16] at H
          have c16b0 : decide (0 < (t449.length : Int)) = true := decide_eq_true c16
          have c16b1 : decide (0 < t449.length) = true := decide_eq_true (by omega)
          clear c16
          have H' := Aside0.mk H
          clear H
          obtain ⟨Ao17, co17, eo17⟩ := Kd.R_slice HO451.out
          subst eo17
          have p454 : 0 ≤ (0 : Int) := (by omega)
          have q454 : 0 < (t449.length : Int) := of_decide_eq_true ass
          obtain ⟨ad454, e454, hx454_0⟩ := Kd.at_int (Kd.R_reads' HO451.out).2.2 0 p454 q454
          cases e454
          have qi454 : (0 < t449.length) = True := eq_true (by omega)
          (try rw [show ((0 : Int)).toNat = 0 from rfl] at hx454_0)
          (try rw [Addr.add_zero'] at hx454_0)
          replace p454 := eq_true p454
          replace q454 := eq_true q454
          go_wp2
          go_meet
          case rel => exact ⟨_, (((rd t449 0) != 1)), pv, H', ⟨by have := HK1.out; first | omega | exact Nat.le_refl _⟩, ⟨rt HO451⟩, ⟨bt⟩, ⟨bel⟩⟩
         ·rw [if_neg c16] at H
          exact absurd H (by simp)
        ·rw [if_neg c15] at H
         have c15b0 : ((t449.length : Int) == (((rd_T30 l0_0 x3_1).f5).length : Int)) = false := beq_eq_false_iff_ne.mpr c15
         have c15b1 : ((t449.length : Int) != (((rd_T30 l0_0 x3_1).f5).length : Int)) = true := bne_iff_ne.mpr c15
         have c15b2 : (t449.length == ((rd_T30 l0_0 x3_1).f5).length) = false := by first | simpa using c15 | (simp at c15 ⊢; omega)
         have H' := Aside0.mk H
         clear H
         obtain ⟨Ao18, co18, eo18⟩ := Kd.R_slice HO451.out
         subst eo18
         go_wp2
         go_meet
         case rel => exact ⟨_, (true), pv, H', ⟨by have := HK1.out; first | omega | exact Nat.le_refl _⟩, ⟨rt HO451⟩, ⟨bt⟩, ⟨bel⟩⟩
       ·rw [if_neg c14] at H
        have c14b0 : (t452 == 0) = false := beq_eq_false_iff_ne.mpr c14
        have c14b1 : (t452 != 0) = true := bne_iff_ne.mpr c14
        (first | rw [c14b0] | (simp only [i64_w, i32_w]; rw [c14b0]) | skip)
        have H' := Aside0.mk H
        clear H
        go_wp2
        go_meet
        case rel => exact ⟨_, (true), pv, H', ⟨by have := HK1.out; first | omega | exact Nat.le_refl _⟩, ⟨rt HO451⟩, ⟨bt⟩, ⟨bel⟩⟩
      case rest =>
       clear HC10
       obtain ⟨kq, x45_9, rfl, HA, HJ9, HO_4, BK445, HB⟩ := hcut
       cases kq with
       | zero => exact absurd HA.out (by simp [colanderlaw19_CodeHigh.j1])
       | succ kj9 =>
        have H := HA.out
        clear HA
        simp only [colanderlaw19_CodeHigh.j1] at H
        by_cases c19 : x45_9 = true
        ·subst c19
         have H1 : (some false) = some r := by rw [if_pos rfl] at H; exact H
         clear H
         have H := H1
         clear H1
         obtain rfl := Option.some.inj H
         go_wp2
         go_ret
         exact fn
        ·replace c19 := Bool.eq_false_iff.mpr c19
         subst c19
         have H1 : (colanderlaw19_CodeHigh.l1 kj9 x3_1 t449 ((rd_T30 l0_0 x3_1).f5) 0 l0_0 l0_1) = some r := by rw [if_neg (show ¬ (false = true) by decide)] at H; exact H
         clear H
         have H := H1
         clear H1
         have H' := Aside0.mk H
         clear H
         go_wp2
         go_loopg [7] kj9 (fun kq v7 w' => ∃ (x7_3 : Int), v7 = .int .i64 x7_3 ∧ Aside0 (colanderlaw19_CodeHigh.l1 kq x3_1 t449 ((rd_T30 l0_0 x3_1).f5) x7_3 l0_0 l0_1 = some r) ∧ Aside0 (kq ≤ kj9) ∧ Aside0 (Kd.R (Kd.int .i64) 3 w' w.heap.size (fun _ => True) v450 t449) ∧ Aside0 (w'.heap[gb445]? = some (.cells #[(.slice (some ad453) l0_0.length c0_0), (.slice A0_1 l0_1.length c0_1)] 25 (0, 0))) ∧ Aside0 (Below w.heap.size w w'))
         case atStart => exact ⟨(0), pv, H', ⟨Nat.le_refl _⟩, ⟨rt HO_4⟩, ⟨bt⟩, ⟨bel⟩⟩
         case round =>
          clear H'
          obtain ⟨x7_3, rfl, HA, HK3, HO_4, BK445, HB⟩ := hrel
          cases gk with
          | zero => exact absurd HA.out (by simp [colanderlaw19_CodeHigh.l1])
          | succ k3 =>
           have H := HA.out
           clear HA
           simp only [colanderlaw19_CodeHigh.l1] at H
           by_cases c20 : x7_3 < (((rd_T30 l0_0 x3_1).f5).length : Int)
           ·rw [if_pos c20] at H
            have c20b0 : decide (x7_3 < (((rd_T30 l0_0 x3_1).f5).length : Int)) = true := decide_eq_true c20
            clear c20
            have HC21 := Aside0.mk H
            clear H
            go_upto_region 13 with (fail)
            go_cut [109] (fun v109 wc => ∃ (kq : Nat) (x109_20 : Bool), v109 = .bool x109_20 ∧ Aside0 (colanderlaw19_CodeHigh.j3 kq x3_1 t449 ((rd_T30 l0_0 x3_1).f5) x7_3 x109_20 l0_0 l0_1 = some r) ∧ Aside0 (kq ≤ k3) ∧ Aside0 (Kd.R (Kd.int .i64) 3 wc w.heap.size (fun _ => True) v450 t449) ∧ Aside0 (wc.heap[gb445]? = some (.cells #[(.slice (some ad453) l0_0.length c0_0), (.slice A0_1 l0_1.length c0_1)] 25 (0, 0))) ∧ Aside0 (Below w.heap.size w wc))
            case first =>
             have H := HC21.out
             clear HC21
             by_cases c22 : 0 ≤ x7_3
             ·rw [if_pos c22] at H
              have c22b0 : decide (0 ≤ x7_3) = true := decide_eq_true c22
              clear c22
              (first | rw [c22b0] | (simp only [i64_w, i32_w]; rw [c22b0]) | skip)
              by_cases c23 : x7_3 < (t449.length : Int)
              ·rw [if_pos c23] at H
               have c23b0 : decide (x7_3 < (t449.length : Int)) = true := decide_eq_true c23
               clear c23
               by_cases c24 : (rd t449 x7_3) < (-1)
               ·rw [if_pos c24] at H
                have c24b0 : decide ((rd t449 x7_3) < (-1)) = true := decide_eq_true c24
                clear c24
                have H' := Aside0.mk H
                clear H
                obtain ⟨Ao25, co25, eo25⟩ := Kd.R_slice HO_4.out
                subst eo25
                have p455 : 0 ≤ (x7_3 : Int) := of_decide_eq_true ass
                have q455 : x7_3 < (t449.length : Int) := of_decide_eq_true ass
                obtain ⟨ad455, e455, hx455_0⟩ := Kd.at_int (Kd.R_reads' HO_4.out).2.2 x7_3 p455 q455
                cases e455
                replace p455 := eq_true p455
                replace q455 := eq_true q455
                go_wp2
                go_meet
                case rel => exact ⟨_, (true), pv, H', ⟨by have := HK1.out; have := HJ9.out; have := HK3.out; first | omega | exact Nat.le_refl _⟩, ⟨rt HO_4⟩, ⟨bt⟩, ⟨bel⟩⟩
               ·rw [if_neg c24] at H
                have c24b0 : decide ((rd t449 x7_3) < (-1)) = false := decide_eq_false c24
                clear c24
                by_cases c26 : (rd t449 x7_3) ≥ 0
                ·rw [if_pos c26] at H
                 have c26b0 : decide (0 ≤ (rd t449 x7_3)) = true := decide_eq_true c26
                 clear c26
                 by_cases c27 : ((rd_T56 ((rd_T30 l0_0 x3_1).f5) x7_3).f0) = 21
                 ·rw [if_pos c27] at H
                  have c27b0 : (((rd_T56 ((rd_T30 l0_0 x3_1).f5) x7_3).f0) == 21) = true := beq_iff_eq.mpr c27
                  have c27b1 : (((rd_T56 ((rd_T30 l0_0 x3_1).f5) x7_3).f0) != 21) = false := bne_eq_false_iff_eq.mpr c27
                  clear c27
                  by_cases c28 : (rd t449 x7_3) = 1
                  ·rw [if_pos c28] at H
                   have c28b0 : ((rd t449 x7_3) == 1) = true := beq_iff_eq.mpr c28
                   have c28b1 : ((rd t449 x7_3) != 1) = false := bne_eq_false_iff_eq.mpr c28
                   clear c28
                   by_cases c29 : (rd t449 x7_3) = 0
                   ·rw [if_pos c29] at H
                    have c29b0 : ((rd t449 x7_3) == 0) = true := beq_iff_eq.mpr c29
                    have c29b1 : ((rd t449 x7_3) != 0) = false := bne_eq_false_iff_eq.mpr c29
                    clear c29
                    by_cases c30 : ((rd_T56 ((rd_T30 l0_0 x3_1).f5) x7_3).f0) = 10
                    ·rw [if_pos c30] at H
                     have c30b0 : (((rd_T56 ((rd_T30 l0_0 x3_1).f5) x7_3).f0) == 10) = true := beq_iff_eq.mpr c30
                     have c30b1 : (((rd_T56 ((rd_T30 l0_0 x3_1).f5) x7_3).f0) != 10) = false := bne_eq_false_iff_eq.mpr c30
                     clear c30
                     have H' := Aside0.mk H
                     clear H
                     obtain ⟨Ao31, co31, eo31⟩ := Kd.R_slice HO_4.out
                     subst eo31
                     have p455 : 0 ≤ (x7_3 : Int) := of_decide_eq_true ass
                     have q455 : x7_3 < (t449.length : Int) := of_decide_eq_true ass
                     obtain ⟨ad455, e455, hx455_0⟩ := Kd.at_int (Kd.R_reads' HO_4.out).2.2 x7_3 p455 q455
                     cases e455
                     replace p455 := eq_true p455
                     replace q455 := eq_true q455
                     have p456 : 0 ≤ (x7_3 : Int) := of_decide_eq_true ass
                     have q456 : x7_3 < (t449.length : Int) := of_decide_eq_true ass
                     obtain ⟨ad456, e456, hx456_0⟩ := Kd.at_int (Kd.R_reads' HO_4.out).2.2 x7_3 p456 q456
                     obtain rfl : ad455 = ad456 := (by injection e456)
                     replace p456 := eq_true p456
                     replace q456 := eq_true q456
                     have p457 : 0 ≤ (x7_3 : Int) := of_decide_eq_true ass
                     have q457 : x7_3 < (((rd_T30 l0_0 x3_1).f5).length : Int) := of_decide_eq_true ass
                     obtain ⟨ad457, A457_4, c457_4, e457, hx457_0, hx457_1, hx457_2, hx457_3, hx457_4, hl457_4, hi457_4⟩ := at_T56 HR453_5.out x7_3 p457 q457
                     cases e457
                     replace hx457_0 := cq HB hx457_0
                     replace hx457_1 := cq HB hx457_1
                     replace hx457_2 := cq HB hx457_2
                     replace hx457_3 := cq HB hx457_3
                     replace hx457_4 := cq HB hx457_4
                     have HR457_4 := Aside0.mk hi457_4
                     have HC457_4 := Aside0.mk hl457_4
                     clear hi457_4 hl457_4
                     replace p457 := eq_true p457
                     replace q457 := eq_true q457
                     have p458 : 0 ≤ (x7_3 : Int) := of_decide_eq_true ass
                     have q458 : x7_3 < (t449.length : Int) := of_decide_eq_true ass
                     obtain ⟨ad458, e458, hx458_0⟩ := Kd.at_int (Kd.R_reads' HO_4.out).2.2 x7_3 p458 q458
                     obtain rfl : ad455 = ad458 := (by injection e458)
                     replace p458 := eq_true p458
                     replace q458 := eq_true q458
                     have p459 : 0 ≤ (x7_3 : Int) := of_decide_eq_true ass
                     have q459 : x7_3 < (t449.length : Int) := of_decide_eq_true ass
                     obtain ⟨ad459, e459, hx459_0⟩ := Kd.at_int (Kd.R_reads' HO_4.out).2.2 x7_3 p459 q459
                     obtain rfl : ad455 = ad459 := (by injection e459)
                     replace p459 := eq_true p459
                     replace q459 := eq_true q459
                     have p460 : 0 ≤ (x7_3 : Int) := of_decide_eq_true ass
                     have q460 : x7_3 < (((rd_T30 l0_0 x3_1).f5).length : Int) := of_decide_eq_true ass
                     obtain ⟨ad460, A460_4, c460_4, e460, hx460_0, hx460_1, hx460_2, hx460_3, hx460_4, hl460_4, hi460_4⟩ := at_T56 HR453_5.out x7_3 p460 q460
                     obtain rfl : ad457 = ad460 := (by injection e460)
                     replace hx460_0 := cq HB hx460_0
                     replace hx460_1 := cq HB hx460_1
                     replace hx460_2 := cq HB hx460_2
                     replace hx460_3 := cq HB hx460_3
                     replace hx460_4 := cq HB hx460_4
                     have HR460_4 := Aside0.mk hi460_4
                     have HC460_4 := Aside0.mk hl460_4
                     clear hi460_4 hl460_4
                     replace p460 := eq_true p460
                     replace q460 := eq_true q460
                     have ea_ := Option.some.inj (hx457_4.symm.trans hx460_4)
                     injection ea_ with ea_ en_ ec_
                     subst ea_
                     subst ec_
                     clear en_
                     go_wp2
                     go_meet
                     case rel => exact ⟨_, (false), pv, H', ⟨by have := HK1.out; have := HJ9.out; have := HK3.out; first | omega | exact Nat.le_refl _⟩, ⟨rt HO_4⟩, ⟨bt⟩, ⟨bel⟩⟩
                    ·rw [if_neg c30] at H
                     have c30b0 : (((rd_T56 ((rd_T30 l0_0 x3_1).f5) x7_3).f0) == 10) = false := beq_eq_false_iff_ne.mpr c30
                     have c30b1 : (((rd_T56 ((rd_T30 l0_0 x3_1).f5) x7_3).f0) != 10) = true := bne_iff_ne.mpr c30
                     by_cases c32 : ((rd_T56 ((rd_T30 l0_0 x3_1).f5) x7_3).f0) = 17
                     ·rw [if_pos c32] at H
                      have c32b0 : (((rd_T56 ((rd_T30 l0_0 x3_1).f5) x7_3).f0) == 17) = true := beq_iff_eq.mpr c32
                      have c32b1 : (((rd_T56 ((rd_T30 l0_0 x3_1).f5) x7_3).f0) != 17) = false := bne_eq_false_iff_eq.mpr c32
                      clear c32
                      have H' := Aside0.mk H
                      clear H
                      obtain ⟨Ao33, co33, eo33⟩ := Kd.R_slice HO_4.out
                      subst eo33
                      have p455 : 0 ≤ (x7_3 : Int) := of_decide_eq_true ass
                      have q455 : x7_3 < (t449.length : Int) := of_decide_eq_true ass
                      obtain ⟨ad455, e455, hx455_0⟩ := Kd.at_int (Kd.R_reads' HO_4.out).2.2 x7_3 p455 q455
                      cases e455
                      replace p455 := eq_true p455
                      replace q455 := eq_true q455
                      have p456 : 0 ≤ (x7_3 : Int) := of_decide_eq_true ass
                      have q456 : x7_3 < (t449.length : Int) := of_decide_eq_true ass
                      obtain ⟨ad456, e456, hx456_0⟩ := Kd.at_int (Kd.R_reads' HO_4.out).2.2 x7_3 p456 q456
                      obtain rfl : ad455 = ad456 := (by injection e456)
                      replace p456 := eq_true p456
                      replace q456 := eq_true q456
                      have p457 : 0 ≤ (x7_3 : Int) := of_decide_eq_true ass
                      have q457 : x7_3 < (((rd_T30 l0_0 x3_1).f5).length : Int) := of_decide_eq_true ass
                      obtain ⟨ad457, A457_4, c457_4, e457, hx457_0, hx457_1, hx457_2, hx457_3, hx457_4, hl457_4, hi457_4⟩ := at_T56 HR453_5.out x7_3 p457 q457
                      cases e457
                      replace hx457_0 := cq HB hx457_0
                      replace hx457_1 := cq HB hx457_1
                      replace hx457_2 := cq HB hx457_2
                      replace hx457_3 := cq HB hx457_3
                      replace hx457_4 := cq HB hx457_4
                      have HR457_4 := Aside0.mk hi457_4
                      have HC457_4 := Aside0.mk hl457_4
                      clear hi457_4 hl457_4
                      replace p457 := eq_true p457
                      replace q457 := eq_true q457
                      have p458 : 0 ≤ (x7_3 : Int) := of_decide_eq_true ass
                      have q458 : x7_3 < (t449.length : Int) := of_decide_eq_true ass
                      obtain ⟨ad458, e458, hx458_0⟩ := Kd.at_int (Kd.R_reads' HO_4.out).2.2 x7_3 p458 q458
                      obtain rfl : ad455 = ad458 := (by injection e458)
                      replace p458 := eq_true p458
                      replace q458 := eq_true q458
                      have p459 : 0 ≤ (x7_3 : Int) := of_decide_eq_true ass
                      have q459 : x7_3 < (t449.length : Int) := of_decide_eq_true ass
                      obtain ⟨ad459, e459, hx459_0⟩ := Kd.at_int (Kd.R_reads' HO_4.out).2.2 x7_3 p459 q459
                      obtain rfl : ad455 = ad459 := (by injection e459)
                      replace p459 := eq_true p459
                      replace q459 := eq_true q459
                      have p460 : 0 ≤ (x7_3 : Int) := of_decide_eq_true ass
                      have q460 : x7_3 < (((rd_T30 l0_0 x3_1).f5).length : Int) := of_decide_eq_true ass
                      obtain ⟨ad460, A460_4, c460_4, e460, hx460_0, hx460_1, hx460_2, hx460_3, hx460_4, hl460_4, hi460_4⟩ := at_T56 HR453_5.out x7_3 p460 q460
                      obtain rfl : ad457 = ad460 := (by injection e460)
                      replace hx460_0 := cq HB hx460_0
                      replace hx460_1 := cq HB hx460_1
                      replace hx460_2 := cq HB hx460_2
                      replace hx460_3 := cq HB hx460_3
                      replace hx460_4 := cq HB hx460_4
                      have HR460_4 := Aside0.mk hi460_4
                      have HC460_4 := Aside0.mk hl460_4
                      clear hi460_4 hl460_4
                      replace p460 := eq_true p460
                      replace q460 := eq_true q460
                      have ea_ := Option.some.inj (hx457_4.symm.trans hx460_4)
                      injection ea_ with ea_ en_ ec_
                      subst ea_
                      subst ec_
                      clear en_
                      have p461 : 0 ≤ (x7_3 : Int) := of_decide_eq_true ass
                      have q461 : x7_3 < (((rd_T30 l0_0 x3_1).f5).length : Int) := of_decide_eq_true ass
                      obtain ⟨ad461, A461_4, c461_4, e461, hx461_0, hx461_1, hx461_2, hx461_3, hx461_4, hl461_4, hi461_4⟩ := at_T56 HR453_5.out x7_3 p461 q461
                      obtain rfl : ad457 = ad461 := (by injection e461)
                      replace hx461_0 := cq HB hx461_0
                      replace hx461_1 := cq HB hx461_1
                      replace hx461_2 := cq HB hx461_2
                      replace hx461_3 := cq HB hx461_3
                      replace hx461_4 := cq HB hx461_4
                      have HR461_4 := Aside0.mk hi461_4
                      have HC461_4 := Aside0.mk hl461_4
                      clear hi461_4 hl461_4
                      replace p461 := eq_true p461
                      replace q461 := eq_true q461
                      have ea_ := Option.some.inj (hx457_4.symm.trans hx461_4)
                      injection ea_ with ea_ en_ ec_
                      subst ea_
                      subst ec_
                      clear en_
                      go_wp2
                      go_meet
                      case rel => exact ⟨_, (false), pv, H', ⟨by have := HK1.out; have := HJ9.out; have := HK3.out; first | omega | exact Nat.le_refl _⟩, ⟨rt HO_4⟩, ⟨bt⟩, ⟨bel⟩⟩
                     ·rw [if_neg c32] at H
                      have c32b0 : (((rd_T56 ((rd_T30 l0_0 x3_1).f5) x7_3).f0) == 17) = false := beq_eq_false_iff_ne.mpr c32
                      have c32b1 : (((rd_T56 ((rd_T30 l0_0 x3_1).f5) x7_3).f0) != 17) = true := bne_iff_ne.mpr c32
                      have H' := Aside0.mk H
                      clear H
                      obtain ⟨Ao34, co34, eo34⟩ := Kd.R_slice HO_4.out
                      subst eo34
                      have p455 : 0 ≤ (x7_3 : Int) := of_decide_eq_true ass
                      have q455 : x7_3 < (t449.length : Int) := of_decide_eq_true ass
                      obtain ⟨ad455, e455, hx455_0⟩ := Kd.at_int (Kd.R_reads' HO_4.out).2.2 x7_3 p455 q455
                      cases e455
                      replace p455 := eq_true p455
                      replace q455 := eq_true q455
                      have p456 : 0 ≤ (x7_3 : Int) := of_decide_eq_true ass
                      have q456 : x7_3 < (t449.length : Int) := of_decide_eq_true ass
                      obtain ⟨ad456, e456, hx456_0⟩ := Kd.at_int (Kd.R_reads' HO_4.out).2.2 x7_3 p456 q456
                      obtain rfl : ad455 = ad456 := (by injection e456)
                      replace p456 := eq_true p456
                      replace q456 := eq_true q456
                      have p457 : 0 ≤ (x7_3 : Int) := of_decide_eq_true ass
                      have q457 : x7_3 < (((rd_T30 l0_0 x3_1).f5).length : Int) := of_decide_eq_true ass
                      obtain ⟨ad457, A457_4, c457_4, e457, hx457_0, hx457_1, hx457_2, hx457_3, hx457_4, hl457_4, hi457_4⟩ := at_T56 HR453_5.out x7_3 p457 q457
                      cases e457
                      replace hx457_0 := cq HB hx457_0
                      replace hx457_1 := cq HB hx457_1
                      replace hx457_2 := cq HB hx457_2
                      replace hx457_3 := cq HB hx457_3
                      replace hx457_4 := cq HB hx457_4
                      have HR457_4 := Aside0.mk hi457_4
                      have HC457_4 := Aside0.mk hl457_4
                      clear hi457_4 hl457_4
                      replace p457 := eq_true p457
                      replace q457 := eq_true q457
                      have p458 : 0 ≤ (x7_3 : Int) := of_decide_eq_true ass
                      have q458 : x7_3 < (t449.length : Int) := of_decide_eq_true ass
                      obtain ⟨ad458, e458, hx458_0⟩ := Kd.at_int (Kd.R_reads' HO_4.out).2.2 x7_3 p458 q458
                      obtain rfl : ad455 = ad458 := (by injection e458)
                      replace p458 := eq_true p458
                      replace q458 := eq_true q458
                      have p459 : 0 ≤ (x7_3 : Int) := of_decide_eq_true ass
                      have q459 : x7_3 < (t449.length : Int) := of_decide_eq_true ass
                      obtain ⟨ad459, e459, hx459_0⟩ := Kd.at_int (Kd.R_reads' HO_4.out).2.2 x7_3 p459 q459
                      obtain rfl : ad455 = ad459 := (by injection e459)
                      replace p459 := eq_true p459
                      replace q459 := eq_true q459
                      have p460 : 0 ≤ (x7_3 : Int) := of_decide_eq_true ass
                      have q460 : x7_3 < (((rd_T30 l0_0 x3_1).f5).length : Int) := of_decide_eq_true ass
                      obtain ⟨ad460, A460_4, c460_4, e460, hx460_0, hx460_1, hx460_2, hx460_3, hx460_4, hl460_4, hi460_4⟩ := at_T56 HR453_5.out x7_3 p460 q460
                      obtain rfl : ad457 = ad460 := (by injection e460)
                      replace hx460_0 := cq HB hx460_0
                      replace hx460_1 := cq HB hx460_1
                      replace hx460_2 := cq HB hx460_2
                      replace hx460_3 := cq HB hx460_3
                      replace hx460_4 := cq HB hx460_4
                      have HR460_4 := Aside0.mk hi460_4
                      have HC460_4 := Aside0.mk hl460_4
                      clear hi460_4 hl460_4
                      replace p460 := eq_true p460
                      replace q460 := eq_true q460
                      have ea_ := Option.some.inj (hx457_4.symm.trans hx460_4)
                      injection ea_ with ea_ en_ ec_
                      subst ea_
                      subst ec_
                      clear en_
                      have p461 : 0 ≤ (x7_3 : Int) := of_decide_eq_true ass
                      have q461 : x7_3 < (((rd_T30 l0_0 x3_1).f5).length : Int) := of_decide_eq_true ass
                      obtain ⟨ad461, A461_4, c461_4, e461, hx461_0, hx461_1, hx461_2, hx461_3, hx461_4, hl461_4, hi461_4⟩ := at_T56 HR453_5.out x7_3 p461 q461
                      obtain rfl : ad457 = ad461 := (by injection e461)
                      replace hx461_0 := cq HB hx461_0
                      replace hx461_1 := cq HB hx461_1
                      replace hx461_2 := cq HB hx461_2
                      replace hx461_3 := cq HB hx461_3
                      replace hx461_4 := cq HB hx461_4
                      have HR461_4 := Aside0.mk hi461_4
                      have HC461_4 := Aside0.mk hl461_4
                      clear hi461_4 hl461_4
                      replace p461 := eq_true p461
                      replace q461 := eq_true q461
                      have ea_ := Option.some.inj (hx457_4.symm.trans hx461_4)
                      injection ea_ with ea_ en_ ec_
                      subst ea_
                      subst ec_
                      clear en_
                      have p462 : 0 ≤ (x7_3 : Int) := of_decide_eq_true ass
                      have q462 : x7_3 < (((rd_T30 l0_0 x3_1).f5).length : Int) := of_decide_eq_true ass
                      obtain ⟨ad462, A462_4, c462_4, e462, hx462_0, hx462_1, hx462_2, hx462_3, hx462_4, hl462_4, hi462_4⟩ := at_T56 HR453_5.out x7_3 p462 q462
                      obtain rfl : ad457 = ad462 := (by injection e462)
                      replace hx462_0 := cq HB hx462_0
                      replace hx462_1 := cq HB hx462_1
                      replace hx462_2 := cq HB hx462_2
                      replace hx462_3 := cq HB hx462_3
                      replace hx462_4 := cq HB hx462_4
                      have HR462_4 := Aside0.mk hi462_4
                      have HC462_4 := Aside0.mk hl462_4
                      clear hi462_4 hl462_4
                      replace p462 := eq_true p462
                      replace q462 := eq_true q462
                      have ea_ := Option.some.inj (hx457_4.symm.trans hx462_4)
                      injection ea_ with ea_ en_ ec_
                      subst ea_
                      subst ec_
                      clear en_
                      go_wp2
                      go_meet
                      case rel => exact ⟨_, ((((rd_T56 ((rd_T30 l0_0 x3_1).f5) x7_3).f0) != 16)), pv, H', ⟨by have := HK1.out; have := HJ9.out; have := HK3.out; first | omega | exact Nat.le_refl _⟩, ⟨rt HO_4⟩, ⟨bt⟩, ⟨bel⟩⟩
                   ·rw [if_neg c29] at H
                    have c29b0 : ((rd t449 x7_3) == 0) = false := beq_eq_false_iff_ne.mpr c29
                    have c29b1 : ((rd t449 x7_3) != 0) = true := bne_iff_ne.mpr c29
                    have H' := Aside0.mk H
                    clear H
                    obtain ⟨Ao35, co35, eo35⟩ := Kd.R_slice HO_4.out
                    subst eo35
                    have p455 : 0 ≤ (x7_3 : Int) := of_decide_eq_true ass
                    have q455 : x7_3 < (t449.length : Int) := of_decide_eq_true ass
                    obtain ⟨ad455, e455, hx455_0⟩ := Kd.at_int (Kd.R_reads' HO_4.out).2.2 x7_3 p455 q455
                    cases e455
                    replace p455 := eq_true p455
                    replace q455 := eq_true q455
                    have p456 : 0 ≤ (x7_3 : Int) := of_decide_eq_true ass
                    have q456 : x7_3 < (t449.length : Int) := of_decide_eq_true ass
                    obtain ⟨ad456, e456, hx456_0⟩ := Kd.at_int (Kd.R_reads' HO_4.out).2.2 x7_3 p456 q456
                    obtain rfl : ad455 = ad456 := (by injection e456)
                    replace p456 := eq_true p456
                    replace q456 := eq_true q456
                    have p457 : 0 ≤ (x7_3 : Int) := of_decide_eq_true ass
                    have q457 : x7_3 < (((rd_T30 l0_0 x3_1).f5).length : Int) := of_decide_eq_true ass
                    obtain ⟨ad457, A457_4, c457_4, e457, hx457_0, hx457_1, hx457_2, hx457_3, hx457_4, hl457_4, hi457_4⟩ := at_T56 HR453_5.out x7_3 p457 q457
                    cases e457
                    replace hx457_0 := cq HB hx457_0
                    replace hx457_1 := cq HB hx457_1
                    replace hx457_2 := cq HB hx457_2
                    replace hx457_3 := cq HB hx457_3
                    replace hx457_4 := cq HB hx457_4
                    have HR457_4 := Aside0.mk hi457_4
                    have HC457_4 := Aside0.mk hl457_4
                    clear hi457_4 hl457_4
                    replace p457 := eq_true p457
                    replace q457 := eq_true q457
                    have p458 : 0 ≤ (x7_3 : Int) := of_decide_eq_true ass
                    have q458 : x7_3 < (t449.length : Int) := of_decide_eq_true ass
                    obtain ⟨ad458, e458, hx458_0⟩ := Kd.at_int (Kd.R_reads' HO_4.out).2.2 x7_3 p458 q458
                    obtain rfl : ad455 = ad458 := (by injection e458)
                    replace p458 := eq_true p458
                    replace q458 := eq_true q458
                    have p459 : 0 ≤ (x7_3 : Int) := of_decide_eq_true ass
                    have q459 : x7_3 < (t449.length : Int) := of_decide_eq_true ass
                    obtain ⟨ad459, e459, hx459_0⟩ := Kd.at_int (Kd.R_reads' HO_4.out).2.2 x7_3 p459 q459
                    obtain rfl : ad455 = ad459 := (by injection e459)
                    replace p459 := eq_true p459
                    replace q459 := eq_true q459
                    go_wp2
                    go_meet
                    case rel => exact ⟨_, (false), pv, H', ⟨by have := HK1.out; have := HJ9.out; have := HK3.out; first | omega | exact Nat.le_refl _⟩, ⟨rt HO_4⟩, ⟨bt⟩, ⟨bel⟩⟩
                  ·rw [if_neg c28] at H
                   have c28b0 : ((rd t449 x7_3) == 1) = false := beq_eq_false_iff_ne.mpr c28
                   have c28b1 : ((rd t449 x7_3) != 1) = true := bne_iff_ne.mpr c28
                   have H' := Aside0.mk H
                   clear H
                   obtain ⟨Ao36, co36, eo36⟩ := Kd.R_slice HO_4.out
                   subst eo36
                   have p455 : 0 ≤ (x7_3 : Int) := of_decide_eq_true ass
                   have q455 : x7_3 < (t449.length : Int) := of_decide_eq_true ass
                   obtain ⟨ad455, e455, hx455_0⟩ := Kd.at_int (Kd.R_reads' HO_4.out).2.2 x7_3 p455 q455
                   cases e455
                   replace p455 := eq_true p455
                   replace q455 := eq_true q455
                   have p456 : 0 ≤ (x7_3 : Int) := of_decide_eq_true ass
                   have q456 : x7_3 < (t449.length : Int) := of_decide_eq_true ass
                   obtain ⟨ad456, e456, hx456_0⟩ := Kd.at_int (Kd.R_reads' HO_4.out).2.2 x7_3 p456 q456
                   obtain rfl : ad455 = ad456 := (by injection e456)
                   replace p456 := eq_true p456
                   replace q456 := eq_true q456
                   have p457 : 0 ≤ (x7_3 : Int) := of_decide_eq_true ass
                   have q457 : x7_3 < (((rd_T30 l0_0 x3_1).f5).length : Int) := of_decide_eq_true ass
                   obtain ⟨ad457, A457_4, c457_4, e457, hx457_0, hx457_1, hx457_2, hx457_3, hx457_4, hl457_4, hi457_4⟩ := at_T56 HR453_5.out x7_3 p457 q457
                   cases e457
                   replace hx457_0 := cq HB hx457_0
                   replace hx457_1 := cq HB hx457_1
                   replace hx457_2 := cq HB hx457_2
                   replace hx457_3 := cq HB hx457_3
                   replace hx457_4 := cq HB hx457_4
                   have HR457_4 := Aside0.mk hi457_4
                   have HC457_4 := Aside0.mk hl457_4
                   clear hi457_4 hl457_4
                   replace p457 := eq_true p457
                   replace q457 := eq_true q457
                   have p458 : 0 ≤ (x7_3 : Int) := of_decide_eq_true ass
                   have q458 : x7_3 < (t449.length : Int) := of_decide_eq_true ass
                   obtain ⟨ad458, e458, hx458_0⟩ := Kd.at_int (Kd.R_reads' HO_4.out).2.2 x7_3 p458 q458
                   obtain rfl : ad455 = ad458 := (by injection e458)
                   replace p458 := eq_true p458
                   replace q458 := eq_true q458
                   go_wp2
                   go_meet
                   case rel => exact ⟨_, (true), pv, H', ⟨by have := HK1.out; have := HJ9.out; have := HK3.out; first | omega | exact Nat.le_refl _⟩, ⟨rt HO_4⟩, ⟨bt⟩, ⟨bel⟩⟩
                 ·rw [if_neg c27] at H
                  have c27b0 : (((rd_T56 ((rd_T30 l0_0 x3_1).f5) x7_3).f0) == 21) = false := beq_eq_false_iff_ne.mpr c27
                  have c27b1 : (((rd_T56 ((rd_T30 l0_0 x3_1).f5) x7_3).f0) != 21) = true := bne_iff_ne.mpr c27
                  by_cases c37 : (rd t449 x7_3) = 0
                  ·rw [if_pos c37] at H
                   have c37b0 : ((rd t449 x7_3) == 0) = true := beq_iff_eq.mpr c37
                   have c37b1 : ((rd t449 x7_3) != 0) = false := bne_eq_false_iff_eq.mpr c37
                   clear c37
                   by_cases c38 : ((rd_T56 ((rd_T30 l0_0 x3_1).f5) x7_3).f0) = 10
                   ·rw [if_pos c38] at H
                    have c38b0 : (((rd_T56 ((rd_T30 l0_0 x3_1).f5) x7_3).f0) == 10) = true := beq_iff_eq.mpr c38
                    have c38b1 : (((rd_T56 ((rd_T30 l0_0 x3_1).f5) x7_3).f0) != 10) = false := bne_eq_false_iff_eq.mpr c38
                    clear c38
                    have H' := Aside0.mk H
                    clear H
                    obtain ⟨Ao39, co39, eo39⟩ := Kd.R_slice HO_4.out
                    subst eo39
                    have p455 : 0 ≤ (x7_3 : Int) := of_decide_eq_true ass
                    have q455 : x7_3 < (t449.length : Int) := of_decide_eq_true ass
                    obtain ⟨ad455, e455, hx455_0⟩ := Kd.at_int (Kd.R_reads' HO_4.out).2.2 x7_3 p455 q455
                    cases e455
                    replace p455 := eq_true p455
                    replace q455 := eq_true q455
                    have p456 : 0 ≤ (x7_3 : Int) := of_decide_eq_true ass
                    have q456 : x7_3 < (t449.length : Int) := of_decide_eq_true ass
                    obtain ⟨ad456, e456, hx456_0⟩ := Kd.at_int (Kd.R_reads' HO_4.out).2.2 x7_3 p456 q456
                    obtain rfl : ad455 = ad456 := (by injection e456)
                    replace p456 := eq_true p456
                    replace q456 := eq_true q456
                    have p457 : 0 ≤ (x7_3 : Int) := of_decide_eq_true ass
                    have q457 : x7_3 < (((rd_T30 l0_0 x3_1).f5).length : Int) := of_decide_eq_true ass
                    obtain ⟨ad457, A457_4, c457_4, e457, hx457_0, hx457_1, hx457_2, hx457_3, hx457_4, hl457_4, hi457_4⟩ := at_T56 HR453_5.out x7_3 p457 q457
                    cases e457
                    replace hx457_0 := cq HB hx457_0
                    replace hx457_1 := cq HB hx457_1
                    replace hx457_2 := cq HB hx457_2
                    replace hx457_3 := cq HB hx457_3
                    replace hx457_4 := cq HB hx457_4
                    have HR457_4 := Aside0.mk hi457_4
                    have HC457_4 := Aside0.mk hl457_4
                    clear hi457_4 hl457_4
                    replace p457 := eq_true p457
                    replace q457 := eq_true q457
                    have p463 : 0 ≤ (x7_3 : Int) := of_decide_eq_true ass
                    have q463 : x7_3 < (t449.length : Int) := of_decide_eq_true ass
                    obtain ⟨ad463, e463, hx463_0⟩ := Kd.at_int (Kd.R_reads' HO_4.out).2.2 x7_3 p463 q463
                    obtain rfl : ad455 = ad463 := (by injection e463)
                    replace p463 := eq_true p463
                    replace q463 := eq_true q463
                    have p464 : 0 ≤ (x7_3 : Int) := of_decide_eq_true ass
                    have q464 : x7_3 < (((rd_T30 l0_0 x3_1).f5).length : Int) := of_decide_eq_true ass
                    obtain ⟨ad464, A464_4, c464_4, e464, hx464_0, hx464_1, hx464_2, hx464_3, hx464_4, hl464_4, hi464_4⟩ := at_T56 HR453_5.out x7_3 p464 q464
                    obtain rfl : ad457 = ad464 := (by injection e464)
                    replace hx464_0 := cq HB hx464_0
                    replace hx464_1 := cq HB hx464_1
                    replace hx464_2 := cq HB hx464_2
                    replace hx464_3 := cq HB hx464_3
                    replace hx464_4 := cq HB hx464_4
                    have HR464_4 := Aside0.mk hi464_4
                    have HC464_4 := Aside0.mk hl464_4
                    clear hi464_4 hl464_4
                    replace p464 := eq_true p464
                    replace q464 := eq_true q464
                    have ea_ := Option.some.inj (hx457_4.symm.trans hx464_4)
                    injection ea_ with ea_ en_ ec_
                    subst ea_
                    subst ec_
                    clear en_
                    go_wp2
                    go_meet
                    case rel => exact ⟨_, (false), pv, H', ⟨by have := HK1.out; have := HJ9.out; have := HK3.out; first | omega | exact Nat.le_refl _⟩, ⟨rt HO_4⟩, ⟨bt⟩, ⟨bel⟩⟩
                   ·rw [if_neg c38] at H
                    have c38b0 : (((rd_T56 ((rd_T30 l0_0 x3_1).f5) x7_3).f0) == 10) = false := beq_eq_false_iff_ne.mpr c38
                    have c38b1 : (((rd_T56 ((rd_T30 l0_0 x3_1).f5) x7_3).f0) != 10) = true := bne_iff_ne.mpr c38
                    by_cases c40 : ((rd_T56 ((rd_T30 l0_0 x3_1).f5) x7_3).f0) = 17
                    ·rw [if_pos c40] at H
                     have c40b0 : (((rd_T56 ((rd_T30 l0_0 x3_1).f5) x7_3).f0) == 17) = true := beq_iff_eq.mpr c40
                     have c40b1 : (((rd_T56 ((rd_T30 l0_0 x3_1).f5) x7_3).f0) != 17) = false := bne_eq_false_iff_eq.mpr c40
                     clear c40
                     have H' := Aside0.mk H
                     clear H
                     obtain ⟨Ao41, co41, eo41⟩ := Kd.R_slice HO_4.out
                     subst eo41
                     have p455 : 0 ≤ (x7_3 : Int) := of_decide_eq_true ass
                     have q455 : x7_3 < (t449.length : Int) := of_decide_eq_true ass
                     obtain ⟨ad455, e455, hx455_0⟩ := Kd.at_int (Kd.R_reads' HO_4.out).2.2 x7_3 p455 q455
                     cases e455
                     replace p455 := eq_true p455
                     replace q455 := eq_true q455
                     have p456 : 0 ≤ (x7_3 : Int) := of_decide_eq_true ass
                     have q456 : x7_3 < (t449.length : Int) := of_decide_eq_true ass
                     obtain ⟨ad456, e456, hx456_0⟩ := Kd.at_int (Kd.R_reads' HO_4.out).2.2 x7_3 p456 q456
                     obtain rfl : ad455 = ad456 := (by injection e456)
                     replace p456 := eq_true p456
                     replace q456 := eq_true q456
                     have p457 : 0 ≤ (x7_3 : Int) := of_decide_eq_true ass
                     have q457 : x7_3 < (((rd_T30 l0_0 x3_1).f5).length : Int) := of_decide_eq_true ass
                     obtain ⟨ad457, A457_4, c457_4, e457, hx457_0, hx457_1, hx457_2, hx457_3, hx457_4, hl457_4, hi457_4⟩ := at_T56 HR453_5.out x7_3 p457 q457
                     cases e457
                     replace hx457_0 := cq HB hx457_0
                     replace hx457_1 := cq HB hx457_1
                     replace hx457_2 := cq HB hx457_2
                     replace hx457_3 := cq HB hx457_3
                     replace hx457_4 := cq HB hx457_4
                     have HR457_4 := Aside0.mk hi457_4
                     have HC457_4 := Aside0.mk hl457_4
                     clear hi457_4 hl457_4
                     replace p457 := eq_true p457
                     replace q457 := eq_true q457
                     have p463 : 0 ≤ (x7_3 : Int) := of_decide_eq_true ass
                     have q463 : x7_3 < (t449.length : Int) := of_decide_eq_true ass
                     obtain ⟨ad463, e463, hx463_0⟩ := Kd.at_int (Kd.R_reads' HO_4.out).2.2 x7_3 p463 q463
                     obtain rfl : ad455 = ad463 := (by injection e463)
                     replace p463 := eq_true p463
                     replace q463 := eq_true q463
                     have p464 : 0 ≤ (x7_3 : Int) := of_decide_eq_true ass
                     have q464 : x7_3 < (((rd_T30 l0_0 x3_1).f5).length : Int) := of_decide_eq_true ass
                     obtain ⟨ad464, A464_4, c464_4, e464, hx464_0, hx464_1, hx464_2, hx464_3, hx464_4, hl464_4, hi464_4⟩ := at_T56 HR453_5.out x7_3 p464 q464
                     obtain rfl : ad457 = ad464 := (by injection e464)
                     replace hx464_0 := cq HB hx464_0
                     replace hx464_1 := cq HB hx464_1
                     replace hx464_2 := cq HB hx464_2
                     replace hx464_3 := cq HB hx464_3
                     replace hx464_4 := cq HB hx464_4
                     have HR464_4 := Aside0.mk hi464_4
                     have HC464_4 := Aside0.mk hl464_4
                     clear hi464_4 hl464_4
                     replace p464 := eq_true p464
                     replace q464 := eq_true q464
                     have ea_ := Option.some.inj (hx457_4.symm.trans hx464_4)
                     injection ea_ with ea_ en_ ec_
                     subst ea_
                     subst ec_
                     clear en_
                     have p465 : 0 ≤ (x7_3 : Int) := of_decide_eq_true ass
                     have q465 : x7_3 < (((rd_T30 l0_0 x3_1).f5).length : Int) := of_decide_eq_true ass
                     obtain ⟨ad465, A465_4, c465_4, e465, hx465_0, hx465_1, hx465_2, hx465_3, hx465_4, hl465_4, hi465_4⟩ := at_T56 HR453_5.out x7_3 p465 q465
                     obtain rfl : ad457 = ad465 := (by injection e465)
                     replace hx465_0 := cq HB hx465_0
                     replace hx465_1 := cq HB hx465_1
                     replace hx465_2 := cq HB hx465_2
                     replace hx465_3 := cq HB hx465_3
                     replace hx465_4 := cq HB hx465_4
                     have HR465_4 := Aside0.mk hi465_4
                     have HC465_4 := Aside0.mk hl465_4
                     clear hi465_4 hl465_4
                     replace p465 := eq_true p465
                     replace q465 := eq_true q465
                     have ea_ := Option.some.inj (hx457_4.symm.trans hx465_4)
                     injection ea_ with ea_ en_ ec_
                     subst ea_
                     subst ec_
                     clear en_
                     go_wp2
                     go_meet
                     case rel => exact ⟨_, (false), pv, H', ⟨by have := HK1.out; have := HJ9.out; have := HK3.out; first | omega | exact Nat.le_refl _⟩, ⟨rt HO_4⟩, ⟨bt⟩, ⟨bel⟩⟩
                    ·rw [if_neg c40] at H
                     have c40b0 : (((rd_T56 ((rd_T30 l0_0 x3_1).f5) x7_3).f0) == 17) = false := beq_eq_false_iff_ne.mpr c40
                     have c40b1 : (((rd_T56 ((rd_T30 l0_0 x3_1).f5) x7_3).f0) != 17) = true := bne_iff_ne.mpr c40
                     have H' := Aside0.mk H
                     clear H
                     obtain ⟨Ao42, co42, eo42⟩ := Kd.R_slice HO_4.out
                     subst eo42
                     have p455 : 0 ≤ (x7_3 : Int) := of_decide_eq_true ass
                     have q455 : x7_3 < (t449.length : Int) := of_decide_eq_true ass
                     obtain ⟨ad455, e455, hx455_0⟩ := Kd.at_int (Kd.R_reads' HO_4.out).2.2 x7_3 p455 q455
                     cases e455
                     replace p455 := eq_true p455
                     replace q455 := eq_true q455
                     have p456 : 0 ≤ (x7_3 : Int) := of_decide_eq_true ass
                     have q456 : x7_3 < (t449.length : Int) := of_decide_eq_true ass
                     obtain ⟨ad456, e456, hx456_0⟩ := Kd.at_int (Kd.R_reads' HO_4.out).2.2 x7_3 p456 q456
                     obtain rfl : ad455 = ad456 := (by injection e456)
                     replace p456 := eq_true p456
                     replace q456 := eq_true q456
                     have p457 : 0 ≤ (x7_3 : Int) := of_decide_eq_true ass
                     have q457 : x7_3 < (((rd_T30 l0_0 x3_1).f5).length : Int) := of_decide_eq_true ass
                     obtain ⟨ad457, A457_4, c457_4, e457, hx457_0, hx457_1, hx457_2, hx457_3, hx457_4, hl457_4, hi457_4⟩ := at_T56 HR453_5.out x7_3 p457 q457
                     cases e457
                     replace hx457_0 := cq HB hx457_0
                     replace hx457_1 := cq HB hx457_1
                     replace hx457_2 := cq HB hx457_2
                     replace hx457_3 := cq HB hx457_3
                     replace hx457_4 := cq HB hx457_4
                     have HR457_4 := Aside0.mk hi457_4
                     have HC457_4 := Aside0.mk hl457_4
                     clear hi457_4 hl457_4
                     replace p457 := eq_true p457
                     replace q457 := eq_true q457
                     have p463 : 0 ≤ (x7_3 : Int) := of_decide_eq_true ass
                     have q463 : x7_3 < (t449.length : Int) := of_decide_eq_true ass
                     obtain ⟨ad463, e463, hx463_0⟩ := Kd.at_int (Kd.R_reads' HO_4.out).2.2 x7_3 p463 q463
                     obtain rfl : ad455 = ad463 := (by injection e463)
                     replace p463 := eq_true p463
                     replace q463 := eq_true q463
                     have p464 : 0 ≤ (x7_3 : Int) := of_decide_eq_true ass
                     have q464 : x7_3 < (((rd_T30 l0_0 x3_1).f5).length : Int) := of_decide_eq_true ass
                     obtain ⟨ad464, A464_4, c464_4, e464, hx464_0, hx464_1, hx464_2, hx464_3, hx464_4, hl464_4, hi464_4⟩ := at_T56 HR453_5.out x7_3 p464 q464
                     obtain rfl : ad457 = ad464 := (by injection e464)
                     replace hx464_0 := cq HB hx464_0
                     replace hx464_1 := cq HB hx464_1
                     replace hx464_2 := cq HB hx464_2
                     replace hx464_3 := cq HB hx464_3
                     replace hx464_4 := cq HB hx464_4
                     have HR464_4 := Aside0.mk hi464_4
                     have HC464_4 := Aside0.mk hl464_4
                     clear hi464_4 hl464_4
                     replace p464 := eq_true p464
                     replace q464 := eq_true q464
                     have ea_ := Option.some.inj (hx457_4.symm.trans hx464_4)
                     injection ea_ with ea_ en_ ec_
                     subst ea_
                     subst ec_
                     clear en_
                     have p465 : 0 ≤ (x7_3 : Int) := of_decide_eq_true ass
                     have q465 : x7_3 < (((rd_T30 l0_0 x3_1).f5).length : Int) := of_decide_eq_true ass
                     obtain ⟨ad465, A465_4, c465_4, e465, hx465_0, hx465_1, hx465_2, hx465_3, hx465_4, hl465_4, hi465_4⟩ := at_T56 HR453_5.out x7_3 p465 q465
                     obtain rfl : ad457 = ad465 := (by injection e465)
                     replace hx465_0 := cq HB hx465_0
                     replace hx465_1 := cq HB hx465_1
                     replace hx465_2 := cq HB hx465_2
                     replace hx465_3 := cq HB hx465_3
                     replace hx465_4 := cq HB hx465_4
                     have HR465_4 := Aside0.mk hi465_4
                     have HC465_4 := Aside0.mk hl465_4
                     clear hi465_4 hl465_4
                     replace p465 := eq_true p465
                     replace q465 := eq_true q465
                     have ea_ := Option.some.inj (hx457_4.symm.trans hx465_4)
                     injection ea_ with ea_ en_ ec_
                     subst ea_
                     subst ec_
                     clear en_
                     have p466 : 0 ≤ (x7_3 : Int) := of_decide_eq_true ass
                     have q466 : x7_3 < (((rd_T30 l0_0 x3_1).f5).length : Int) := of_decide_eq_true ass
                     obtain ⟨ad466, A466_4, c466_4, e466, hx466_0, hx466_1, hx466_2, hx466_3, hx466_4, hl466_4, hi466_4⟩ := at_T56 HR453_5.out x7_3 p466 q466
                     obtain rfl : ad457 = ad466 := (by injection e466)
                     replace hx466_0 := cq HB hx466_0
                     replace hx466_1 := cq HB hx466_1
                     replace hx466_2 := cq HB hx466_2
                     replace hx466_3 := cq HB hx466_3
                     replace hx466_4 := cq HB hx466_4
                     have HR466_4 := Aside0.mk hi466_4
                     have HC466_4 := Aside0.mk hl466_4
                     clear hi466_4 hl466_4
                     replace p466 := eq_true p466
                     replace q466 := eq_true q466
                     have ea_ := Option.some.inj (hx457_4.symm.trans hx466_4)
                     injection ea_ with ea_ en_ ec_
                     subst ea_
                     subst ec_
                     clear en_
                     go_wp2
                     go_meet
                     case rel => exact ⟨_, ((((rd_T56 ((rd_T30 l0_0 x3_1).f5) x7_3).f0) != 16)), pv, H', ⟨by have := HK1.out; have := HJ9.out; have := HK3.out; first | omega | exact Nat.le_refl _⟩, ⟨rt HO_4⟩, ⟨bt⟩, ⟨bel⟩⟩
                  ·rw [if_neg c37] at H
                   have c37b0 : ((rd t449 x7_3) == 0) = false := beq_eq_false_iff_ne.mpr c37
                   have c37b1 : ((rd t449 x7_3) != 0) = true := bne_iff_ne.mpr c37
                   have H' := Aside0.mk H
                   clear H
                   obtain ⟨Ao43, co43, eo43⟩ := Kd.R_slice HO_4.out
                   subst eo43
                   have p455 : 0 ≤ (x7_3 : Int) := of_decide_eq_true ass
                   have q455 : x7_3 < (t449.length : Int) := of_decide_eq_true ass
                   obtain ⟨ad455, e455, hx455_0⟩ := Kd.at_int (Kd.R_reads' HO_4.out).2.2 x7_3 p455 q455
                   cases e455
                   replace p455 := eq_true p455
                   replace q455 := eq_true q455
                   have p456 : 0 ≤ (x7_3 : Int) := of_decide_eq_true ass
                   have q456 : x7_3 < (t449.length : Int) := of_decide_eq_true ass
                   obtain ⟨ad456, e456, hx456_0⟩ := Kd.at_int (Kd.R_reads' HO_4.out).2.2 x7_3 p456 q456
                   obtain rfl : ad455 = ad456 := (by injection e456)
                   replace p456 := eq_true p456
                   replace q456 := eq_true q456
                   have p457 : 0 ≤ (x7_3 : Int) := of_decide_eq_true ass
                   have q457 : x7_3 < (((rd_T30 l0_0 x3_1).f5).length : Int) := of_decide_eq_true ass
                   obtain ⟨ad457, A457_4, c457_4, e457, hx457_0, hx457_1, hx457_2, hx457_3, hx457_4, hl457_4, hi457_4⟩ := at_T56 HR453_5.out x7_3 p457 q457
                   cases e457
                   replace hx457_0 := cq HB hx457_0
                   replace hx457_1 := cq HB hx457_1
                   replace hx457_2 := cq HB hx457_2
                   replace hx457_3 := cq HB hx457_3
                   replace hx457_4 := cq HB hx457_4
                   have HR457_4 := Aside0.mk hi457_4
                   have HC457_4 := Aside0.mk hl457_4
                   clear hi457_4 hl457_4
                   replace p457 := eq_true p457
                   replace q457 := eq_true q457
                   have p463 : 0 ≤ (x7_3 : Int) := of_decide_eq_true ass
                   have q463 : x7_3 < (t449.length : Int) := of_decide_eq_true ass
                   obtain ⟨ad463, e463, hx463_0⟩ := Kd.at_int (Kd.R_reads' HO_4.out).2.2 x7_3 p463 q463
                   obtain rfl : ad455 = ad463 := (by injection e463)
                   replace p463 := eq_true p463
                   replace q463 := eq_true q463
                   go_wp2
                   go_meet
                   case rel => exact ⟨_, (false), pv, H', ⟨by have := HK1.out; have := HJ9.out; have := HK3.out; first | omega | exact Nat.le_refl _⟩, ⟨rt HO_4⟩, ⟨bt⟩, ⟨bel⟩⟩
                ·rw [if_neg c26] at H
                 have c26b0 : decide (0 ≤ (rd t449 x7_3)) = false := decide_eq_false c26
                 clear c26
                 by_cases c44 : (rd t449 x7_3) = 0
                 ·rw [if_pos c44] at H
                  have c44b0 : ((rd t449 x7_3) == 0) = true := beq_iff_eq.mpr c44
                  have c44b1 : ((rd t449 x7_3) != 0) = false := bne_eq_false_iff_eq.mpr c44
                  clear c44
                  by_cases c45 : ((rd_T56 ((rd_T30 l0_0 x3_1).f5) x7_3).f0) = 10
                  ·rw [if_pos c45] at H
                   have c45b0 : (((rd_T56 ((rd_T30 l0_0 x3_1).f5) x7_3).f0) == 10) = true := beq_iff_eq.mpr c45
                   have c45b1 : (((rd_T56 ((rd_T30 l0_0 x3_1).f5) x7_3).f0) != 10) = false := bne_eq_false_iff_eq.mpr c45
                   clear c45
                   have H' := Aside0.mk H
                   clear H
                   obtain ⟨Ao46, co46, eo46⟩ := Kd.R_slice HO_4.out
                   subst eo46
                   have p455 : 0 ≤ (x7_3 : Int) := of_decide_eq_true ass
                   have q455 : x7_3 < (t449.length : Int) := of_decide_eq_true ass
                   obtain ⟨ad455, e455, hx455_0⟩ := Kd.at_int (Kd.R_reads' HO_4.out).2.2 x7_3 p455 q455
                   cases e455
                   replace p455 := eq_true p455
                   replace q455 := eq_true q455
                   have p456 : 0 ≤ (x7_3 : Int) := of_decide_eq_true ass
                   have q456 : x7_3 < (t449.length : Int) := of_decide_eq_true ass
                   obtain ⟨ad456, e456, hx456_0⟩ := Kd.at_int (Kd.R_reads' HO_4.out).2.2 x7_3 p456 q456
                   obtain rfl : ad455 = ad456 := (by injection e456)
                   replace p456 := eq_true p456
                   replace q456 := eq_true q456
                   have p467 : 0 ≤ (x7_3 : Int) := of_decide_eq_true ass
                   have q467 : x7_3 < (t449.length : Int) := of_decide_eq_true ass
                   obtain ⟨ad467, e467, hx467_0⟩ := Kd.at_int (Kd.R_reads' HO_4.out).2.2 x7_3 p467 q467
                   obtain rfl : ad455 = ad467 := (by injection e467)
                   replace p467 := eq_true p467
                   replace q467 := eq_true q467
                   have p468 : 0 ≤ (x7_3 : Int) := of_decide_eq_true ass
                   have q468 : x7_3 < (((rd_T30 l0_0 x3_1).f5).length : Int) := of_decide_eq_true ass
                   obtain ⟨ad468, A468_4, c468_4, e468, hx468_0, hx468_1, hx468_2, hx468_3, hx468_4, hl468_4, hi468_4⟩ := at_T56 HR453_5.out x7_3 p468 q468
                   cases e468
                   replace hx468_0 := cq HB hx468_0
                   replace hx468_1 := cq HB hx468_1
                   replace hx468_2 := cq HB hx468_2
                   replace hx468_3 := cq HB hx468_3
                   replace hx468_4 := cq HB hx468_4
                   have HR468_4 := Aside0.mk hi468_4
                   have HC468_4 := Aside0.mk hl468_4
                   clear hi468_4 hl468_4
                   replace p468 := eq_true p468
                   replace q468 := eq_true q468
                   go_wp2
                   go_meet
                   case rel => exact ⟨_, (false), pv, H', ⟨by have := HK1.out; have := HJ9.out; have := HK3.out; first | omega | exact Nat.le_refl _⟩, ⟨rt HO_4⟩, ⟨bt⟩, ⟨bel⟩⟩
                  ·rw [if_neg c45] at H
                   have c45b0 : (((rd_T56 ((rd_T30 l0_0 x3_1).f5) x7_3).f0) == 10) = false := beq_eq_false_iff_ne.mpr c45
                   have c45b1 : (((rd_T56 ((rd_T30 l0_0 x3_1).f5) x7_3).f0) != 10) = true := bne_iff_ne.mpr c45
                   by_cases c47 : ((rd_T56 ((rd_T30 l0_0 x3_1).f5) x7_3).f0) = 17
                   ·rw [if_pos c47] at H
                    have c47b0 : (((rd_T56 ((rd_T30 l0_0 x3_1).f5) x7_3).f0) == 17) = true := beq_iff_eq.mpr c47
                    have c47b1 : (((rd_T56 ((rd_T30 l0_0 x3_1).f5) x7_3).f0) != 17) = false := bne_eq_false_iff_eq.mpr c47
                    clear c47
                    have H' := Aside0.mk H
                    clear H
                    obtain ⟨Ao48, co48, eo48⟩ := Kd.R_slice HO_4.out
                    subst eo48
                    have p455 : 0 ≤ (x7_3 : Int) := of_decide_eq_true ass
                    have q455 : x7_3 < (t449.length : Int) := of_decide_eq_true ass
                    obtain ⟨ad455, e455, hx455_0⟩ := Kd.at_int (Kd.R_reads' HO_4.out).2.2 x7_3 p455 q455
                    cases e455
                    replace p455 := eq_true p455
                    replace q455 := eq_true q455
                    have p456 : 0 ≤ (x7_3 : Int) := of_decide_eq_true ass
                    have q456 : x7_3 < (t449.length : Int) := of_decide_eq_true ass
                    obtain ⟨ad456, e456, hx456_0⟩ := Kd.at_int (Kd.R_reads' HO_4.out).2.2 x7_3 p456 q456
                    obtain rfl : ad455 = ad456 := (by injection e456)
                    replace p456 := eq_true p456
                    replace q456 := eq_true q456
                    have p467 : 0 ≤ (x7_3 : Int) := of_decide_eq_true ass
                    have q467 : x7_3 < (t449.length : Int) := of_decide_eq_true ass
                    obtain ⟨ad467, e467, hx467_0⟩ := Kd.at_int (Kd.R_reads' HO_4.out).2.2 x7_3 p467 q467
                    obtain rfl : ad455 = ad467 := (by injection e467)
                    replace p467 := eq_true p467
                    replace q467 := eq_true q467
                    have p468 : 0 ≤ (x7_3 : Int) := of_decide_eq_true ass
                    have q468 : x7_3 < (((rd_T30 l0_0 x3_1).f5).length : Int) := of_decide_eq_true ass
                    obtain ⟨ad468, A468_4, c468_4, e468, hx468_0, hx468_1, hx468_2, hx468_3, hx468_4, hl468_4, hi468_4⟩ := at_T56 HR453_5.out x7_3 p468 q468
                    cases e468
                    replace hx468_0 := cq HB hx468_0
                    replace hx468_1 := cq HB hx468_1
                    replace hx468_2 := cq HB hx468_2
                    replace hx468_3 := cq HB hx468_3
                    replace hx468_4 := cq HB hx468_4
                    have HR468_4 := Aside0.mk hi468_4
                    have HC468_4 := Aside0.mk hl468_4
                    clear hi468_4 hl468_4
                    replace p468 := eq_true p468
                    replace q468 := eq_true q468
                    have p469 : 0 ≤ (x7_3 : Int) := of_decide_eq_true ass
                    have q469 : x7_3 < (((rd_T30 l0_0 x3_1).f5).length : Int) := of_decide_eq_true ass
                    obtain ⟨ad469, A469_4, c469_4, e469, hx469_0, hx469_1, hx469_2, hx469_3, hx469_4, hl469_4, hi469_4⟩ := at_T56 HR453_5.out x7_3 p469 q469
                    obtain rfl : ad468 = ad469 := (by injection e469)
                    replace hx469_0 := cq HB hx469_0
                    replace hx469_1 := cq HB hx469_1
                    replace hx469_2 := cq HB hx469_2
                    replace hx469_3 := cq HB hx469_3
                    replace hx469_4 := cq HB hx469_4
                    have HR469_4 := Aside0.mk hi469_4
                    have HC469_4 := Aside0.mk hl469_4
                    clear hi469_4 hl469_4
                    replace p469 := eq_true p469
                    replace q469 := eq_true q469
                    have ea_ := Option.some.inj (hx468_4.symm.trans hx469_4)
                    injection ea_ with ea_ en_ ec_
                    subst ea_
                    subst ec_
                    clear en_
                    go_wp2
                    go_meet
                    case rel => exact ⟨_, (false), pv, H', ⟨by have := HK1.out; have := HJ9.out; have := HK3.out; first | omega | exact Nat.le_refl _⟩, ⟨rt HO_4⟩, ⟨bt⟩, ⟨bel⟩⟩
                   ·rw [if_neg c47] at H
                    have c47b0 : (((rd_T56 ((rd_T30 l0_0 x3_1).f5) x7_3).f0) == 17) = false := beq_eq_false_iff_ne.mpr c47
                    have c47b1 : (((rd_T56 ((rd_T30 l0_0 x3_1).f5) x7_3).f0) != 17) = true := bne_iff_ne.mpr c47
                    have H' := Aside0.mk H
                    clear H
                    obtain ⟨Ao49, co49, eo49⟩ := Kd.R_slice HO_4.out
                    subst eo49
                    have p455 : 0 ≤ (x7_3 : Int) := of_decide_eq_true ass
                    have q455 : x7_3 < (t449.length : Int) := of_decide_eq_true ass
                    obtain ⟨ad455, e455, hx455_0⟩ := Kd.at_int (Kd.R_reads' HO_4.out).2.2 x7_3 p455 q455
                    cases e455
                    replace p455 := eq_true p455
                    replace q455 := eq_true q455
                    have p456 : 0 ≤ (x7_3 : Int) := of_decide_eq_true ass
                    have q456 : x7_3 < (t449.length : Int) := of_decide_eq_true ass
                    obtain ⟨ad456, e456, hx456_0⟩ := Kd.at_int (Kd.R_reads' HO_4.out).2.2 x7_3 p456 q456
                    obtain rfl : ad455 = ad456 := (by injection e456)
                    replace p456 := eq_true p456
                    replace q456 := eq_true q456
                    have p467 : 0 ≤ (x7_3 : Int) := of_decide_eq_true ass
                    have q467 : x7_3 < (t449.length : Int) := of_decide_eq_true ass
                    obtain ⟨ad467, e467, hx467_0⟩ := Kd.at_int (Kd.R_reads' HO_4.out).2.2 x7_3 p467 q467
                    obtain rfl : ad455 = ad467 := (by injection e467)
                    replace p467 := eq_true p467
                    replace q467 := eq_true q467
                    have p468 : 0 ≤ (x7_3 : Int) := of_decide_eq_true ass
                    have q468 : x7_3 < (((rd_T30 l0_0 x3_1).f5).length : Int) := of_decide_eq_true ass
                    obtain ⟨ad468, A468_4, c468_4, e468, hx468_0, hx468_1, hx468_2, hx468_3, hx468_4, hl468_4, hi468_4⟩ := at_T56 HR453_5.out x7_3 p468 q468
                    cases e468
                    replace hx468_0 := cq HB hx468_0
                    replace hx468_1 := cq HB hx468_1
                    replace hx468_2 := cq HB hx468_2
                    replace hx468_3 := cq HB hx468_3
                    replace hx468_4 := cq HB hx468_4
                    have HR468_4 := Aside0.mk hi468_4
                    have HC468_4 := Aside0.mk hl468_4
                    clear hi468_4 hl468_4
                    replace p468 := eq_true p468
                    replace q468 := eq_true q468
                    have p469 : 0 ≤ (x7_3 : Int) := of_decide_eq_true ass
                    have q469 : x7_3 < (((rd_T30 l0_0 x3_1).f5).length : Int) := of_decide_eq_true ass
                    obtain ⟨ad469, A469_4, c469_4, e469, hx469_0, hx469_1, hx469_2, hx469_3, hx469_4, hl469_4, hi469_4⟩ := at_T56 HR453_5.out x7_3 p469 q469
                    obtain rfl : ad468 = ad469 := (by injection e469)
                    replace hx469_0 := cq HB hx469_0
                    replace hx469_1 := cq HB hx469_1
                    replace hx469_2 := cq HB hx469_2
                    replace hx469_3 := cq HB hx469_3
                    replace hx469_4 := cq HB hx469_4
                    have HR469_4 := Aside0.mk hi469_4
                    have HC469_4 := Aside0.mk hl469_4
                    clear hi469_4 hl469_4
                    replace p469 := eq_true p469
                    replace q469 := eq_true q469
                    have ea_ := Option.some.inj (hx468_4.symm.trans hx469_4)
                    injection ea_ with ea_ en_ ec_
                    subst ea_
                    subst ec_
                    clear en_
                    have p470 : 0 ≤ (x7_3 : Int) := of_decide_eq_true ass
                    have q470 : x7_3 < (((rd_T30 l0_0 x3_1).f5).length : Int) := of_decide_eq_true ass
                    obtain ⟨ad470, A470_4, c470_4, e470, hx470_0, hx470_1, hx470_2, hx470_3, hx470_4, hl470_4, hi470_4⟩ := at_T56 HR453_5.out x7_3 p470 q470
                    obtain rfl : ad468 = ad470 := (by injection e470)
                    replace hx470_0 := cq HB hx470_0
                    replace hx470_1 := cq HB hx470_1
                    replace hx470_2 := cq HB hx470_2
                    replace hx470_3 := cq HB hx470_3
                    replace hx470_4 := cq HB hx470_4
                    have HR470_4 := Aside0.mk hi470_4
                    have HC470_4 := Aside0.mk hl470_4
                    clear hi470_4 hl470_4
                    replace p470 := eq_true p470
                    replace q470 := eq_true q470
                    have ea_ := Option.some.inj (hx468_4.symm.trans hx470_4)
                    injection ea_ with ea_ en_ ec_
                    subst ea_
                    subst ec_
                    clear en_
                    go_wp2
                    go_meet
                    case rel => exact ⟨_, ((((rd_T56 ((rd_T30 l0_0 x3_1).f5) x7_3).f0) != 16)), pv, H', ⟨by have := HK1.out; have := HJ9.out; have := HK3.out; first | omega | exact Nat.le_refl _⟩, ⟨rt HO_4⟩, ⟨bt⟩, ⟨bel⟩⟩
                 ·rw [if_neg c44] at H
                  have c44b0 : ((rd t449 x7_3) == 0) = false := beq_eq_false_iff_ne.mpr c44
                  have c44b1 : ((rd t449 x7_3) != 0) = true := bne_iff_ne.mpr c44
                  have H' := Aside0.mk H
                  clear H
                  obtain ⟨Ao50, co50, eo50⟩ := Kd.R_slice HO_4.out
                  subst eo50
                  have p455 : 0 ≤ (x7_3 : Int) := of_decide_eq_true ass
                  have q455 : x7_3 < (t449.length : Int) := of_decide_eq_true ass
                  obtain ⟨ad455, e455, hx455_0⟩ := Kd.at_int (Kd.R_reads' HO_4.out).2.2 x7_3 p455 q455
                  cases e455
                  replace p455 := eq_true p455
                  replace q455 := eq_true q455
                  have p456 : 0 ≤ (x7_3 : Int) := of_decide_eq_true ass
                  have q456 : x7_3 < (t449.length : Int) := of_decide_eq_true ass
                  obtain ⟨ad456, e456, hx456_0⟩ := Kd.at_int (Kd.R_reads' HO_4.out).2.2 x7_3 p456 q456
                  obtain rfl : ad455 = ad456 := (by injection e456)
                  replace p456 := eq_true p456
                  replace q456 := eq_true q456
                  have p467 : 0 ≤ (x7_3 : Int) := of_decide_eq_true ass
                  have q467 : x7_3 < (t449.length : Int) := of_decide_eq_true ass
                  obtain ⟨ad467, e467, hx467_0⟩ := Kd.at_int (Kd.R_reads' HO_4.out).2.2 x7_3 p467 q467
                  obtain rfl : ad455 = ad467 := (by injection e467)
                  replace p467 := eq_true p467
                  replace q467 := eq_true q467
                  go_wp2
                  go_meet
                  case rel => exact ⟨_, (false), pv, H', ⟨by have := HK1.out; have := HJ9.out; have := HK3.out; first | omega | exact Nat.le_refl _⟩, ⟨rt HO_4⟩, ⟨bt⟩, ⟨bel⟩⟩
              ·rw [if_neg c23] at H
               exact absurd H (by simp)
             ·rw [if_neg c22] at H
              exact absurd H (by simp)
            case rest =>
             clear HC21
             obtain ⟨kq, x109_20, rfl, HA, HJ20, HO_4, BK445, HB⟩ := hcut
             cases kq with
             | zero => exact absurd HA.out (by simp [colanderlaw19_CodeHigh.j3])
             | succ kj20 =>
              have H := HA.out
              clear HA
              simp only [colanderlaw19_CodeHigh.j3] at H
              by_cases c51 : x109_20 = true
              ·subst c51
               have H1 : (some false) = some r := by rw [if_pos rfl] at H; exact H
               clear H
               have H := H1
               clear H1
               obtain rfl := Option.some.inj H
               go_wp2
               go_ret
               exact fn
              ·replace c51 := Bool.eq_false_iff.mpr c51
               subst c51
               have H1 : (if 0 ≤ x7_3 then (if x7_3 < (t449.length : Int) then (if (rd t449 x7_3) ≥ 0 then (if (wrap64 (x7_3 + 1)) = (((rd_T30 l0_0 x3_1).f5).length : Int) then (if x7_3 < (((rd_T30 l0_0 x3_1).f5).length : Int) then (if ((rd_T56 ((rd_T30 l0_0 x3_1).f5) x7_3).f0) = 21 then (colanderlaw19_CodeHigh.l1 kj20 x3_1 t449 ((rd_T30 l0_0 x3_1).f5) (wrap64 (x7_3 + 1)) l0_0 l0_1) else (if ((rd_T56 ((rd_T30 l0_0 x3_1).f5) x7_3).f0) = 16 then (colanderlaw19_CodeHigh.l1 kj20 x3_1 t449 ((rd_T30 l0_0 x3_1).f5) (wrap64 (x7_3 + 1)) l0_0 l0_1) else (if ((rd_T56 ((rd_T30 l0_0 x3_1).f5) x7_3).f0) = 17 then (colanderlaw19_CodeHigh.l1 kj20 x3_1 t449 ((rd_T30 l0_0 x3_1).f5) (wrap64 (x7_3 + 1)) l0_0 l0_1) else (some false)))) else (none)) else (colanderlaw19_CodeHigh.l1 kj20 x3_1 t449 ((rd_T30 l0_0 x3_1).f5) (wrap64 (x7_3 + 1)) l0_0 l0_1)) else (colanderlaw19_CodeHigh.l1 kj20 x3_1 t449 ((rd_T30 l0_0 x3_1).f5) (wrap64 (x7_3 + 1)) l0_0 l0_1)) else (none)) else (none)) = some r := by rw [if_neg (show ¬ (false = true) by decide)] at H; exact H
               clear H
               have H := H1
               clear H1
               by_cases c52 : 0 ≤ x7_3
               ·rw [if_pos c52] at H
                have c52b0 : decide (0 ≤ x7_3) = true := decide_eq_true c52
                clear c52
                by_cases c53 : x7_3 < (t449.length : Int)
                ·rw [if_pos c53] at H
                 have c53b0 : decide (x7_3 < (t449.length : Int)) = true := decide_eq_true c53
                 clear c53
                 by_cases c54 : (rd t449 x7_3) ≥ 0
                 ·rw [if_pos c54] at H
                  have c54b0 : decide (0 ≤ (rd t449 x7_3)) = true := decide_eq_true c54
                  clear c54
                  by_cases c55 : (wrap64 (x7_3 + 1)) = (((rd_T30 l0_0 x3_1).f5).length : Int)
                  ·rw [if_pos c55] at H
                   have c55b0 : ((wrap64 (x7_3 + 1)) == (((rd_T30 l0_0 x3_1).f5).length : Int)) = true := beq_iff_eq.mpr c55
                   have c55b1 : ((wrap64 (x7_3 + 1)) != (((rd_T30 l0_0 x3_1).f5).length : Int)) = false := bne_eq_false_iff_eq.mpr c55
                   clear c55
                   by_cases c56 : x7_3 < (((rd_T30 l0_0 x3_1).f5).length : Int)
                   ·rw [if_pos c56] at H
                    have c56b0 : decide (x7_3 < (((rd_T30 l0_0 x3_1).f5).length : Int)) = true := decide_eq_true c56
                    clear c56
                    by_cases c57 : ((rd_T56 ((rd_T30 l0_0 x3_1).f5) x7_3).f0) = 21
                    ·rw [if_pos c57] at H
                     have c57b0 : (((rd_T56 ((rd_T30 l0_0 x3_1).f5) x7_3).f0) == 21) = true := beq_iff_eq.mpr c57
                     have c57b1 : (((rd_T56 ((rd_T30 l0_0 x3_1).f5) x7_3).f0) != 21) = false := bne_eq_false_iff_eq.mpr c57
                     clear c57
                     have H' := Aside0.mk H
                     clear H
                     obtain ⟨Ao58, co58, eo58⟩ := Kd.R_slice HO_4.out
                     subst eo58
                     have p471 : 0 ≤ (x7_3 : Int) := of_decide_eq_true ass
                     have q471 : x7_3 < (t449.length : Int) := of_decide_eq_true ass
                     obtain ⟨ad471, e471, hx471_0⟩ := Kd.at_int (Kd.R_reads' HO_4.out).2.2 x7_3 p471 q471
                     cases e471
                     replace p471 := eq_true p471
                     replace q471 := eq_true q471
                     have p472 : 0 ≤ (x7_3 : Int) := of_decide_eq_true ass
                     have q472 : x7_3 < (((rd_T30 l0_0 x3_1).f5).length : Int) := of_decide_eq_true ass
                     obtain ⟨ad472, A472_4, c472_4, e472, hx472_0, hx472_1, hx472_2, hx472_3, hx472_4, hl472_4, hi472_4⟩ := at_T56 HR453_5.out x7_3 p472 q472
                     cases e472
                     replace hx472_0 := cq HB hx472_0
                     replace hx472_1 := cq HB hx472_1
                     replace hx472_2 := cq HB hx472_2
                     replace hx472_3 := cq HB hx472_3
                     replace hx472_4 := cq HB hx472_4
                     have HR472_4 := Aside0.mk hi472_4
                     have HC472_4 := Aside0.mk hl472_4
                     clear hi472_4 hl472_4
                     replace p472 := eq_true p472
                     replace q472 := eq_true q472
                     go_wp2
                     go_roundg kj20
                     case measure => have := HK1.out; have := HJ9.out; have := HK3.out; have := HJ20.out; omega
                     case rel => exact ⟨(wrap64 (x7_3 + 1)), pv, H', ⟨by have := HK1.out; have := HJ9.out; have := HK3.out; have := HJ20.out; omega⟩, ⟨rt HO_4⟩, ⟨bt⟩, ⟨bel⟩⟩
                    ·rw [if_neg c57] at H
                     have c57b0 : (((rd_T56 ((rd_T30 l0_0 x3_1).f5) x7_3).f0) == 21) = false := beq_eq_false_iff_ne.mpr c57
                     have c57b1 : (((rd_T56 ((rd_T30 l0_0 x3_1).f5) x7_3).f0) != 21) = true := bne_iff_ne.mpr c57
                     by_cases c59 : ((rd_T56 ((rd_T30 l0_0 x3_1).f5) x7_3).f0) = 16
                     ·rw [if_pos c59] at H
                      have c59b0 : (((rd_T56 ((rd_T30 l0_0 x3_1).f5) x7_3).f0) == 16) = true := beq_iff_eq.mpr c59
                      have c59b1 : (((rd_T56 ((rd_T30 l0_0 x3_1).f5) x7_3).f0) != 16) = false := bne_eq_false_iff_eq.mpr c59
                      clear c59
                      have H' := Aside0.mk H
                      clear H
                      obtain ⟨Ao60, co60, eo60⟩ := Kd.R_slice HO_4.out
                      subst eo60
                      have p471 : 0 ≤ (x7_3 : Int) := of_decide_eq_true ass
                      have q471 : x7_3 < (t449.length : Int) := of_decide_eq_true ass
                      obtain ⟨ad471, e471, hx471_0⟩ := Kd.at_int (Kd.R_reads' HO_4.out).2.2 x7_3 p471 q471
                      cases e471
                      replace p471 := eq_true p471
                      replace q471 := eq_true q471
                      have p472 : 0 ≤ (x7_3 : Int) := of_decide_eq_true ass
                      have q472 : x7_3 < (((rd_T30 l0_0 x3_1).f5).length : Int) := of_decide_eq_true ass
                      obtain ⟨ad472, A472_4, c472_4, e472, hx472_0, hx472_1, hx472_2, hx472_3, hx472_4, hl472_4, hi472_4⟩ := at_T56 HR453_5.out x7_3 p472 q472
                      cases e472
                      replace hx472_0 := cq HB hx472_0
                      replace hx472_1 := cq HB hx472_1
                      replace hx472_2 := cq HB hx472_2
                      replace hx472_3 := cq HB hx472_3
                      replace hx472_4 := cq HB hx472_4
                      have HR472_4 := Aside0.mk hi472_4
                      have HC472_4 := Aside0.mk hl472_4
                      clear hi472_4 hl472_4
                      replace p472 := eq_true p472
                      replace q472 := eq_true q472
                      have p473 : 0 ≤ (x7_3 : Int) := of_decide_eq_true ass
                      have q473 : x7_3 < (((rd_T30 l0_0 x3_1).f5).length : Int) := of_decide_eq_true ass
                      obtain ⟨ad473, A473_4, c473_4, e473, hx473_0, hx473_1, hx473_2, hx473_3, hx473_4, hl473_4, hi473_4⟩ := at_T56 HR453_5.out x7_3 p473 q473
                      obtain rfl : ad472 = ad473 := (by injection e473)
                      replace hx473_0 := cq HB hx473_0
                      replace hx473_1 := cq HB hx473_1
                      replace hx473_2 := cq HB hx473_2
                      replace hx473_3 := cq HB hx473_3
                      replace hx473_4 := cq HB hx473_4
                      have HR473_4 := Aside0.mk hi473_4
                      have HC473_4 := Aside0.mk hl473_4
                      clear hi473_4 hl473_4
                      replace p473 := eq_true p473
                      replace q473 := eq_true q473
                      have ea_ := Option.some.inj (hx472_4.symm.trans hx473_4)
                      injection ea_ with ea_ en_ ec_
                      subst ea_
                      subst ec_
                      clear en_
                      go_wp2
                      go_roundg kj20
                      case measure => have := HK1.out; have := HJ9.out; have := HK3.out; have := HJ20.out; omega
                      case rel => exact ⟨(wrap64 (x7_3 + 1)), pv, H', ⟨by have := HK1.out; have := HJ9.out; have := HK3.out; have := HJ20.out; omega⟩, ⟨rt HO_4⟩, ⟨bt⟩, ⟨bel⟩⟩
                     ·rw [if_neg c59] at H
                      have c59b0 : (((rd_T56 ((rd_T30 l0_0 x3_1).f5) x7_3).f0) == 16) = false := beq_eq_false_iff_ne.mpr c59
                      have c59b1 : (((rd_T56 ((rd_T30 l0_0 x3_1).f5) x7_3).f0) != 16) = true := bne_iff_ne.mpr c59
                      by_cases c61 : ((rd_T56 ((rd_T30 l0_0 x3_1).f5) x7_3).f0) = 17
                      ·rw [if_pos c61] at H
                       have c61b0 : (((rd_T56 ((rd_T30 l0_0 x3_1).f5) x7_3).f0) == 17) = true := beq_iff_eq.mpr c61
                       have c61b1 : (((rd_T56 ((rd_T30 l0_0 x3_1).f5) x7_3).f0) != 17) = false := bne_eq_false_iff_eq.mpr c61
                       clear c61
                       have H' := Aside0.mk H
                       clear H
                       obtain ⟨Ao62, co62, eo62⟩ := Kd.R_slice HO_4.out
                       subst eo62
                       have p471 : 0 ≤ (x7_3 : Int) := of_decide_eq_true ass
                       have q471 : x7_3 < (t449.length : Int) := of_decide_eq_true ass
                       obtain ⟨ad471, e471, hx471_0⟩ := Kd.at_int (Kd.R_reads' HO_4.out).2.2 x7_3 p471 q471
                       cases e471
                       replace p471 := eq_true p471
                       replace q471 := eq_true q471
                       have p472 : 0 ≤ (x7_3 : Int) := of_decide_eq_true ass
                       have q472 : x7_3 < (((rd_T30 l0_0 x3_1).f5).length : Int) := of_decide_eq_true ass
                       obtain ⟨ad472, A472_4, c472_4, e472, hx472_0, hx472_1, hx472_2, hx472_3, hx472_4, hl472_4, hi472_4⟩ := at_T56 HR453_5.out x7_3 p472 q472
                       cases e472
                       replace hx472_0 := cq HB hx472_0
                       replace hx472_1 := cq HB hx472_1
                       replace hx472_2 := cq HB hx472_2
                       replace hx472_3 := cq HB hx472_3
                       replace hx472_4 := cq HB hx472_4
                       have HR472_4 := Aside0.mk hi472_4
                       have HC472_4 := Aside0.mk hl472_4
                       clear hi472_4 hl472_4
                       replace p472 := eq_true p472
                       replace q472 := eq_true q472
                       have p473 : 0 ≤ (x7_3 : Int) := of_decide_eq_true ass
                       have q473 : x7_3 < (((rd_T30 l0_0 x3_1).f5).length : Int) := of_decide_eq_true ass
                       obtain ⟨ad473, A473_4, c473_4, e473, hx473_0, hx473_1, hx473_2, hx473_3, hx473_4, hl473_4, hi473_4⟩ := at_T56 HR453_5.out x7_3 p473 q473
                       obtain rfl : ad472 = ad473 := (by injection e473)
                       replace hx473_0 := cq HB hx473_0
                       replace hx473_1 := cq HB hx473_1
                       replace hx473_2 := cq HB hx473_2
                       replace hx473_3 := cq HB hx473_3
                       replace hx473_4 := cq HB hx473_4
                       have HR473_4 := Aside0.mk hi473_4
                       have HC473_4 := Aside0.mk hl473_4
                       clear hi473_4 hl473_4
                       replace p473 := eq_true p473
                       replace q473 := eq_true q473
                       have ea_ := Option.some.inj (hx472_4.symm.trans hx473_4)
                       injection ea_ with ea_ en_ ec_
                       subst ea_
                       subst ec_
                       clear en_
                       have p474 : 0 ≤ (x7_3 : Int) := of_decide_eq_true ass
                       have q474 : x7_3 < (((rd_T30 l0_0 x3_1).f5).length : Int) := of_decide_eq_true ass
                       obtain ⟨ad474, A474_4, c474_4, e474, hx474_0, hx474_1, hx474_2, hx474_3, hx474_4, hl474_4, hi474_4⟩ := at_T56 HR453_5.out x7_3 p474 q474
                       obtain rfl : ad472 = ad474 := (by injection e474)
                       replace hx474_0 := cq HB hx474_0
                       replace hx474_1 := cq HB hx474_1
                       replace hx474_2 := cq HB hx474_2
                       replace hx474_3 := cq HB hx474_3
                       replace hx474_4 := cq HB hx474_4
                       have HR474_4 := Aside0.mk hi474_4
                       have HC474_4 := Aside0.mk hl474_4
                       clear hi474_4 hl474_4
                       replace p474 := eq_true p474
                       replace q474 := eq_true q474
                       have ea_ := Option.some.inj (hx472_4.symm.trans hx474_4)
                       injection ea_ with ea_ en_ ec_
                       subst ea_
                       subst ec_
                       clear en_
                       go_wp2
                       go_roundg kj20
                       case measure => have := HK1.out; have := HJ9.out; have := HK3.out; have := HJ20.out; omega
                       case rel => exact ⟨(wrap64 (x7_3 + 1)), pv, H', ⟨by have := HK1.out; have := HJ9.out; have := HK3.out; have := HJ20.out; omega⟩, ⟨rt HO_4⟩, ⟨bt⟩, ⟨bel⟩⟩
                      ·rw [if_neg c61] at H
                       have c61b0 : (((rd_T56 ((rd_T30 l0_0 x3_1).f5) x7_3).f0) == 17) = false := beq_eq_false_iff_ne.mpr c61
                       have c61b1 : (((rd_T56 ((rd_T30 l0_0 x3_1).f5) x7_3).f0) != 17) = true := bne_iff_ne.mpr c61
                       obtain rfl := Option.some.inj H
                       obtain ⟨Ao63, co63, eo63⟩ := Kd.R_slice HO_4.out
                       subst eo63
                       have p471 : 0 ≤ (x7_3 : Int) := of_decide_eq_true ass
                       have q471 : x7_3 < (t449.length : Int) := of_decide_eq_true ass
                       obtain ⟨ad471, e471, hx471_0⟩ := Kd.at_int (Kd.R_reads' HO_4.out).2.2 x7_3 p471 q471
                       cases e471
                       replace p471 := eq_true p471
                       replace q471 := eq_true q471
                       have p472 : 0 ≤ (x7_3 : Int) := of_decide_eq_true ass
                       have q472 : x7_3 < (((rd_T30 l0_0 x3_1).f5).length : Int) := of_decide_eq_true ass
                       obtain ⟨ad472, A472_4, c472_4, e472, hx472_0, hx472_1, hx472_2, hx472_3, hx472_4, hl472_4, hi472_4⟩ := at_T56 HR453_5.out x7_3 p472 q472
                       cases e472
                       replace hx472_0 := cq HB hx472_0
                       replace hx472_1 := cq HB hx472_1
                       replace hx472_2 := cq HB hx472_2
                       replace hx472_3 := cq HB hx472_3
                       replace hx472_4 := cq HB hx472_4
                       have HR472_4 := Aside0.mk hi472_4
                       have HC472_4 := Aside0.mk hl472_4
                       clear hi472_4 hl472_4
                       replace p472 := eq_true p472
                       replace q472 := eq_true q472
                       have p473 : 0 ≤ (x7_3 : Int) := of_decide_eq_true ass
                       have q473 : x7_3 < (((rd_T30 l0_0 x3_1).f5).length : Int) := of_decide_eq_true ass
                       obtain ⟨ad473, A473_4, c473_4, e473, hx473_0, hx473_1, hx473_2, hx473_3, hx473_4, hl473_4, hi473_4⟩ := at_T56 HR453_5.out x7_3 p473 q473
                       obtain rfl : ad472 = ad473 := (by injection e473)
                       replace hx473_0 := cq HB hx473_0
                       replace hx473_1 := cq HB hx473_1
                       replace hx473_2 := cq HB hx473_2
                       replace hx473_3 := cq HB hx473_3
                       replace hx473_4 := cq HB hx473_4
                       have HR473_4 := Aside0.mk hi473_4
                       have HC473_4 := Aside0.mk hl473_4
                       clear hi473_4 hl473_4
                       replace p473 := eq_true p473
                       replace q473 := eq_true q473
                       have ea_ := Option.some.inj (hx472_4.symm.trans hx473_4)
                       injection ea_ with ea_ en_ ec_
                       subst ea_
                       subst ec_
                       clear en_
                       have p474 : 0 ≤ (x7_3 : Int) := of_decide_eq_true ass
                       have q474 : x7_3 < (((rd_T30 l0_0 x3_1).f5).length : Int) := of_decide_eq_true ass
                       obtain ⟨ad474, A474_4, c474_4, e474, hx474_0, hx474_1, hx474_2, hx474_3, hx474_4, hl474_4, hi474_4⟩ := at_T56 HR453_5.out x7_3 p474 q474
                       obtain rfl : ad472 = ad474 := (by injection e474)
                       replace hx474_0 := cq HB hx474_0
                       replace hx474_1 := cq HB hx474_1
                       replace hx474_2 := cq HB hx474_2
                       replace hx474_3 := cq HB hx474_3
                       replace hx474_4 := cq HB hx474_4
                       have HR474_4 := Aside0.mk hi474_4
                       have HC474_4 := Aside0.mk hl474_4
                       clear hi474_4 hl474_4
                       replace p474 := eq_true p474
                       replace q474 := eq_true q474
                       have ea_ := Option.some.inj (hx472_4.symm.trans hx474_4)
                       injection ea_ with ea_ en_ ec_
                       subst ea_
                       subst ec_
                       clear en_
                       go_wp2
                       go_ret
                       exact fn
                   ·rw [if_neg c56] at H
                    exact absurd H (by simp)
                  ·rw [if_neg c55] at H
                   have c55b0 : ((wrap64 (x7_3 + 1)) == (((rd_T30 l0_0 x3_1).f5).length : Int)) = false := beq_eq_false_iff_ne.mpr c55
                   have c55b1 : ((wrap64 (x7_3 + 1)) != (((rd_T30 l0_0 x3_1).f5).length : Int)) = true := bne_iff_ne.mpr c55
                   have H' := Aside0.mk H
                   clear H
                   obtain ⟨Ao64, co64, eo64⟩ := Kd.R_slice HO_4.out
                   subst eo64
                   have p471 : 0 ≤ (x7_3 : Int) := of_decide_eq_true ass
                   have q471 : x7_3 < (t449.length : Int) := of_decide_eq_true ass
                   obtain ⟨ad471, e471, hx471_0⟩ := Kd.at_int (Kd.R_reads' HO_4.out).2.2 x7_3 p471 q471
                   cases e471
                   replace p471 := eq_true p471
                   replace q471 := eq_true q471
                   go_wp2
                   go_roundg kj20
                   case measure => have := HK1.out; have := HJ9.out; have := HK3.out; have := HJ20.out; omega
                   case rel => exact ⟨(wrap64 (x7_3 + 1)), pv, H', ⟨by have := HK1.out; have := HJ9.out; have := HK3.out; have := HJ20.out; omega⟩, ⟨rt HO_4⟩, ⟨bt⟩, ⟨bel⟩⟩
                 ·rw [if_neg c54] at H
                  have c54b0 : decide (0 ≤ (rd t449 x7_3)) = false := decide_eq_false c54
                  clear c54
                  have H' := Aside0.mk H
                  clear H
                  obtain ⟨Ao65, co65, eo65⟩ := Kd.R_slice HO_4.out
                  subst eo65
                  have p471 : 0 ≤ (x7_3 : Int) := of_decide_eq_true ass
                  have q471 : x7_3 < (t449.length : Int) := of_decide_eq_true ass
                  obtain ⟨ad471, e471, hx471_0⟩ := Kd.at_int (Kd.R_reads' HO_4.out).2.2 x7_3 p471 q471
                  cases e471
                  replace p471 := eq_true p471
                  replace q471 := eq_true q471
                  go_wp2
                  go_roundg kj20
                  case measure => have := HK1.out; have := HJ9.out; have := HK3.out; have := HJ20.out; omega
                  case rel => exact ⟨(wrap64 (x7_3 + 1)), pv, H', ⟨by have := HK1.out; have := HJ9.out; have := HK3.out; have := HJ20.out; omega⟩, ⟨rt HO_4⟩, ⟨bt⟩, ⟨bel⟩⟩
                ·rw [if_neg c53] at H
                 exact absurd H (by simp)
               ·rw [if_neg c52] at H
                exact absurd H (by simp)
           ·rw [if_neg c20] at H
            have c20b0 : decide (x7_3 < (((rd_T30 l0_0 x3_1).f5).length : Int)) = false := decide_eq_false c20
            clear c20
            have H' := Aside0.mk H
            clear H
            go_wp2
            go_roundg k3
            case measure => have := HK1.out; have := HJ9.out; have := HK3.out; omega
            case rel => exact ⟨(wrap64 (x3_1 + 1)), pv, H', ⟨by have := HK1.out; have := HJ9.out; have := HK3.out; omega⟩, ⟨bt⟩, ⟨bel⟩⟩
     ·rw [if_neg c9] at H
      exact absurd H (by simp)
    ·rw [if_neg c7] at H
     have c7b0 : decide (x3_1 < (l0_0.length : Int)) = false := decide_eq_false c7
     clear c7
     replace H := Option.bind_eq_some_iff.mp H
     obtain ⟨t448, A660, H⟩ := H
     replace H : (some t448) = some r := H
     have A66 := Aside0.mk A660
     clear A660
     obtain rfl := Option.some.inj H
     have hcz67_0 : wr.cell? ⟨gb445, 0, none⟩ = some (.slice A0_0 l0_0.length c0_0) := (blk_cell BK445.out 0).trans rfl
     have hcz67_1 : wr.cell? ⟨gb445, 1, none⟩ = some (.slice A0_1 l0_1.length c0_1) := (blk_cell BK445.out 1).trans rfl
     have hfz67_0 := blk_frozen BK445.out 0
     have hfz67_1 := blk_frozen BK445.out 1
     go_wp2_with (first | ((with_reducible refine gate_callee (f := 9) rfl ?_); refine goesL_ (some 146) rfl rfl Tryz.func9 (by kernel_rfl) rfl #[] rfl am ?_; (with_reducible refine (colanderlaw19_heads.calls  t448 _ ?side1 A66.out).mono ?_); (case side1 => first | exact hT | exact tabs_below hT bel); rintro e w68 ⟨rfl, hb⟩; refine ⟨_, rfl, ?_⟩; have n0_ := bb BK445 hb; have n1_ := bes hb; clear BK445; clear HB; have BK445 := n0_; have HB := n1_; clear n0_ n1_; (try clear hb); (try clear hb2); (try clear hk); (try clear hi)))
     go_ret
     exact fn
 ·rw [if_neg c3] at H
  have c3b0 : (t446 == 0) = false := beq_eq_false_iff_ne.mpr c3
  have c3b1 : (t446 != 0) = true := bne_iff_ne.mpr c3
  replace H := Option.bind_eq_some_iff.mp H
  obtain ⟨t447, A690, H⟩ := H
  replace H : (some t447) = some r := H
  have A69 := Aside0.mk A690
  clear A690
  obtain rfl := Option.some.inj H
  go_enter Tryz.func6, Tryz.ntmps6
  go_wp2_with (first | ((with_reducible refine gate_dst (N := 1) rfl ?_); (try (refine gate_guard (by rfl) ?_; dsimp only)); refine box_event ?hg (N := 1) ?hd (cs := #[.slice A0_0 l0_0.length c0_0, .slice A0_1 l0_1.length c0_1]) (t := 25) ?hr ?_; (case hd => rfl); (case hg => rfl); (case hr => first | (go_simp; done) | (go_simp; rfl)); intro gb445 hg w70 hbox hb; have n0_ := bes hb; have n1_ := Aside0.mk (hbox); have n2_ := Aside0.mk ((bez hg : w.heap.size ≤ gb445)); have n3_ := Aside0.mk ((bez hg : w.heap.size ≤ gb445)); clear HB; have HB := n0_; have BK445 := n1_; have GW445 := n2_; have GE445 := n3_; clear n0_ n1_ n2_ n3_; clear hb hbox hg; have hcz71_0 : w70.cell? ⟨gb445, 0, none⟩ = some (.slice A0_0 l0_0.length c0_0) := (blk_cell BK445.out 0).trans rfl; have hcz71_1 : w70.cell? ⟨gb445, 1, none⟩ = some (.slice A0_1 l0_1.length c0_1) := (blk_cell BK445.out 1).trans rfl; have hfz71_0 := blk_frozen BK445.out 0; have hfz71_1 := blk_frozen BK445.out 1) | ((with_reducible refine gate_callee (f := 8) rfl ?_); refine goesL_ (some 9) rfl rfl Tryz.func8 (by kernel_rfl) rfl #[.agg #[.slice A0_0 l0_0.length c0_0, .slice A0_1 l0_1.length c0_1]] rfl am ?_; (with_reducible refine (code_Check.calls k _ _ l0_0 _ _ l0_1 t446 _ ?side1 ?side2 ?side3 ?side4 ?side5 A2.out).mono ?_); (case side1 => exact cb HR0_0); (case side2 => exact HC0_0.out); (case side3 => exact cb HR0_1); (case side4 => exact HC0_1.out); (case side5 => first | exact hT | exact tabs_below hT bel); rintro e w72 ⟨rfl, hb⟩; refine ⟨_, rfl, ?_⟩; have n0_ := bb BK445 hb; have n1_ := bes hb; clear BK445; clear HB; have BK445 := n0_; have HB := n1_; clear n0_ n1_; (try clear hb); (try clear hb2); (try clear hk); (try clear hi)) | ((with_reducible refine gate_callee (f := 9) rfl ?_); refine goesL_ (some 11) rfl rfl Tryz.func9 (by kernel_rfl) rfl #[] rfl am ?_; (with_reducible refine (colanderlaw19_heads.calls  t447 _ ?side1 A69.out).mono ?_); (case side1 => first | exact hT | exact tabs_below hT bel); rintro e w73 ⟨rfl, hb⟩; refine ⟨_, rfl, ?_⟩; have n0_ := bb BK445 hb; have n1_ := bes hb; clear BK445; clear HB; have BK445 := n0_; have HB := n1_; clear n0_ n1_; (try clear hb); (try clear hb2); (try clear hk); (try clear hi)))
  go_ret
  exact fn
end Go.Proofs.YtlbcnacfgickcaaGreatDoor.A
