/- Printed by this session's own copy of the printer (wip/tools/mkprint.py): functions, and that the Go code answers as they do. -/
import Derived.Test.YtmpmbnmldmpmiaaGreatDoorShort
import Derived.Test.YtmpmbnmldmpmiaaGreatDoorA0
namespace Go.Proofs.YtmpmbnmldmpmiaaGreatDoor.A
open Go.RowKit Go.Proofs.YtmpmbnmldmpmiaaGreatDoorW.PrintWords Go.Proofs.YtmpmbnmldmpmiaaGreatDoorW.PrintLast Go.Proofs.YtmpmbnmldmpmiaaGreatDoorW.PrintMore Go.Proofs.YtmpmbnmldmpmiaaGreatDoorW.Short
attribute [local go_sem] max2_int min2_int max_two min_two max_three min_three max_four min_four   -- for this text's walks alone
set_option linter.unusedVariables false
set_option linter.unusedSimpArgs false
mutual
def colanderref03_room.l0 : Nat → Int → Int → Int → Int → Int → Nat → ByteArray → List (S27) → List ByteArray → Option (Int × Int)
 | 0, _, _, _, _, _, _, _, _, _ => none
 | k + 1, x1, x2, x3, x10, x606000, x606001, x606002, x606003, x606004 => if x10 < (x606004.length : Int) then (if 0 ≤ x10 then (colanderref03_room.l0 k x1 (wrap64 (x2 - ((rdOf ByteArray.empty x606004 x10).size : Int))) x3 (wrap64 (x10 + 1)) x606000 x606001 x606002 x606003 x606004) else (none)) else (colanderref03_room.l1 k x1 x2 x3 0 x606000 x606001 x606002 x606003 x606004)
def colanderref03_room.l1 : Nat → Int → Int → Int → Int → Int → Nat → ByteArray → List (S27) → List ByteArray → Option (Int × Int)
 | 0, _, _, _, _, _, _, _, _, _ => none
 | k + 1, x1, x2, x3, x11, x606000, x606001, x606002, x606003, x606004 => if x11 < (x606003.length : Int) then (if x1 ≥ 0 then (if x2 ≥ 0 then (if 0 ≤ x11 then ((colanderref03_room.f k ((rd_T27 x606003 x11).f0) ((rd_T27 x606003 x11).f1) ((rd_T27 x606003 x11).f2) ((rd_T27 x606003 x11).f3) ((rd_T27 x606003 x11).f4) x1 x2 (wrap64 (x3 - 1))).bind fun bt608 => (colanderref03_room.l1 k bt608.1 bt608.2 x3 (wrap64 (x11 + 1)) x606000 x606001 x606002 x606003 x606004)) else (none)) else (some (x1, x2))) else (some (x1, x2))) else (some (x1, x2))
def colanderref03_room.f : Nat → Int → Nat → ByteArray → List (S27) → List ByteArray → Int → Int → Int → Option (Int × Int)
 | 0, _, _, _, _, _, _, _, _ => none
 | k + 1, a0_0, a0_1, a0_2, l0_3, l0_4, a1, a2, a3 => if a3 < 1 then (some ((-1), (-1))) else (colanderref03_room.l0 k (wrap64 (a1 - 1)) (wrap64 (a2 - (a0_2.size : Int))) a3 0 a0_0 a0_1 a0_2 l0_3 l0_4)
end
set_option maxHeartbeats 8000000 in
set_option maxRecDepth 100000 in
theorem colanderref03_room.calls (k : Nat) : ∀ (a0_0 : Int) (a0_1 : Nat) (a0_2 : ByteArray) (A0_3 : Option Addr) (c0_3 : Nat) (l0_3 : List (S27)) (A0_4 : Option Addr) (c0_4 : Nat) (l0_4 : List ByteArray) (a1 : Int) (a2 : Int) (a3 : Int) (r1 : Int) (r2 : Int) (w : World) (hr0_3 : Kd.C k27 w A0_3 l0_3.length l0_3) (hc0_3 : l0_3.length ≤ c0_3) (hr0_4 : Kd.C Kd.string w A0_4 l0_4.length l0_4) (hc0_4 : l0_4.length ≤ c0_4) (h : colanderref03_room.f k a0_0 a0_1 a0_2 l0_3 l0_4 a1 a2 a3 = some (r1, r2)),
  Calls Tryz.prog 61 #[.agg #[.int .i64 a0_0, .float .f64 a0_1, .string a0_2, .slice A0_3 l0_3.length c0_3, .slice A0_4 l0_4.length c0_4], .int .i64 a1, .int .i64 a2, .int .i64 a3] w fun e w' => e = .returned (.tuple #[.int .i64 r1, .int .i64 r2]) ∧ Below w.heap.size w w' := by
 induction k using Nat.strongRecOn with
 | _ k ih =>
 intro a0_0 a0_1 a0_2 A0_3 c0_3 l0_3 A0_4 c0_4 l0_4 a1 a2 a3 r1 r2 w hr0_3 hc0_3 hr0_4 hc0_4 h
 cases k with
 | zero => exact absurd h (by simp [colanderref03_room.f])
 | succ k =>
 simp only [colanderref03_room.f] at h
 have hu27 := Tryz.underlying27
 have HR0_3 := Aside0.mk hr0_3
 have HC0_3 := Aside0.mk hc0_3
 clear hr0_3 hc0_3
 have HR0_4 := Aside0.mk hr0_4
 have HC0_4 := Aside0.mk hc0_4
 clear hr0_4 hc0_4
 have HB := Aside0.mk (Below.refl w.heap.size w)
 have H : (if a3 < 1 then (some ((-1), (-1))) else (colanderref03_room.l0 k (wrap64 (a1 - 1)) (wrap64 (a2 - (a0_2.size : Int))) a3 0 a0_0 a0_1 a0_2 l0_3 l0_4)) = some (r1, r2) := h
 clear h
 by_cases c5 : a3 < 1
 ·rw [if_pos c5] at H
  have c5b0 : decide (a3 < 1) = true := decide_eq_true c5
  clear c5
  simp only [Option.some.injEq, Prod.mk.injEq] at H
  obtain ⟨rfl, rfl⟩ := H
  go_enter Tryz.func61, Tryz.ntmps61
  go_wp2_with (first | ((with_reducible refine gate_dst (N := 4) rfl ?_); refine box_event ?hg (N := 4) ?hd (cs := #[.int .i64 a0_0, .float .f64 a0_1, .string a0_2, .slice A0_3 l0_3.length c0_3, .slice A0_4 l0_4.length c0_4]) (t := 27) ?hr ?_; (case hd => rfl); (case hg => rfl); (case hr => first | (go_simp; done) | (go_simp; rfl)); intro gb605 hg w6 hbox hb; have n0_ := bes hb; have n1_ := Aside0.mk (hbox); have n2_ := Aside0.mk ((bez hg : w.heap.size ≤ gb605)); have n3_ := Aside0.mk ((bez hg : w.heap.size ≤ gb605)); clear HB; have HB := n0_; have BK605 := n1_; have GW605 := n2_; have GE605 := n3_; clear n0_ n1_ n2_ n3_; clear hb hbox hg))
  go_ret2
  exact fn
 ·rw [if_neg c5] at H
  have c5b0 : decide (a3 < 1) = false := decide_eq_false c5
  clear c5
  have H' := Aside0.mk H
  clear H
  go_enter Tryz.func61, Tryz.ntmps61
  go_wp2_with (first | ((with_reducible refine gate_dst (N := 4) rfl ?_); refine box_event ?hg (N := 4) ?hd (cs := #[.int .i64 a0_0, .float .f64 a0_1, .string a0_2, .slice A0_3 l0_3.length c0_3, .slice A0_4 l0_4.length c0_4]) (t := 27) ?hr ?_; (case hd => rfl); (case hg => rfl); (case hr => first | (go_simp; done) | (go_simp; rfl)); intro gb605 hg w7 hbox hb; have n0_ := bes hb; have n1_ := Aside0.mk (hbox); have n2_ := Aside0.mk ((bez hg : w.heap.size ≤ gb605)); have n3_ := Aside0.mk ((bez hg : w.heap.size ≤ gb605)); clear HB; have HB := n0_; have BK605 := n1_; have GW605 := n2_; have GE605 := n3_; clear n0_ n1_ n2_ n3_; clear hb hbox hg; have hcz8_0 : w7.cell? ⟨gb605, 0, none⟩ = some (.int .i64 a0_0) := (blk_cell BK605.out 0).trans rfl; have hcz8_1 : w7.cell? ⟨gb605, 1, none⟩ = some (.float .f64 a0_1) := (blk_cell BK605.out 1).trans rfl; have hcz8_2 : w7.cell? ⟨gb605, 2, none⟩ = some (.string a0_2) := (blk_cell BK605.out 2).trans rfl; have hcz8_3 : w7.cell? ⟨gb605, 3, none⟩ = some (.slice A0_3 l0_3.length c0_3) := (blk_cell BK605.out 3).trans rfl; have hcz8_4 : w7.cell? ⟨gb605, 4, none⟩ = some (.slice A0_4 l0_4.length c0_4) := (blk_cell BK605.out 4).trans rfl; have hfz8_0 := blk_frozen BK605.out 0; have hfz8_1 := blk_frozen BK605.out 1; have hfz8_2 := blk_frozen BK605.out 2; have hfz8_3 := blk_frozen BK605.out 3; have hfz8_4 := blk_frozen BK605.out 4))
  go_loopg [2, 10] k (fun kq v2 v10 w' => ∃ (x2_1 : Int) (x10_1 : Int), v2 = .int .i64 x2_1 ∧ v10 = .int .i64 x10_1 ∧ Aside0 (colanderref03_room.l0 kq (wrap64 (a1 - 1)) x2_1 a3 x10_1 a0_0 a0_1 a0_2 l0_3 l0_4 = some (r1, r2)) ∧ Aside0 (kq ≤ k) ∧ Aside0 (w'.heap[gb605]? = some (.cells #[.int .i64 a0_0, .float .f64 a0_1, .string a0_2, (.slice A0_3 l0_3.length c0_3), (.slice A0_4 l0_4.length c0_4)] 27 (0, 0))) ∧ Aside0 (Below w.heap.size w w'))
  case atStart => exact ⟨(wrap64 (a2 - (a0_2.size : Int))), (0), pv, pv, H', ⟨Nat.le_refl _⟩, ⟨bt⟩, ⟨bel⟩⟩
  case round =>
   clear H'
   (try clear p2);(try clear c5);(try clear c5b0);(try clear c6);(try clear p6);(try clear hcz8_0);(try clear hcz8_1);(try clear hcz8_2);(try clear hcz8_3);(try clear hcz8_4);(try clear hfz8_0);(try clear hfz8_1);(try clear hfz8_2);(try clear hfz8_3);(try clear hfz8_4)
   obtain ⟨x2_1, x10_1, rfl, rfl, HA, HK1, BK605, HB⟩ := hrel
   cases gk with
   | zero => exact absurd HA.out (by simp [colanderref03_room.l0])
   | succ k1 =>
    have H := HA.out
    clear HA
    simp only [colanderref03_room.l0] at H
    by_cases c9 : x10_1 < (l0_4.length : Int)
    ·rw [if_pos c9] at H
     have c9b0 : decide (x10_1 < (l0_4.length : Int)) = true := decide_eq_true c9
     clear c9
     by_cases c10 : 0 ≤ x10_1
     ·rw [if_pos c10] at H
      have c10b0 : decide (0 ≤ x10_1) = true := decide_eq_true c10
      clear c10
      have H' := Aside0.mk H
      clear H
      have hcz11_0 : wr.cell? ⟨gb605, 0, none⟩ = some (.int .i64 a0_0) := (blk_cell BK605.out 0).trans rfl
      have hcz11_1 : wr.cell? ⟨gb605, 1, none⟩ = some (.float .f64 a0_1) := (blk_cell BK605.out 1).trans rfl
      have hcz11_2 : wr.cell? ⟨gb605, 2, none⟩ = some (.string a0_2) := (blk_cell BK605.out 2).trans rfl
      have hcz11_3 : wr.cell? ⟨gb605, 3, none⟩ = some (.slice A0_3 l0_3.length c0_3) := (blk_cell BK605.out 3).trans rfl
      have hcz11_4 : wr.cell? ⟨gb605, 4, none⟩ = some (.slice A0_4 l0_4.length c0_4) := (blk_cell BK605.out 4).trans rfl
      have hfz11_0 := blk_frozen BK605.out 0
      have hfz11_1 := blk_frozen BK605.out 1
      have hfz11_2 := blk_frozen BK605.out 2
      have hfz11_3 := blk_frozen BK605.out 3
      have hfz11_4 := blk_frozen BK605.out 4
      have p606 : 0 ≤ (x10_1 : Int) := of_decide_eq_true ass
      have q606 : x10_1 < (l0_4.length : Int) := of_decide_eq_true ass
      obtain ⟨ad606, e606, hx606_0⟩ := Kd.at_string HR0_4.out x10_1 p606 q606
      cases e606
      replace hx606_0 := cq HB hx606_0
      replace p606 := eq_true p606
      replace q606 := eq_true q606
      go_wp2
      go_roundg k1
      case measure => have := HK1.out; omega
      case rel => exact ⟨(wrap64 (x2_1 - ((rdOf ByteArray.empty l0_4 x10_1).size : Int))), (wrap64 (x10_1 + 1)), pv, pv, H', ⟨by have := HK1.out; omega⟩, ⟨bt⟩, ⟨bel⟩⟩
     ·rw [if_neg c10] at H
      exact absurd H (by simp)
    ·rw [if_neg c9] at H
     have c9b0 : decide (x10_1 < (l0_4.length : Int)) = false := decide_eq_false c9
     clear c9
     have H' := Aside0.mk H
     clear H
     have hcz12_0 : wr.cell? ⟨gb605, 0, none⟩ = some (.int .i64 a0_0) := (blk_cell BK605.out 0).trans rfl
     have hcz12_1 : wr.cell? ⟨gb605, 1, none⟩ = some (.float .f64 a0_1) := (blk_cell BK605.out 1).trans rfl
     have hcz12_2 : wr.cell? ⟨gb605, 2, none⟩ = some (.string a0_2) := (blk_cell BK605.out 2).trans rfl
     have hcz12_3 : wr.cell? ⟨gb605, 3, none⟩ = some (.slice A0_3 l0_3.length c0_3) := (blk_cell BK605.out 3).trans rfl
     have hcz12_4 : wr.cell? ⟨gb605, 4, none⟩ = some (.slice A0_4 l0_4.length c0_4) := (blk_cell BK605.out 4).trans rfl
     have hfz12_0 := blk_frozen BK605.out 0
     have hfz12_1 := blk_frozen BK605.out 1
     have hfz12_2 := blk_frozen BK605.out 2
     have hfz12_3 := blk_frozen BK605.out 3
     have hfz12_4 := blk_frozen BK605.out 4
     go_wp2
     go_loopg [1, 2, 11] k1 (fun kq v1 v2 v11 w' => ∃ (x1_2 : Int) (x2_2 : Int) (x11_2 : Int), v1 = .int .i64 x1_2 ∧ v2 = .int .i64 x2_2 ∧ v11 = .int .i64 x11_2 ∧ Aside0 (colanderref03_room.l1 kq x1_2 x2_2 a3 x11_2 a0_0 a0_1 a0_2 l0_3 l0_4 = some (r1, r2)) ∧ Aside0 (kq ≤ k1) ∧ Aside0 (w'.heap[gb605]? = some (.cells #[.int .i64 a0_0, .float .f64 a0_1, .string a0_2, (.slice A0_3 l0_3.length c0_3), (.slice A0_4 l0_4.length c0_4)] 27 (0, 0))) ∧ Aside0 (Below w.heap.size w w'))
     case atStart => exact ⟨((wrap64 (a1 - 1))), (x2_1), (0), pv, pv, pv, H', ⟨Nat.le_refl _⟩, ⟨bt⟩, ⟨bel⟩⟩
     case round =>
      clear H'
      (try clear c1);(try clear p2);(try clear c5);(try clear c5b0);(try clear c6);(try clear p6);(try clear q6);(try clear hx6);(try clear c9);(try clear c9b0);(try clear c10);(try clear c10b0);(try clear hcz11_0);(try clear hcz11_1);(try clear hcz11_2);(try clear hcz11_3);(try clear hcz11_4);(try clear hcz12_0);(try clear hcz12_1);(try clear hcz12_2);(try clear hcz12_3);(try clear hcz12_4);(try clear hcz8_0);(try clear hcz8_1);(try clear hcz8_2);(try clear hcz8_3);(try clear hcz8_4);(try clear hfz11_0);(try clear hfz11_1);(try clear hfz11_2);(try clear hfz11_3);(try clear hfz11_4);(try clear hfz12_0);(try clear hfz12_1);(try clear hfz12_2);(try clear hfz12_3);(try clear hfz12_4);(try clear hfz8_0);(try clear hfz8_1);(try clear hfz8_2);(try clear hfz8_3);(try clear hfz8_4);(try clear hx606_0);(try clear p2);(try clear p6);(try clear p606);(try clear q606)
      obtain ⟨x1_2, x2_2, x11_2, rfl, rfl, rfl, HA, HK2, BK605, HB⟩ := hrel
      cases gk with
      | zero => exact absurd HA.out (by simp [colanderref03_room.l1])
      | succ k2 =>
       have H := HA.out
       clear HA
       simp only [colanderref03_room.l1] at H
       by_cases c13 : x11_2 < (l0_3.length : Int)
       ·rw [if_pos c13] at H
        have c13b0 : decide (x11_2 < (l0_3.length : Int)) = true := decide_eq_true c13
        clear c13
        by_cases c14 : x1_2 ≥ 0
        ·rw [if_pos c14] at H
         have c14b0 : decide (0 ≤ x1_2) = true := decide_eq_true c14
         clear c14
         by_cases c15 : x2_2 ≥ 0
         ·rw [if_pos c15] at H
          have c15b0 : decide (0 ≤ x2_2) = true := decide_eq_true c15
          clear c15
          by_cases c16 : 0 ≤ x11_2
          ·rw [if_pos c16] at H
           have c16b0 : decide (0 ≤ x11_2) = true := decide_eq_true c16
           clear c16
           replace H := Option.bind_eq_some_iff.mp H
           obtain ⟨⟨t608, t609⟩, A170, H⟩ := H
           replace H : (colanderref03_room.l1 k2 t608 t609 a3 (wrap64 (x11_2 + 1)) a0_0 a0_1 a0_2 l0_3 l0_4) = some (r1, r2) := H
           have A17 := Aside0.mk A170
           clear A170
           have H' := Aside0.mk H
           clear H
           have hcz18_0 : wr.cell? ⟨gb605, 0, none⟩ = some (.int .i64 a0_0) := (blk_cell BK605.out 0).trans rfl
           have hcz18_1 : wr.cell? ⟨gb605, 1, none⟩ = some (.float .f64 a0_1) := (blk_cell BK605.out 1).trans rfl
           have hcz18_2 : wr.cell? ⟨gb605, 2, none⟩ = some (.string a0_2) := (blk_cell BK605.out 2).trans rfl
           have hcz18_3 : wr.cell? ⟨gb605, 3, none⟩ = some (.slice A0_3 l0_3.length c0_3) := (blk_cell BK605.out 3).trans rfl
           have hcz18_4 : wr.cell? ⟨gb605, 4, none⟩ = some (.slice A0_4 l0_4.length c0_4) := (blk_cell BK605.out 4).trans rfl
           have hfz18_0 := blk_frozen BK605.out 0
           have hfz18_1 := blk_frozen BK605.out 1
           have hfz18_2 := blk_frozen BK605.out 2
           have hfz18_3 := blk_frozen BK605.out 3
           have hfz18_4 := blk_frozen BK605.out 4
           have p607 : 0 ≤ (x11_2 : Int) := of_decide_eq_true ass
           have q607 : x11_2 < (l0_3.length : Int) := of_decide_eq_true ass
           obtain ⟨ad607, A607_3, c607_3, A607_4, c607_4, e607, hx607_0, hx607_1, hx607_2, hx607_3, hx607_4, hl607_3, hi607_3, hl607_4, hi607_4⟩ := at_T27 HR0_3.out x11_2 p607 q607
           cases e607
           replace hx607_0 := cq HB hx607_0
           replace hx607_1 := cq HB hx607_1
           replace hx607_2 := cq HB hx607_2
           replace hx607_3 := cq HB hx607_3
           replace hx607_4 := cq HB hx607_4
           have HR607_3 := Aside0.mk hi607_3
           have HC607_3 := Aside0.mk hl607_3
           clear hi607_3 hl607_3
           have HR607_4 := Aside0.mk hi607_4
           have HC607_4 := Aside0.mk hl607_4
           clear hi607_4 hl607_4
           replace p607 := eq_true p607
           replace q607 := eq_true q607
           go_wp2_with (first | ((with_reducible refine gate_callee (f := 61) rfl ?_); refine goesL_ (some 61) rfl rfl Tryz.func61 (by kernel_rfl) rfl #[.agg #[.int .i64 ((rd_T27 l0_3 x11_2).f0), .float .f64 ((rd_T27 l0_3 x11_2).f1), .string ((rd_T27 l0_3 x11_2).f2), .slice A607_3 ((rd_T27 l0_3 x11_2).f3).length c607_3, .slice A607_4 ((rd_T27 l0_3 x11_2).f4).length c607_4], .int .i64 x1_2, .int .i64 x2_2, .int .i64 (wrap64 (a3 - 1))] rfl am ?_; (with_reducible refine (ih k2 (by have := HK1.out; have := HK2.out; omega) ((rd_T27 l0_3 x11_2).f0) ((rd_T27 l0_3 x11_2).f1) ((rd_T27 l0_3 x11_2).f2) _ _ ((rd_T27 l0_3 x11_2).f3) _ _ ((rd_T27 l0_3 x11_2).f4) x1_2 x2_2 (wrap64 (a3 - 1)) t608 t609 _ ?side1 ?side2 ?side3 ?side4 A17.out).mono ?_); (case side1 => exact cb HR607_3); (case side2 => exact HC607_3.out); (case side3 => exact cb HR607_4); (case side4 => exact HC607_4.out); rintro e w19 ⟨rfl, hb⟩; refine ⟨_, rfl, ?_⟩; have n0_ := bb BK605 hb; have n1_ := bes hb; clear BK605; clear HB; have BK605 := n0_; have HB := n1_; clear n0_ n1_; (try clear hb); (try clear hb2); (try clear hk); (try clear hi)))
           go_roundg k2
           case measure => have := HK1.out; have := HK2.out; omega
           case rel => exact ⟨(t608), (t609), (wrap64 (x11_2 + 1)), pv, pv, pv, H', ⟨by have := HK1.out; have := HK2.out; omega⟩, ⟨bt⟩, ⟨bel⟩⟩
          ·rw [if_neg c16] at H
           exact absurd H (by simp)
         ·rw [if_neg c15] at H
          have c15b0 : decide (0 ≤ x2_2) = false := decide_eq_false c15
          clear c15
          simp only [Option.some.injEq, Prod.mk.injEq] at H
          obtain ⟨rfl, rfl⟩ := H
          have hcz20_0 : wr.cell? ⟨gb605, 0, none⟩ = some (.int .i64 a0_0) := (blk_cell BK605.out 0).trans rfl
          have hcz20_1 : wr.cell? ⟨gb605, 1, none⟩ = some (.float .f64 a0_1) := (blk_cell BK605.out 1).trans rfl
          have hcz20_2 : wr.cell? ⟨gb605, 2, none⟩ = some (.string a0_2) := (blk_cell BK605.out 2).trans rfl
          have hcz20_3 : wr.cell? ⟨gb605, 3, none⟩ = some (.slice A0_3 l0_3.length c0_3) := (blk_cell BK605.out 3).trans rfl
          have hcz20_4 : wr.cell? ⟨gb605, 4, none⟩ = some (.slice A0_4 l0_4.length c0_4) := (blk_cell BK605.out 4).trans rfl
          have hfz20_0 := blk_frozen BK605.out 0
          have hfz20_1 := blk_frozen BK605.out 1
          have hfz20_2 := blk_frozen BK605.out 2
          have hfz20_3 := blk_frozen BK605.out 3
          have hfz20_4 := blk_frozen BK605.out 4
          go_wp2
          go_ret2
          exact fn
        ·rw [if_neg c14] at H
         have c14b0 : decide (0 ≤ x1_2) = false := decide_eq_false c14
         clear c14
         simp only [Option.some.injEq, Prod.mk.injEq] at H
         obtain ⟨rfl, rfl⟩ := H
         have hcz21_0 : wr.cell? ⟨gb605, 0, none⟩ = some (.int .i64 a0_0) := (blk_cell BK605.out 0).trans rfl
         have hcz21_1 : wr.cell? ⟨gb605, 1, none⟩ = some (.float .f64 a0_1) := (blk_cell BK605.out 1).trans rfl
         have hcz21_2 : wr.cell? ⟨gb605, 2, none⟩ = some (.string a0_2) := (blk_cell BK605.out 2).trans rfl
         have hcz21_3 : wr.cell? ⟨gb605, 3, none⟩ = some (.slice A0_3 l0_3.length c0_3) := (blk_cell BK605.out 3).trans rfl
         have hcz21_4 : wr.cell? ⟨gb605, 4, none⟩ = some (.slice A0_4 l0_4.length c0_4) := (blk_cell BK605.out 4).trans rfl
         have hfz21_0 := blk_frozen BK605.out 0
         have hfz21_1 := blk_frozen BK605.out 1
         have hfz21_2 := blk_frozen BK605.out 2
         have hfz21_3 := blk_frozen BK605.out 3
         have hfz21_4 := blk_frozen BK605.out 4
         go_wp2
         go_ret2
         exact fn
       ·rw [if_neg c13] at H
        have c13b0 : decide (x11_2 < (l0_3.length : Int)) = false := decide_eq_false c13
        clear c13
        simp only [Option.some.injEq, Prod.mk.injEq] at H
        obtain ⟨rfl, rfl⟩ := H
        have hcz22_0 : wr.cell? ⟨gb605, 0, none⟩ = some (.int .i64 a0_0) := (blk_cell BK605.out 0).trans rfl
        have hcz22_1 : wr.cell? ⟨gb605, 1, none⟩ = some (.float .f64 a0_1) := (blk_cell BK605.out 1).trans rfl
        have hcz22_2 : wr.cell? ⟨gb605, 2, none⟩ = some (.string a0_2) := (blk_cell BK605.out 2).trans rfl
        have hcz22_3 : wr.cell? ⟨gb605, 3, none⟩ = some (.slice A0_3 l0_3.length c0_3) := (blk_cell BK605.out 3).trans rfl
        have hcz22_4 : wr.cell? ⟨gb605, 4, none⟩ = some (.slice A0_4 l0_4.length c0_4) := (blk_cell BK605.out 4).trans rfl
        have hfz22_0 := blk_frozen BK605.out 0
        have hfz22_1 := blk_frozen BK605.out 1
        have hfz22_2 := blk_frozen BK605.out 2
        have hfz22_3 := blk_frozen BK605.out 3
        have hfz22_4 := blk_frozen BK605.out 4
        go_wp2
        go_ret2
        exact fn
end Go.Proofs.YtmpmbnmldmpmiaaGreatDoor.A
