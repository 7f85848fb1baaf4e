/- Printed by this session's own copy of the printer (wip/tools/mkprint.py): functions, and that the Go code answers as they do. -/
import Derived.Test.YtmpmbnmldmpmiaaGreatDoorShort
import Derived.Test.YtmpmbnmldmpmiaaGreatDoorA0
import Derived.Test.YtmpmbnmldmpmiaaGreatDoorA29
namespace Go.Proofs.YtmpmbnmldmpmiaaGreatDoor.A
open Go.RowKit Go.Proofs.YtmpmbnmldmpmiaaGreatDoorW.PrintWords Go.Proofs.YtmpmbnmldmpmiaaGreatDoorW.PrintLast Go.Proofs.YtmpmbnmldmpmiaaGreatDoorW.PrintMore Go.Proofs.YtmpmbnmldmpmiaaGreatDoorW.Short
attribute [local go_sem] max2_int min2_int max_two min_two max_three min_three max_four min_four   -- for this text's walks alone
set_option linter.unusedVariables false
set_option linter.unusedSimpArgs false
def colanderref03_Large.f (k : Nat) (a0_0 : Int) (a0_1 : Nat) (a0_2 : ByteArray) (l0_3 : List (S27)) (l0_4 : List ByteArray) : Option (Bool) := (colanderref03_room.f k a0_0 a0_1 a0_2 l0_3 l0_4 65536 1048576 10000).bind fun bt611 => (if bt611.1 < 0 then (some true) else (some (decide (bt611.2 < 0))))
set_option maxHeartbeats 8000000 in
set_option maxRecDepth 100000 in
theorem colanderref03_Large.calls (k : Nat) (a0_0 : Int) (a0_1 : Nat) (a0_2 : ByteArray) (A0_3 : Option Addr) (c0_3 : Nat) (l0_3 : List (S27)) (A0_4 : Option Addr) (c0_4 : Nat) (l0_4 : List ByteArray) (r : Bool) (w : World) (hr0_3 : Kd.C k27 w A0_3 l0_3.length l0_3) (hc0_3 : l0_3.length ≤ c0_3) (hr0_4 : Kd.C Kd.string w A0_4 l0_4.length l0_4) (hc0_4 : l0_4.length ≤ c0_4) (h : colanderref03_Large.f k a0_0 a0_1 a0_2 l0_3 l0_4 = some r) :
  Calls Tryz.prog 19 #[.agg #[.int .i64 a0_0, .float .f64 a0_1, .string a0_2, .slice A0_3 l0_3.length c0_3, .slice A0_4 l0_4.length c0_4]] w fun e w' => e = .returned (.bool r) ∧ Below w.heap.size w w' := by
 have hu27 := Tryz.underlying27
 have HR0_3 := Aside0.mk hr0_3
 have HC0_3 := Aside0.mk hc0_3
 clear hr0_3 hc0_3
 have HR0_4 := Aside0.mk hr0_4
 have HC0_4 := Aside0.mk hc0_4
 clear hr0_4 hc0_4
 have HB := Aside0.mk (Below.refl w.heap.size w)
 have H : ((colanderref03_room.f k a0_0 a0_1 a0_2 l0_3 l0_4 65536 1048576 10000).bind fun bt611 => (if bt611.1 < 0 then (some true) else (some (decide (bt611.2 < 0))))) = some r := h
 clear h
 replace H := Option.bind_eq_some_iff.mp H
 obtain ⟨⟨t611, t612⟩, A20, H⟩ := H
 replace H : (if t611 < 0 then (some true) else (some (decide (t612 < 0)))) = some r := H
 have A2 := Aside0.mk A20
 clear A20
 by_cases c3 : t611 < 0
 ·rw [if_pos c3] at H
  have c3b0 : decide (t611 < 0) = true := decide_eq_true c3
  clear c3
  obtain rfl := Option.some.inj H
  go_enter Tryz.func19, Tryz.ntmps19
  go_wp2_with (first | ((with_reducible refine gate_dst (N := 1) rfl ?_); refine box_event ?hg (N := 1) ?hd (cs := #[.int .i64 a0_0, .float .f64 a0_1, .string a0_2, .slice A0_3 l0_3.length c0_3, .slice A0_4 l0_4.length c0_4]) (t := 27) ?hr ?_; (case hd => rfl); (case hg => rfl); (case hr => first | (go_simp; done) | (go_simp; rfl)); intro gb610 hg w4 hbox hb; have n0_ := bes hb; have n1_ := Aside0.mk (hbox); have n2_ := Aside0.mk ((bez hg : w.heap.size ≤ gb610)); have n3_ := Aside0.mk ((bez hg : w.heap.size ≤ gb610)); clear HB; have HB := n0_; have BK610 := n1_; have GW610 := n2_; have GE610 := n3_; clear n0_ n1_ n2_ n3_; clear hb hbox hg; have hcz5_0 : w4.cell? ⟨gb610, 0, none⟩ = some (.int .i64 a0_0) := (blk_cell BK610.out 0).trans rfl; have hcz5_1 : w4.cell? ⟨gb610, 1, none⟩ = some (.float .f64 a0_1) := (blk_cell BK610.out 1).trans rfl; have hcz5_2 : w4.cell? ⟨gb610, 2, none⟩ = some (.string a0_2) := (blk_cell BK610.out 2).trans rfl; have hcz5_3 : w4.cell? ⟨gb610, 3, none⟩ = some (.slice A0_3 l0_3.length c0_3) := (blk_cell BK610.out 3).trans rfl; have hcz5_4 : w4.cell? ⟨gb610, 4, none⟩ = some (.slice A0_4 l0_4.length c0_4) := (blk_cell BK610.out 4).trans rfl; have hfz5_0 := blk_frozen BK610.out 0; have hfz5_1 := blk_frozen BK610.out 1; have hfz5_2 := blk_frozen BK610.out 2; have hfz5_3 := blk_frozen BK610.out 3; have hfz5_4 := blk_frozen BK610.out 4) | ((with_reducible refine gate_callee (f := 61) rfl ?_); refine goesL_ (some 7) rfl rfl Tryz.func61 (by kernel_rfl) rfl #[.agg #[.int .i64 a0_0, .float .f64 a0_1, .string a0_2, .slice A0_3 l0_3.length c0_3, .slice A0_4 l0_4.length c0_4], .int .i64 65536, .int .i64 1048576, .int .i64 10000] rfl am ?_; (with_reducible refine (colanderref03_room.calls k a0_0 a0_1 a0_2 _ _ l0_3 _ _ l0_4 65536 1048576 10000 t611 t612 _ ?side1 ?side2 ?side3 ?side4 A2.out).mono ?_); (case side1 => exact cb HR0_3); (case side2 => exact HC0_3.out); (case side3 => exact cb HR0_4); (case side4 => exact HC0_4.out); rintro e w6 ⟨rfl, hb⟩; refine ⟨_, rfl, ?_⟩; have n0_ := bb BK610 hb; have n1_ := bes hb; clear BK610; clear HB; have BK610 := n0_; have HB := n1_; clear n0_ n1_; (try clear hb); (try clear hb2); (try clear hk); (try clear hi)))
  go_ret
  exact fn
 ·rw [if_neg c3] at H
  have c3b0 : decide (t611 < 0) = false := decide_eq_false c3
  clear c3
  obtain rfl := Option.some.inj H
  go_enter Tryz.func19, Tryz.ntmps19
  go_wp2_with (first | ((with_reducible refine gate_dst (N := 1) rfl ?_); refine box_event ?hg (N := 1) ?hd (cs := #[.int .i64 a0_0, .float .f64 a0_1, .string a0_2, .slice A0_3 l0_3.length c0_3, .slice A0_4 l0_4.length c0_4]) (t := 27) ?hr ?_; (case hd => rfl); (case hg => rfl); (case hr => first | (go_simp; done) | (go_simp; rfl)); intro gb610 hg w7 hbox hb; have n0_ := bes hb; have n1_ := Aside0.mk (hbox); have n2_ := Aside0.mk ((bez hg : w.heap.size ≤ gb610)); have n3_ := Aside0.mk ((bez hg : w.heap.size ≤ gb610)); clear HB; have HB := n0_; have BK610 := n1_; have GW610 := n2_; have GE610 := n3_; clear n0_ n1_ n2_ n3_; clear hb hbox hg; have hcz8_0 : w7.cell? ⟨gb610, 0, none⟩ = some (.int .i64 a0_0) := (blk_cell BK610.out 0).trans rfl; have hcz8_1 : w7.cell? ⟨gb610, 1, none⟩ = some (.float .f64 a0_1) := (blk_cell BK610.out 1).trans rfl; have hcz8_2 : w7.cell? ⟨gb610, 2, none⟩ = some (.string a0_2) := (blk_cell BK610.out 2).trans rfl; have hcz8_3 : w7.cell? ⟨gb610, 3, none⟩ = some (.slice A0_3 l0_3.length c0_3) := (blk_cell BK610.out 3).trans rfl; have hcz8_4 : w7.cell? ⟨gb610, 4, none⟩ = some (.slice A0_4 l0_4.length c0_4) := (blk_cell BK610.out 4).trans rfl; have hfz8_0 := blk_frozen BK610.out 0; have hfz8_1 := blk_frozen BK610.out 1; have hfz8_2 := blk_frozen BK610.out 2; have hfz8_3 := blk_frozen BK610.out 3; have hfz8_4 := blk_frozen BK610.out 4) | ((with_reducible refine gate_callee (f := 61) rfl ?_); refine goesL_ (some 7) rfl rfl Tryz.func61 (by kernel_rfl) rfl #[.agg #[.int .i64 a0_0, .float .f64 a0_1, .string a0_2, .slice A0_3 l0_3.length c0_3, .slice A0_4 l0_4.length c0_4], .int .i64 65536, .int .i64 1048576, .int .i64 10000] rfl am ?_; (with_reducible refine (colanderref03_room.calls k a0_0 a0_1 a0_2 _ _ l0_3 _ _ l0_4 65536 1048576 10000 t611 t612 _ ?side1 ?side2 ?side3 ?side4 A2.out).mono ?_); (case side1 => exact cb HR0_3); (case side2 => exact HC0_3.out); (case side3 => exact cb HR0_4); (case side4 => exact HC0_4.out); rintro e w9 ⟨rfl, hb⟩; refine ⟨_, rfl, ?_⟩; have n0_ := bb BK610 hb; have n1_ := bes hb; clear BK610; clear HB; have BK610 := n0_; have HB := n1_; clear n0_ n1_; (try clear hb); (try clear hb2); (try clear hk); (try clear hi)))
  go_ret
  exact fn
end Go.Proofs.YtmpmbnmldmpmiaaGreatDoor.A
