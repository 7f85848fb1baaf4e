/- Printed by this session's own copy of the printer (wip/tools/mkprint.py): functions, and that the Go code answers as they do. -/
import Derived.Test.YtmpmbnmldmpmiaaGreatDoorShort
import Derived.Test.YtmpmbnmldmpmiaaGreatDoorA0
import Derived.Test.YtmpmbnmldmpmiaaGreatDoorA8
import Derived.Test.YtmpmbnmldmpmiaaGreatDoorA27
import Derived.Test.YtmpmbnmldmpmiaaGreatDoorA28
import Derived.Test.YtmpmbnmldmpmiaaGreatDoorA30
import Derived.Test.YtmpmbnmldmpmiaaGreatDoorHandHead
import Derived.Test.YtmpmbnmldmpmiaaGreatDoorHandLarge
namespace Go.Proofs.YtmpmbnmldmpmiaaGreatDoor.A
open Go.RowKit Go.Proofs.YtmpmbnmldmpmiaaGreatDoorW.PrintWords Go.Proofs.YtmpmbnmldmpmiaaGreatDoorW.PrintLast Go.Proofs.YtmpmbnmldmpmiaaGreatDoorW.PrintMore Go.Proofs.YtmpmbnmldmpmiaaGreatDoorW.Short
attribute [local go_sem] max2_int min2_int max_two min_two max_three min_three max_four min_four   -- for this text's walks alone
set_option linter.unusedVariables false
set_option linter.unusedSimpArgs false
@[reducible] def mkA31_0 : Array Bool := #[false, false, false, false, false, false, false, false, false, false, false, false, false, false, false, false, false, false, false, false, false]
@[reducible] def mkA31_1 : Array Bool := #[true, false, false, false, false, false, false, false, false, false, false, false, false, false, false, false, false, false, false, false, false]
@[reducible] def mkA31_2 : Array Bool := #[true, false, true, false, false, false, false, false, false, false, false, false, false, false, false, false, false, false, false, false, false]
@[reducible] def mkA31_3 : Array Bool := #[true, true, true, false, false, false, false, false, false, false, false, false, false, false, false, false, false, false, false, false, false]
@[reducible] def mkA31_4 : Array Bool := #[true, true, true, true, false, false, false, false, false, false, false, false, false, false, false, false, false, false, false, false, false]
@[reducible] def mkA31_5 : Array Bool := #[true, true, true, true, true, false, false, false, false, false, false, false, false, false, false, false, false, false, false, false, false]
@[reducible] def mkA31_6 : Array Bool := #[true, true, true, true, true, true, false, false, false, false, false, false, false, false, false, false, false, false, false, false, false]
@[reducible] def mkA31_7 : Array Bool := #[true, true, true, true, true, true, true, false, false, false, false, false, false, false, false, false, false, false, false, false, false]
@[reducible] def mkA31_8 : Array Bool := #[true, true, true, true, true, true, true, true, false, false, false, false, false, false, false, false, false, false, false, false, false]
@[reducible] def mkA31_9 : Array Bool := #[true, true, true, true, true, true, true, true, true, false, false, false, false, false, false, false, false, false, false, false, false]
@[reducible] def mkA31_10 : Array Bool := #[true, true, true, true, true, true, true, true, true, true, false, false, false, false, false, false, false, false, false, false, false]
@[reducible] def mkA31_11 : Array Bool := #[true, true, true, true, true, true, true, true, true, true, true, false, false, false, false, false, false, false, false, false, false]
@[reducible] def mkA31_12 : Array Bool := #[true, true, true, true, true, true, true, true, true, true, true, false, true, false, false, false, false, false, false, false, false]
@[reducible] def mkA31_13 : Array Bool := #[true, true, true, true, true, true, true, true, true, true, true, true, true, false, false, false, false, false, false, false, false]
@[reducible] def mkA31_14 : Array Bool := #[true, true, true, true, true, true, true, true, true, true, true, true, true, true, false, false, false, false, false, false, false]
@[reducible] def mkA31_15 : Array Bool := #[true, true, true, true, true, true, true, true, true, true, true, true, true, true, true, false, false, false, false, false, false]
@[reducible] def mkA31_16 : Array Bool := #[true, true, true, true, true, true, true, true, true, true, true, true, true, true, true, true, false, false, false, false, false]
@[reducible] def mkA31_17 : Array Bool := #[true, true, true, true, true, true, true, true, true, true, true, true, true, true, true, true, true, false, false, false, false]
@[reducible] def mkA31_18 : Array Bool := #[true, true, true, true, true, true, true, true, true, true, true, true, true, true, true, true, true, true, false, false, false]
@[reducible] def mkA31_19 : Array Bool := #[true, true, true, true, true, true, true, true, true, true, true, true, true, true, true, true, true, true, true, false, false]
@[reducible] def mkA31_20 : Array Bool := #[true, true, true, true, true, true, true, true, true, true, true, true, true, true, true, true, true, true, true, true, false]
@[reducible] def mkA31_21 : Array Bool := #[true, true, true, true, true, true, true, true, true, true, true, true, true, true, true, true, true, true, true, true, true]
@[reducible] def mkA31_22 : Array Bool := #[true, true, true, true, true, true, true, true, true, true, true, true, false, false, false, false, false, false, false, false, false]
def colanderlaw03_ValueRight.f (k : Nat) (a0_0 : Int) (a0_1 : Nat) (a0_2 : ByteArray) (l0_3 : List (S27)) (l0_4 : List ByteArray) : Option (Bool) := (colanderref03_Copy.f k a0_0 a0_1 a0_2 l0_3 l0_4).bind fun bt614 => ((value_Right.f k bt614.1 bt614.2.1 bt614.2.2.1 bt614.2.2.2.1 bt614.2.2.2.2).bind fun t624 => ((colanderref03_Right.f k a0_0 a0_1 a0_2 l0_3 l0_4).bind fun t625 => (if (t624 == t625) = true then ((colanderref03_Right.f k a0_0 a0_1 a0_2 l0_3 l0_4).bind fun t626 => (if t626 = true then ((value_Large.f k bt614.1 bt614.2.1 bt614.2.2.1 bt614.2.2.2.1 bt614.2.2.2.2).bind fun t627 => ((colanderref03_Large.f k a0_0 a0_1 a0_2 l0_3 l0_4).bind fun t628 => (if (t627 == t628) = true then ((colanderlaw03_heads.f).bind fun t629 => (some t629)) else (some false)))) else ((colanderlaw03_heads.f).bind fun t630 => (some t630)))) else (some false))))
def colanderlaw03_ValueRight.T2 : Bool × List (List Nat × List Nat) := (true, [([], []), ([0], [0]), ([], []), ([2, 1], [2]), ([1, 3], [1, 3]), ([4, 3], [4]), ([5], [5]), ([6, 5, 5], [5, 6]), ([7, 5], [5, 7]), ([8, 7, 5], [5, 8]), ([9], [9]), ([10, 9, 9], [9, 10]), ([9], [9]), ([12, 11, 9], [9, 12]), ([11, 13, 9], [9, 11, 13]), ([9, 14, 5], [5, 9, 14]), ([5, 15], [5, 15]), ([16, 13], [16]), ([17, 17], [17]), ([17, 18], [17, 18]), ([19, 18, 0, 1, 2, 3, 4, 5, 6, 7, 8, 9, 10, 11, 12, 13, 14, 15, 16, 17, 18, 19], [19])])
def colanderlaw03_ValueRight.B2 : List Nat := [0, 1, 0, 7, 15, 31, 63, 127, 255, 511, 1023, 2047, 1023, 8191, 16383, 32767, 65535, 131071, 262143, 524287, 1048575]
theorem colanderlaw03_ValueRight.tab2 : rtab .any (opsOf Tryz.f4 2) = colanderlaw03_ValueRight.T2 := by kernel_rfl
theorem colanderlaw03_ValueRight.bits2 : waitsOk colanderlaw03_ValueRight.T2.2 colanderlaw03_ValueRight.B2 = true := by kernel_rfl
set_option maxHeartbeats 8000000 in
set_option maxRecDepth 100000 in
theorem colanderlaw03_ValueRight.calls (k : Nat) (a0_0 : Int) (a0_1 : Nat) (a0_2 : ByteArray) (A0_3 : Option Addr) (c0_3 : Nat) (l0_3 : List (S27)) (A0_4 : Option Addr) (c0_4 : Nat) (l0_4 : List ByteArray) (r : Bool) (w : World) (hr0_3 : Kd.C k27 w A0_3 l0_3.length l0_3) (hc0_3 : l0_3.length ≤ c0_3) (hr0_4 : Kd.C Kd.string w A0_4 l0_4.length l0_4) (hc0_4 : l0_4.length ≤ c0_4) (hT : Tabs w) (h : colanderlaw03_ValueRight.f k a0_0 a0_1 a0_2 l0_3 l0_4 = some r) :
  Calls Tryz.prog 4 #[.agg #[.int .i64 a0_0, .float .f64 a0_1, .string a0_2, .slice A0_3 l0_3.length c0_3, .slice A0_4 l0_4.length c0_4]] w fun e w' => e = .returned (.bool r) ∧ Below w.heap.size w w' := by
 have hu27 := Tryz.underlying27
 have HR0_3 := Aside0.mk hr0_3
 have HC0_3 := Aside0.mk hc0_3
 clear hr0_3 hc0_3
 have HR0_4 := Aside0.mk hr0_4
 have HC0_4 := Aside0.mk hc0_4
 clear hr0_4 hc0_4
 have HB := Aside0.mk (Below.refl w.heap.size w)
 have H : ((colanderref03_Copy.f k a0_0 a0_1 a0_2 l0_3 l0_4).bind fun bt614 => ((value_Right.f k bt614.1 bt614.2.1 bt614.2.2.1 bt614.2.2.2.1 bt614.2.2.2.2).bind fun t624 => ((colanderref03_Right.f k a0_0 a0_1 a0_2 l0_3 l0_4).bind fun t625 => (if (t624 == t625) = true then ((colanderref03_Right.f k a0_0 a0_1 a0_2 l0_3 l0_4).bind fun t626 => (if t626 = true then ((value_Large.f k bt614.1 bt614.2.1 bt614.2.2.1 bt614.2.2.2.1 bt614.2.2.2.2).bind fun t627 => ((colanderref03_Large.f k a0_0 a0_1 a0_2 l0_3 l0_4).bind fun t628 => (if (t627 == t628) = true then ((colanderlaw03_heads.f).bind fun t629 => (some t629)) else (some false)))) else ((colanderlaw03_heads.f).bind fun t630 => (some t630)))) else (some false))))) = some r := h
 clear h
 replace H := Option.bind_eq_some_iff.mp H
 obtain ⟨⟨t614, t615, t616, t617, t620⟩, A20, H⟩ := H
 replace H : ((value_Right.f k t614 t615 t616 t617 t620).bind fun t624 => ((colanderref03_Right.f k a0_0 a0_1 a0_2 l0_3 l0_4).bind fun t625 => (if (t624 == t625) = true then ((colanderref03_Right.f k a0_0 a0_1 a0_2 l0_3 l0_4).bind fun t626 => (if t626 = true then ((value_Large.f k t614 t615 t616 t617 t620).bind fun t627 => ((colanderref03_Large.f k a0_0 a0_1 a0_2 l0_3 l0_4).bind fun t628 => (if (t627 == t628) = true then ((colanderlaw03_heads.f).bind fun t629 => (some t629)) else (some false)))) else ((colanderlaw03_heads.f).bind fun t630 => (some t630)))) else (some false)))) = some r := H
 have A2 := Aside0.mk A20
 clear A20
 replace H := Option.bind_eq_some_iff.mp H
 obtain ⟨t624, A30, H⟩ := H
 replace H : ((colanderref03_Right.f k a0_0 a0_1 a0_2 l0_3 l0_4).bind fun t625 => (if (t624 == t625) = true then ((colanderref03_Right.f k a0_0 a0_1 a0_2 l0_3 l0_4).bind fun t626 => (if t626 = true then ((value_Large.f k t614 t615 t616 t617 t620).bind fun t627 => ((colanderref03_Large.f k a0_0 a0_1 a0_2 l0_3 l0_4).bind fun t628 => (if (t627 == t628) = true then ((colanderlaw03_heads.f).bind fun t629 => (some t629)) else (some false)))) else ((colanderlaw03_heads.f).bind fun t630 => (some t630)))) else (some false))) = some r := H
 have A3 := Aside0.mk A30
 clear A30
 replace H := Option.bind_eq_some_iff.mp H
 obtain ⟨t625, A40, H⟩ := H
 replace H : (if (t624 == t625) = true then ((colanderref03_Right.f k a0_0 a0_1 a0_2 l0_3 l0_4).bind fun t626 => (if t626 = true then ((value_Large.f k t614 t615 t616 t617 t620).bind fun t627 => ((colanderref03_Large.f k a0_0 a0_1 a0_2 l0_3 l0_4).bind fun t628 => (if (t627 == t628) = true then ((colanderlaw03_heads.f).bind fun t629 => (some t629)) else (some false)))) else ((colanderlaw03_heads.f).bind fun t630 => (some t630)))) else (some false)) = some r := H
 have A4 := Aside0.mk A40
 clear A40
 by_cases c5 : (t624 == t625) = true
 ·rw [if_pos c5] at H
  have c5b0 : (t624 == t625) = true := c5
  (try (have c5b1 : decide (t624 = t625) = true := by simpa using c5))
  (try (have c5b2 : (t624 == t625) = true := by simpa using c5))
  clear c5
  replace H := Option.bind_eq_some_iff.mp H
  obtain ⟨t626, A60, H⟩ := H
  replace H : (if t626 = true then ((value_Large.f k t614 t615 t616 t617 t620).bind fun t627 => ((colanderref03_Large.f k a0_0 a0_1 a0_2 l0_3 l0_4).bind fun t628 => (if (t627 == t628) = true then ((colanderlaw03_heads.f).bind fun t629 => (some t629)) else (some false)))) else ((colanderlaw03_heads.f).bind fun t630 => (some t630))) = some r := H
  have A6 := Aside0.mk A60
  clear A60
  by_cases c7 : t626 = true
  ·subst c7
   have H1 : ((value_Large.f k t614 t615 t616 t617 t620).bind fun t627 => ((colanderref03_Large.f k a0_0 a0_1 a0_2 l0_3 l0_4).bind fun t628 => (if (t627 == t628) = true then ((colanderlaw03_heads.f).bind fun t629 => (some t629)) else (some false)))) = some r := by rw [if_pos rfl] at H; exact H
   clear H
   have H := H1
   clear H1
   replace H := Option.bind_eq_some_iff.mp H
   obtain ⟨t627, A80, H⟩ := H
   replace H : ((colanderref03_Large.f k a0_0 a0_1 a0_2 l0_3 l0_4).bind fun t628 => (if (t627 == t628) = true then ((colanderlaw03_heads.f).bind fun t629 => (some t629)) else (some false))) = some r := H
   have A8 := Aside0.mk A80
   clear A80
   replace H := Option.bind_eq_some_iff.mp H
   obtain ⟨t628, A90, H⟩ := H
   replace H : (if (t627 == t628) = true then ((colanderlaw03_heads.f).bind fun t629 => (some t629)) else (some false)) = some r := H
   have A9 := Aside0.mk A90
   clear A90
   by_cases c10 : (t627 == t628) = true
   ·rw [if_pos c10] at H
    have c10b0 : (t627 == t628) = true := c10
    (try (have c10b1 : decide (t627 = t628) = true := by simpa using c10))
    (try (have c10b2 : (t627 == t628) = true := by simpa using c10))
    clear c10
    replace H := Option.bind_eq_some_iff.mp H
    obtain ⟨t629, A110, H⟩ := H
    replace H : (some t629) = some r := H
    have A11 := Aside0.mk A110
    clear A110
    obtain rfl := Option.some.inj H
    go_enter Tryz.func4, Tryz.ntmps4
    try go_wp2_with (first | ((with_reducible refine gate_dst (N := 1) rfl ?_); refine box_event ?hg (N := 1) ?hd (cs := #[.int .i64 a0_0, .float .f64 a0_1, .string a0_2, .slice A0_3 l0_3.length c0_3, .slice A0_4 l0_4.length c0_4]) (t := 27) ?hr ?_; (case hd => rfl); (case hg => rfl); (case hr => first | (go_simp; done) | (go_simp; rfl)); intro gb613 hg w12 hbox hb; have n0_ := bes hb; have n1_ := Aside0.mk (hbox); have n2_ := Aside0.mk ((bez hg : w.heap.size ≤ gb613)); have n3_ := Aside0.mk ((bez hg : w.heap.size ≤ gb613)); clear HB; have HB := n0_; have BK613 := n1_; have GW613 := n2_; have GE613 := n3_; clear n0_ n1_ n2_ n3_; clear hb hbox hg; have hcz13_0 : w12.cell? ⟨gb613, 0, none⟩ = some (.int .i64 a0_0) := (blk_cell BK613.out 0).trans rfl; have hcz13_1 : w12.cell? ⟨gb613, 1, none⟩ = some (.float .f64 a0_1) := (blk_cell BK613.out 1).trans rfl; have hcz13_2 : w12.cell? ⟨gb613, 2, none⟩ = some (.string a0_2) := (blk_cell BK613.out 2).trans rfl; have hcz13_3 : w12.cell? ⟨gb613, 3, none⟩ = some (.slice A0_3 l0_3.length c0_3) := (blk_cell BK613.out 3).trans rfl; have hcz13_4 : w12.cell? ⟨gb613, 4, none⟩ = some (.slice A0_4 l0_4.length c0_4) := (blk_cell BK613.out 4).trans rfl; have hfz13_0 := blk_frozen BK613.out 0; have hfz13_1 := blk_frozen BK613.out 1; have hfz13_2 := blk_frozen BK613.out 2; have hfz13_3 := blk_frozen BK613.out 3; have hfz13_4 := blk_frozen BK613.out 4) | ((with_reducible refine gate_callee (f := 16) rfl ?_); refine goesL_ (some 5) rfl rfl Tryz.func16 (by kernel_rfl) rfl #[.agg #[.int .i64 a0_0, .float .f64 a0_1, .string a0_2, .slice A0_3 l0_3.length c0_3, .slice A0_4 l0_4.length c0_4]] rfl am ?_; (with_reducible refine (colanderref03_Copy.calls k a0_0 a0_1 a0_2 _ _ l0_3 _ _ l0_4 t614 t615 t616 t617 t620 _ ?side1 ?side2 ?side3 ?side4 A2.out).mono ?_); (case side1 => exact cb HR0_3); (case side2 => exact HC0_3.out); (case side3 => exact cb HR0_4); (case side4 => exact HC0_4.out); rintro e w14 ⟨v618, v621, rfl, ho0, ho1, hb⟩; refine ⟨_, rfl, ?_⟩; have n0_ := Aside0.mk (Kd.R_lower (Kd.R_newB ho0 (g := gb613) (o := .cells #[.int .i64 a0_0, .float .f64 a0_1, .string a0_2, .slice A0_3 l0_3.length c0_3, .slice A0_4 l0_4.length c0_4] 27 (0, 0)) bt) (below_size bel)); have n1_ := Aside0.mk (Kd.R_lower ho1 (below_size bel)); have n2_ := bb BK613 hb; have n3_ := bes hb; clear BK613; clear HB; have HO619 := n0_; have HO622 := n1_; have BK613 := n2_; have HB := n3_; clear n0_ n1_ n2_ n3_; (try clear hb); (try clear hb2); (try clear hk); (try clear hi); (try clear ho0); (try clear ho1)) | ((with_reducible refine gate_dst (N := 3) rfl ?_); refine box_event ?hg (N := 3) ?hd (cs := #[.int .i64 0, .float .f64 0, .string (⟨#[]⟩ : ByteArray), .slice none 0 0, .slice none 0 0]) (t := 27) ?hr ?_; (case hd => rfl); (case hg => rfl); (case hr => first | (go_simp; done) | (go_simp; rfl)); intro gb623 hg w15 hbox hb; have n0_ := Aside0.mk (Kd.R_below (Kd.R_elderB (rt HO619) gb623 (Nat.le_of_eq hg.symm)) hb); have n1_ := Aside0.mk (Kd.R_below (rt HO622) hb); have n2_ := bb BK613 hb; have n3_ := bes hb; have n4_ := Aside0.mk (hbox); have n5_ := Aside0.mk ((bez hg : w.heap.size ≤ gb623)); have n6_ := Aside0.mk ((bez hg : w.heap.size ≤ gb623)); have n7_ := Aside0.mk ((by rw [hg]; exact Nat.ne_of_lt (blk_lt (g := gb613) (o := .cells #[.int .i64 a0_0, .float .f64 a0_1, .string a0_2, .slice A0_3 l0_3.length c0_3, .slice A0_4 l0_4.length c0_4] 27 (0, 0)) bt) : gb613 ≠ gb623)); have n8_ := Aside0.mk ((by rw [hg]; exact Nat.ne_of_gt (blk_lt (g := gb613) (o := .cells #[.int .i64 a0_0, .float .f64 a0_1, .string a0_2, .slice A0_3 l0_3.length c0_3, .slice A0_4 l0_4.length c0_4] 27 (0, 0)) bt) : gb623 ≠ gb613)); clear HO619; clear HO622; clear BK613; clear HB; have HO619 := n0_; have HO622 := n1_; have BK613 := n2_; have HB := n3_; have BK623 := n4_; have GW623 := n5_; have GE623 := n6_; have NB613_623 := n7_; have NB623_613 := n8_; clear n0_ n1_ n2_ n3_ n4_ n5_ n6_ n7_ n8_; clear hb hbox hg; have hnb16 := NB623_613.out; have hnc16 := NB613_623.out; have hcz17_0 : w15.cell? ⟨gb623, 0, none⟩ = some (.int .i64 0) := (blk_cell BK623.out 0).trans rfl; have hcz17_1 : w15.cell? ⟨gb623, 1, none⟩ = some (.float .f64 0) := (blk_cell BK623.out 1).trans rfl; have hcz17_2 : w15.cell? ⟨gb623, 2, none⟩ = some (.string (⟨#[]⟩ : ByteArray)) := (blk_cell BK623.out 2).trans rfl; have hcz17_3 : w15.cell? ⟨gb623, 3, none⟩ = some (.slice none 0 0) := (blk_cell BK623.out 3).trans rfl; have hcz17_4 : w15.cell? ⟨gb623, 4, none⟩ = some (.slice none 0 0) := (blk_cell BK623.out 4).trans rfl; have hfz17_0 := blk_frozen BK623.out 0; have hfz17_1 := blk_frozen BK623.out 1; have hfz17_2 := blk_frozen BK623.out 2; have hfz17_3 := blk_frozen BK623.out 3; have hfz17_4 := blk_frozen BK623.out 4; obtain ⟨Ao18, co18, eo18⟩ := Kd.R_slice HO619.out; subst eo18; obtain ⟨Ao19, co19, eo19⟩ := Kd.R_slice HO622.out; subst eo19))
    have n0_ : Aside0 (Kd.R k27 27 (((((w15.setCell ⟨gb623, 0, none⟩ (.int .i64 t614)).setCell ⟨gb623, 1, none⟩ (.float .f64 t615)).setCell ⟨gb623, 2, none⟩ (.string t616)).setCell ⟨gb623, 3, none⟩ (.slice Ao18 t617.length co18)).setCell ⟨gb623, 4, none⟩ (.slice Ao19 t620.length co19)) w.heap.size (fun k_ => some k_ ≠ (.slice Ao19 t620.length co19 : Value).ownBlock ∧ k_ ≠ gb613 ∧ k_ ≠ gb623) (.slice Ao18 t617.length co18) t617) := ⟨by (with_reducible repeat (first | apply Kd.R_alloc | apply Kd.R_drewN | apply Kd.R_drew)); exact Kd.R_mono (Kd.R_far (p := ⟨gb623, 4, none⟩) (Kd.R_far (p := ⟨gb623, 3, none⟩) (Kd.R_far (p := ⟨gb623, 2, none⟩) (Kd.R_far (p := ⟨gb623, 1, none⟩) (Kd.R_far (p := ⟨gb623, 0, none⟩) (Kd.R_mono HO619.out (fun k_ hk => (⟨hk, hk.2⟩ : _ ∧ k_ ≠ gb623))) (fun _ hk => hk.2) (.int .i64 t614)) (fun _ hk => hk.2) (.float .f64 t615)) (fun _ hk => hk.2) (.string t616)) (fun _ hk => hk.2) (.slice Ao18 t617.length co18)) (fun _ hk => hk.2) (.slice Ao19 t620.length co19)) (fun _ hk => ⟨hk.1.1.1, ⟨hk.1.1.2, hk.1.2⟩⟩)⟩
    have n1_ : Aside0 (Kd.R Kd.string 9 (((((w15.setCell ⟨gb623, 0, none⟩ (.int .i64 t614)).setCell ⟨gb623, 1, none⟩ (.float .f64 t615)).setCell ⟨gb623, 2, none⟩ (.string t616)).setCell ⟨gb623, 3, none⟩ (.slice Ao18 t617.length co18)).setCell ⟨gb623, 4, none⟩ (.slice Ao19 t620.length co19)) w.heap.size (fun _ => True) (.slice Ao19 t620.length co19) t620) := ⟨by (with_reducible repeat (first | apply Kd.R_alloc | apply Kd.R_drewN | apply Kd.R_drew)); exact Kd.R_mono (Kd.R_far (p := ⟨gb623, 4, none⟩) (Kd.R_far (p := ⟨gb623, 3, none⟩) (Kd.R_far (p := ⟨gb623, 2, none⟩) (Kd.R_far (p := ⟨gb623, 1, none⟩) (Kd.R_far (p := ⟨gb623, 0, none⟩) (Kd.R_types HO622.out BK623.out (by decide)) (fun _ hk => hk.2) (.int .i64 t614)) (fun _ hk => hk.2) (.float .f64 t615)) (fun _ hk => hk.2) (.string t616)) (fun _ hk => hk.2) (.slice Ao18 t617.length co18)) (fun _ hk => hk.2) (.slice Ao19 t620.length co19)) (fun _ hk => trivial)⟩
    have n2_ : Aside0 ((((((w15.setCell ⟨gb623, 0, none⟩ (.int .i64 t614)).setCell ⟨gb623, 1, none⟩ (.float .f64 t615)).setCell ⟨gb623, 2, none⟩ (.string t616)).setCell ⟨gb623, 3, none⟩ (.slice Ao18 t617.length co18)).setCell ⟨gb623, 4, none⟩ (.slice Ao19 t620.length co19)).heap[gb613]? = some (.cells #[.int .i64 a0_0, .float .f64 a0_1, .string a0_2, .slice A0_3 l0_3.length c0_3, .slice A0_4 l0_4.length c0_4] 27 (0, 0))) := ⟨bt⟩
    have n3_ : Aside0 ((((((w15.setCell ⟨gb623, 0, none⟩ (.int .i64 t614)).setCell ⟨gb623, 1, none⟩ (.float .f64 t615)).setCell ⟨gb623, 2, none⟩ (.string t616)).setCell ⟨gb623, 3, none⟩ (.slice Ao18 t617.length co18)).setCell ⟨gb623, 4, none⟩ (.slice Ao19 t620.length co19)).heap[gb623]? = some (.cells #[.int .i64 t614, .float .f64 t615, .string t616, .slice Ao18 t617.length co18, .slice Ao19 t620.length co19] 27 (0, 0))) := ⟨bt⟩
    have n4_ : Aside0 (Below w.heap.size w (((((w15.setCell ⟨gb623, 0, none⟩ (.int .i64 t614)).setCell ⟨gb623, 1, none⟩ (.float .f64 t615)).setCell ⟨gb623, 2, none⟩ (.string t616)).setCell ⟨gb623, 3, none⟩ (.slice Ao18 t617.length co18)).setCell ⟨gb623, 4, none⟩ (.slice Ao19 t620.length co19))) := ⟨bel⟩
    (try clear HO619)
    (try clear HO622)
    (try clear BK613)
    (try clear BK623)
    (try clear HB)
    generalize (((((w15.setCell ⟨gb623, 0, none⟩ (.int .i64 t614)).setCell ⟨gb623, 1, none⟩ (.float .f64 t615)).setCell ⟨gb623, 2, none⟩ (.string t616)).setCell ⟨gb623, 3, none⟩ (.slice Ao18 t617.length co18)).setCell ⟨gb623, 4, none⟩ (.slice Ao19 t620.length co19)) = w20 at n0_ n1_ n2_ n3_ n4_ ⊢
    have HO619 := n0_
    have HO622 := n1_
    have BK613 := n2_
    have BK623 := n3_
    have HB := n4_
    clear n0_ n1_ n2_ n3_ n4_
    have n0_ := Aside0.mk (Kd.R_drew HO619.out)
    have n1_ := Aside0.mk (Kd.R_drew HO622.out)
    have n2_ := Aside0.mk (blk_drew BK613.out)
    have n3_ := Aside0.mk (blk_drew BK623.out)
    have n4_ := Aside0.mk (below_drew1 HB.out)
    clear HO619
    clear HO622
    clear BK613
    clear BK623
    clear HB
    have HO619 := n0_
    have HO622 := n1_
    have BK613 := n2_
    have BK623 := n3_
    have HB := n4_
    clear n0_ n1_ n2_ n3_ n4_
    refine start_ (n := 21) (S := fun w' => w'.cell? ⟨gb623, 0, none⟩ = some (.int .i64 t614) ∧ w'.cell? ⟨gb623, 1, none⟩ = some (.float .f64 t615) ∧ w'.cell? ⟨gb623, 2, none⟩ = some (.string t616) ∧ w'.cell? ⟨gb623, 3, none⟩ = some (.slice Ao18 t617.length co18) ∧ w'.cell? ⟨gb623, 4, none⟩ = some (.slice Ao19 t620.length co19) ∧ w'.cell? ⟨gb613, 0, none⟩ = some (.int .i64 a0_0) ∧ w'.cell? ⟨gb613, 1, none⟩ = some (.float .f64 a0_1) ∧ w'.cell? ⟨gb613, 2, none⟩ = some (.string a0_2) ∧ w'.cell? ⟨gb613, 3, none⟩ = some (.slice A0_3 l0_3.length c0_3) ∧ w'.cell? ⟨gb613, 4, none⟩ = some (.slice A0_4 l0_4.length c0_4)) (ds := []) mkA31_0 (by kernel_rfl) rfl rfl ⟨(blk_cell BK623.out 0).trans rfl, (blk_cell BK623.out 1).trans rfl, (blk_cell BK623.out 2).trans rfl, (blk_cell BK623.out 3).trans rfl, (blk_cell BK623.out 4).trans rfl, (blk_cell BK613.out 0).trans rfl, (blk_cell BK613.out 1).trans rfl, (blk_cell BK613.out 2).trans rfl, (blk_cell BK613.out 3).trans rfl, (blk_cell BK613.out 4).trans rfl⟩ (fun hHeld => ?_); refine with_tabW colanderlaw03_ValueRight.tab2 colanderlaw03_ValueRight.bits2 (fun HT_ HW_ => ?_)
    generalize w20.drew = w21 at HO619 HO622 BK613 BK623 HB hHeld ⊢
    refine tq 0 6 mkA31_1 ?_
    refine tq 2 8 mkA31_2 ?_
    refine one_ (i := 1) (N := some 7) mkA31_3 rfl rfl (one_of HT_.out (by kernel_rfl)) (by decide) (fun K hK => ?_)
    refine goes_ Tryz.func17 (by kernel_rfl) rfl #[.agg #[.int .i64 t614, .float .f64 t615, .string t616, .slice Ao18 t617.length co18, .slice Ao19 t620.length co19]] (by rfl) rfl rfl am ?_
    with_reducible refine (value_Right.calls k t614 t615 t616 _ _ t617 _ _ t620 t624 _ ?side1 ?side2 ?side3 ?side4 ?side5 A3.out).mono ?_
    (case side1 => repeat (first | exact (Kd.R_reads' HO619.out).2.2 | (with_reducible refine Kd.C_alloc ?_ _) | (with_reducible refine Kd.C_drewN ?_ _) | (with_reducible refine Kd.C_drew ?_)))
    (case side2 => exact (Kd.R_reads' HO619.out).2.1)
    (case side3 => repeat (first | exact (Kd.R_reads' HO622.out).2.2 | (with_reducible refine Kd.C_alloc ?_ _) | (with_reducible refine Kd.C_drewN ?_ _) | (with_reducible refine Kd.C_drew ?_)))
    (case side4 => exact (Kd.R_reads' HO622.out).2.1)
    (case side5 => first | exact hT | exact tabs_below hT bel)
    rintro e w22 ⟨rfl, hb⟩
    refine ⟨_, rfl, ?_⟩
    have n0_ := Aside0.mk (Kd.R_below (rt HO619) hb)
    have n1_ := Aside0.mk (Kd.R_below (rt HO622) hb)
    have n2_ := bb BK613 hb
    have n3_ := bb BK623 hb
    have n4_ := bes hb
    clear HO619
    clear HO622
    clear BK613
    clear BK623
    clear HB
    have HO619 := n0_
    have HO622 := n1_
    have BK613 := n2_
    have BK623 := n3_
    have HB := n4_
    clear n0_ n1_ n2_ n3_ n4_
    (try clear hb)
    (try clear hb2)
    (try clear hk)
    (try clear hi)
    refine hK.out _ _ ⟨(blk_cell BK623.out 0).trans rfl, (blk_cell BK623.out 1).trans rfl, (blk_cell BK623.out 2).trans rfl, (blk_cell BK623.out 3).trans rfl, (blk_cell BK623.out 4).trans rfl, (blk_cell BK613.out 0).trans rfl, (blk_cell BK613.out 1).trans rfl, (blk_cell BK613.out 2).trans rfl, (blk_cell BK613.out 3).trans rfl, (blk_cell BK613.out 4).trans rfl⟩ (fun hHeld => ?_)
    clear hK K
    refine norm_ (a' := ?_) ?_ ?_
    rotate_left
    ·show Act.put _ (some 7) _ = _
     simp only [Act.put, List.setIfInBounds_toArray, List.set_cons_zero, List.set_cons_succ, i64_w, i32_w]
     rfl
    refine one_ (i := 3) (N := some 9) mkA31_4 rfl rfl (one_of HT_.out (by kernel_rfl)) (by decide) (fun K hK => ?_)
    refine goes_ Tryz.func11 (by kernel_rfl) rfl #[.agg #[.int .i64 a0_0, .float .f64 a0_1, .string a0_2, .slice A0_3 l0_3.length c0_3, .slice A0_4 l0_4.length c0_4]] (by rfl) rfl rfl am ?_
    with_reducible refine (colanderref03_Right.calls k a0_0 a0_1 a0_2 _ _ l0_3 _ _ l0_4 t625 _ ?side1 ?side2 ?side3 ?side4 A4.out).mono ?_
    (case side1 => exact cb HR0_3)
    (case side2 => exact HC0_3.out)
    (case side3 => exact cb HR0_4)
    (case side4 => exact HC0_4.out)
    rintro e w23 ⟨rfl, hb⟩
    refine ⟨_, rfl, ?_⟩
    have n0_ := Aside0.mk (Kd.R_below (rt HO619) hb)
    have n1_ := Aside0.mk (Kd.R_below (rt HO622) hb)
    have n2_ := bb BK613 hb
    have n3_ := bb BK623 hb
    have n4_ := bes hb
    clear HO619
    clear HO622
    clear BK613
    clear BK623
    clear HB
    have HO619 := n0_
    have HO622 := n1_
    have BK613 := n2_
    have BK623 := n3_
    have HB := n4_
    clear n0_ n1_ n2_ n3_ n4_
    (try clear hb)
    (try clear hb2)
    (try clear hk)
    (try clear hi)
    refine hK.out _ _ ⟨(blk_cell BK623.out 0).trans rfl, (blk_cell BK623.out 1).trans rfl, (blk_cell BK623.out 2).trans rfl, (blk_cell BK623.out 3).trans rfl, (blk_cell BK623.out 4).trans rfl, (blk_cell BK613.out 0).trans rfl, (blk_cell BK613.out 1).trans rfl, (blk_cell BK613.out 2).trans rfl, (blk_cell BK613.out 3).trans rfl, (blk_cell BK613.out 4).trans rfl⟩ (fun hHeld => ?_)
    clear hK K
    refine norm_ (a' := ?_) ?_ ?_
    rotate_left
    ·show Act.put _ (some 9) _ = _
     simp only [Act.put, List.setIfInBounds_toArray, List.set_cons_zero, List.set_cons_succ, i64_w, i32_w]
     rfl
    refine pq 4 10 mkA31_5 ?_
    refine pq 5 11 mkA31_6 ?_
    refine tq 6 12 mkA31_7 ?_
    refine one_ (i := 7) (N := some 13) mkA31_8 rfl rfl (one_of HT_.out (by kernel_rfl)) (by decide) (fun K hK => ?_)
    refine goes_ Tryz.func11 (by kernel_rfl) rfl #[.agg #[.int .i64 a0_0, .float .f64 a0_1, .string a0_2, .slice A0_3 l0_3.length c0_3, .slice A0_4 l0_4.length c0_4]] (by rfl) rfl rfl am ?_
    with_reducible refine (colanderref03_Right.calls k a0_0 a0_1 a0_2 _ _ l0_3 _ _ l0_4 true _ ?side1 ?side2 ?side3 ?side4 A6.out).mono ?_
    (case side1 => exact cb HR0_3)
    (case side2 => exact HC0_3.out)
    (case side3 => exact cb HR0_4)
    (case side4 => exact HC0_4.out)
    rintro e w24 ⟨rfl, hb⟩
    refine ⟨_, rfl, ?_⟩
    have n0_ := Aside0.mk (Kd.R_below (rt HO619) hb)
    have n1_ := Aside0.mk (Kd.R_below (rt HO622) hb)
    have n2_ := bb BK613 hb
    have n3_ := bb BK623 hb
    have n4_ := bes hb
    clear HO619
    clear HO622
    clear BK613
    clear BK623
    clear HB
    have HO619 := n0_
    have HO622 := n1_
    have BK613 := n2_
    have BK623 := n3_
    have HB := n4_
    clear n0_ n1_ n2_ n3_ n4_
    (try clear hb)
    (try clear hb2)
    (try clear hk)
    (try clear hi)
    refine hK.out _ _ ⟨(blk_cell BK623.out 0).trans rfl, (blk_cell BK623.out 1).trans rfl, (blk_cell BK623.out 2).trans rfl, (blk_cell BK623.out 3).trans rfl, (blk_cell BK623.out 4).trans rfl, (blk_cell BK613.out 0).trans rfl, (blk_cell BK613.out 1).trans rfl, (blk_cell BK613.out 2).trans rfl, (blk_cell BK613.out 3).trans rfl, (blk_cell BK613.out 4).trans rfl⟩ (fun hHeld => ?_)
    clear hK K
    refine norm_ (a' := ?_) ?_ ?_
    rotate_left
    ·show Act.put _ (some 13) _ = _
     simp only [Act.put, List.setIfInBounds_toArray, List.set_cons_zero, List.set_cons_succ, i64_w, i32_w]
     rfl
    refine pq 8 14 mkA31_9 ?_
    refine pq 9 15 mkA31_10 ?_
    refine tq 10 16 mkA31_11 ?_
    refine tq 12 18 mkA31_12 ?_
    refine one_ (i := 11) (N := some 17) mkA31_13 rfl rfl (one_of HT_.out (by kernel_rfl)) (by decide) (fun K hK => ?_)
    refine goes_ Tryz.func18 (by kernel_rfl) rfl #[.agg #[.int .i64 t614, .float .f64 t615, .string t616, .slice Ao18 t617.length co18, .slice Ao19 t620.length co19]] (by rfl) rfl rfl am ?_
    with_reducible refine (value_Large.calls k t614 t615 t616 _ _ t617 _ _ t620 t627 _ ?side1 ?side2 ?side3 ?side4 A8.out).mono ?_
    (case side1 => repeat (first | exact (Kd.R_reads' HO619.out).2.2 | (with_reducible refine Kd.C_alloc ?_ _) | (with_reducible refine Kd.C_drewN ?_ _) | (with_reducible refine Kd.C_drew ?_)))
    (case side2 => exact (Kd.R_reads' HO619.out).2.1)
    (case side3 => repeat (first | exact (Kd.R_reads' HO622.out).2.2 | (with_reducible refine Kd.C_alloc ?_ _) | (with_reducible refine Kd.C_drewN ?_ _) | (with_reducible refine Kd.C_drew ?_)))
    (case side4 => exact (Kd.R_reads' HO622.out).2.1)
    rintro e w25 ⟨rfl, hb⟩
    refine ⟨_, rfl, ?_⟩
    have n0_ := Aside0.mk (Kd.R_below (rt HO619) hb)
    have n1_ := Aside0.mk (Kd.R_below (rt HO622) hb)
    have n2_ := bb BK613 hb
    have n3_ := bb BK623 hb
    have n4_ := bes hb
    clear HO619
    clear HO622
    clear BK613
    clear BK623
    clear HB
    have HO619 := n0_
    have HO622 := n1_
    have BK613 := n2_
    have BK623 := n3_
    have HB := n4_
    clear n0_ n1_ n2_ n3_ n4_
    (try clear hb)
    (try clear hb2)
    (try clear hk)
    (try clear hi)
    refine hK.out _ _ ⟨(blk_cell BK623.out 0).trans rfl, (blk_cell BK623.out 1).trans rfl, (blk_cell BK623.out 2).trans rfl, (blk_cell BK623.out 3).trans rfl, (blk_cell BK623.out 4).trans rfl, (blk_cell BK613.out 0).trans rfl, (blk_cell BK613.out 1).trans rfl, (blk_cell BK613.out 2).trans rfl, (blk_cell BK613.out 3).trans rfl, (blk_cell BK613.out 4).trans rfl⟩ (fun hHeld => ?_)
    clear hK K
    refine norm_ (a' := ?_) ?_ ?_
    rotate_left
    ·show Act.put _ (some 17) _ = _
     simp only [Act.put, List.setIfInBounds_toArray, List.set_cons_zero, List.set_cons_succ, i64_w, i32_w]
     rfl
    refine one_ (i := 13) (N := some 19) mkA31_14 rfl rfl (one_of HT_.out (by kernel_rfl)) (by decide) (fun K hK => ?_)
    refine goes_ Tryz.func19 (by kernel_rfl) rfl #[.agg #[.int .i64 a0_0, .float .f64 a0_1, .string a0_2, .slice A0_3 l0_3.length c0_3, .slice A0_4 l0_4.length c0_4]] (by rfl) rfl rfl am ?_
    with_reducible refine (colanderref03_Large.calls k a0_0 a0_1 a0_2 _ _ l0_3 _ _ l0_4 t628 _ ?side1 ?side2 ?side3 ?side4 A9.out).mono ?_
    (case side1 => exact cb HR0_3)
    (case side2 => exact HC0_3.out)
    (case side3 => exact cb HR0_4)
    (case side4 => exact HC0_4.out)
    rintro e w26 ⟨rfl, hb⟩
    refine ⟨_, rfl, ?_⟩
    have n0_ := Aside0.mk (Kd.R_below (rt HO619) hb)
    have n1_ := Aside0.mk (Kd.R_below (rt HO622) hb)
    have n2_ := bb BK613 hb
    have n3_ := bb BK623 hb
    have n4_ := bes hb
    clear HO619
    clear HO622
    clear BK613
    clear BK623
    clear HB
    have HO619 := n0_
    have HO622 := n1_
    have BK613 := n2_
    have BK623 := n3_
    have HB := n4_
    clear n0_ n1_ n2_ n3_ n4_
    (try clear hb)
    (try clear hb2)
    (try clear hk)
    (try clear hi)
    refine hK.out _ _ ⟨(blk_cell BK623.out 0).trans rfl, (blk_cell BK623.out 1).trans rfl, (blk_cell BK623.out 2).trans rfl, (blk_cell BK623.out 3).trans rfl, (blk_cell BK623.out 4).trans rfl, (blk_cell BK613.out 0).trans rfl, (blk_cell BK613.out 1).trans rfl, (blk_cell BK613.out 2).trans rfl, (blk_cell BK613.out 3).trans rfl, (blk_cell BK613.out 4).trans rfl⟩ (fun hHeld => ?_)
    clear hK K
    refine norm_ (a' := ?_) ?_ ?_
    rotate_left
    ·show Act.put _ (some 19) _ = _
     simp only [Act.put, List.setIfInBounds_toArray, List.set_cons_zero, List.set_cons_succ, i64_w, i32_w]
     rfl
    refine pq 14 20 mkA31_15 ?_
    refine pq 15 21 mkA31_16 ?_
    refine pq 16 22 mkA31_17 ?_
    refine pq 17 23 mkA31_18 ?_
    refine one_ (i := 18) (N := some 24) mkA31_19 rfl rfl (one_of HT_.out (by kernel_rfl)) (by decide) (fun K hK => ?_)
    refine goes_ Tryz.func12 (by kernel_rfl) rfl #[] (by rfl) rfl rfl am ?_
    with_reducible refine (colanderlaw03_heads.calls  t629 _ ?side1 A11.out).mono ?_
    (case side1 => first | exact hT | exact tabs_below hT bel)
    rintro e w27 ⟨rfl, hb⟩
    refine ⟨_, rfl, ?_⟩
    have n0_ := Aside0.mk (Kd.R_below (rt HO619) hb)
    have n1_ := Aside0.mk (Kd.R_below (rt HO622) hb)
    have n2_ := bb BK613 hb
    have n3_ := bb BK623 hb
    have n4_ := bes hb
    clear HO619
    clear HO622
    clear BK613
    clear BK623
    clear HB
    have HO619 := n0_
    have HO622 := n1_
    have BK613 := n2_
    have BK623 := n3_
    have HB := n4_
    clear n0_ n1_ n2_ n3_ n4_
    (try clear hb)
    (try clear hb2)
    (try clear hk)
    (try clear hi)
    refine hK.out _ _ ⟨(blk_cell BK623.out 0).trans rfl, (blk_cell BK623.out 1).trans rfl, (blk_cell BK623.out 2).trans rfl, (blk_cell BK623.out 3).trans rfl, (blk_cell BK623.out 4).trans rfl, (blk_cell BK613.out 0).trans rfl, (blk_cell BK613.out 1).trans rfl, (blk_cell BK613.out 2).trans rfl, (blk_cell BK613.out 3).trans rfl, (blk_cell BK613.out 4).trans rfl⟩ (fun hHeld => ?_)
    clear hK K
    refine norm_ (a' := ?_) ?_ ?_
    rotate_left
    ·show Act.put _ (some 24) _ = _
     simp only [Act.put, List.setIfInBounds_toArray, List.set_cons_zero, List.set_cons_succ, i64_w, i32_w]
     rfl
    refine pq 19 25 mkA31_20 ?_
    refine pq 20 2 mkA31_21 ?_
    refine done_ (done_of HT_.out (by kernel_rfl)) ?_
    try go_wp2
    go_ret
    exact fn
   ·rw [if_neg c10] at H
    have c10b0 : (t627 == t628) = false := by simpa using c10
    (try (have c10b1 : decide (t627 = t628) = false := by simpa using c10))
    (try (have c10b2 : (t627 == t628) = false := by simpa using c10))
    (try (have c10b3 : ¬ (t627 = t628) := by simpa using c10))
    clear c10
    obtain rfl := Option.some.inj H
    go_enter Tryz.func4, Tryz.ntmps4
    try go_wp2_with (first | ((with_reducible refine gate_dst (N := 1) rfl ?_); refine box_event ?hg (N := 1) ?hd (cs := #[.int .i64 a0_0, .float .f64 a0_1, .string a0_2, .slice A0_3 l0_3.length c0_3, .slice A0_4 l0_4.length c0_4]) (t := 27) ?hr ?_; (case hd => rfl); (case hg => rfl); (case hr => first | (go_simp; done) | (go_simp; rfl)); intro gb613 hg w28 hbox hb; have n0_ := bes hb; have n1_ := Aside0.mk (hbox); have n2_ := Aside0.mk ((bez hg : w.heap.size ≤ gb613)); have n3_ := Aside0.mk ((bez hg : w.heap.size ≤ gb613)); clear HB; have HB := n0_; have BK613 := n1_; have GW613 := n2_; have GE613 := n3_; clear n0_ n1_ n2_ n3_; clear hb hbox hg; have hcz29_0 : w28.cell? ⟨gb613, 0, none⟩ = some (.int .i64 a0_0) := (blk_cell BK613.out 0).trans rfl; have hcz29_1 : w28.cell? ⟨gb613, 1, none⟩ = some (.float .f64 a0_1) := (blk_cell BK613.out 1).trans rfl; have hcz29_2 : w28.cell? ⟨gb613, 2, none⟩ = some (.string a0_2) := (blk_cell BK613.out 2).trans rfl; have hcz29_3 : w28.cell? ⟨gb613, 3, none⟩ = some (.slice A0_3 l0_3.length c0_3) := (blk_cell BK613.out 3).trans rfl; have hcz29_4 : w28.cell? ⟨gb613, 4, none⟩ = some (.slice A0_4 l0_4.length c0_4) := (blk_cell BK613.out 4).trans rfl; have hfz29_0 := blk_frozen BK613.out 0; have hfz29_1 := blk_frozen BK613.out 1; have hfz29_2 := blk_frozen BK613.out 2; have hfz29_3 := blk_frozen BK613.out 3; have hfz29_4 := blk_frozen BK613.out 4) | ((with_reducible refine gate_callee (f := 16) rfl ?_); refine goesL_ (some 5) rfl rfl Tryz.func16 (by kernel_rfl) rfl #[.agg #[.int .i64 a0_0, .float .f64 a0_1, .string a0_2, .slice A0_3 l0_3.length c0_3, .slice A0_4 l0_4.length c0_4]] rfl am ?_; (with_reducible refine (colanderref03_Copy.calls k a0_0 a0_1 a0_2 _ _ l0_3 _ _ l0_4 t614 t615 t616 t617 t620 _ ?side1 ?side2 ?side3 ?side4 A2.out).mono ?_); (case side1 => exact cb HR0_3); (case side2 => exact HC0_3.out); (case side3 => exact cb HR0_4); (case side4 => exact HC0_4.out); rintro e w30 ⟨v618, v621, rfl, ho0, ho1, hb⟩; refine ⟨_, rfl, ?_⟩; have n0_ := Aside0.mk (Kd.R_lower (Kd.R_newB ho0 (g := gb613) (o := .cells #[.int .i64 a0_0, .float .f64 a0_1, .string a0_2, .slice A0_3 l0_3.length c0_3, .slice A0_4 l0_4.length c0_4] 27 (0, 0)) bt) (below_size bel)); have n1_ := Aside0.mk (Kd.R_lower ho1 (below_size bel)); have n2_ := bb BK613 hb; have n3_ := bes hb; clear BK613; clear HB; have HO619 := n0_; have HO622 := n1_; have BK613 := n2_; have HB := n3_; clear n0_ n1_ n2_ n3_; (try clear hb); (try clear hb2); (try clear hk); (try clear hi); (try clear ho0); (try clear ho1)) | ((with_reducible refine gate_dst (N := 3) rfl ?_); refine box_event ?hg (N := 3) ?hd (cs := #[.int .i64 0, .float .f64 0, .string (⟨#[]⟩ : ByteArray), .slice none 0 0, .slice none 0 0]) (t := 27) ?hr ?_; (case hd => rfl); (case hg => rfl); (case hr => first | (go_simp; done) | (go_simp; rfl)); intro gb623 hg w31 hbox hb; have n0_ := Aside0.mk (Kd.R_below (Kd.R_elderB (rt HO619) gb623 (Nat.le_of_eq hg.symm)) hb); have n1_ := Aside0.mk (Kd.R_below (rt HO622) hb); have n2_ := bb BK613 hb; have n3_ := bes hb; have n4_ := Aside0.mk (hbox); have n5_ := Aside0.mk ((bez hg : w.heap.size ≤ gb623)); have n6_ := Aside0.mk ((bez hg : w.heap.size ≤ gb623)); have n7_ := Aside0.mk ((by rw [hg]; exact Nat.ne_of_lt (blk_lt (g := gb613) (o := .cells #[.int .i64 a0_0, .float .f64 a0_1, .string a0_2, .slice A0_3 l0_3.length c0_3, .slice A0_4 l0_4.length c0_4] 27 (0, 0)) bt) : gb613 ≠ gb623)); have n8_ := Aside0.mk ((by rw [hg]; exact Nat.ne_of_gt (blk_lt (g := gb613) (o := .cells #[.int .i64 a0_0, .float .f64 a0_1, .string a0_2, .slice A0_3 l0_3.length c0_3, .slice A0_4 l0_4.length c0_4] 27 (0, 0)) bt) : gb623 ≠ gb613)); clear HO619; clear HO622; clear BK613; clear HB; have HO619 := n0_; have HO622 := n1_; have BK613 := n2_; have HB := n3_; have BK623 := n4_; have GW623 := n5_; have GE623 := n6_; have NB613_623 := n7_; have NB623_613 := n8_; clear n0_ n1_ n2_ n3_ n4_ n5_ n6_ n7_ n8_; clear hb hbox hg; have hnb32 := NB623_613.out; have hnc32 := NB613_623.out; have hcz33_0 : w31.cell? ⟨gb623, 0, none⟩ = some (.int .i64 0) := (blk_cell BK623.out 0).trans rfl; have hcz33_1 : w31.cell? ⟨gb623, 1, none⟩ = some (.float .f64 0) := (blk_cell BK623.out 1).trans rfl; have hcz33_2 : w31.cell? ⟨gb623, 2, none⟩ = some (.string (⟨#[]⟩ : ByteArray)) := (blk_cell BK623.out 2).trans rfl; have hcz33_3 : w31.cell? ⟨gb623, 3, none⟩ = some (.slice none 0 0) := (blk_cell BK623.out 3).trans rfl; have hcz33_4 : w31.cell? ⟨gb623, 4, none⟩ = some (.slice none 0 0) := (blk_cell BK623.out 4).trans rfl; have hfz33_0 := blk_frozen BK623.out 0; have hfz33_1 := blk_frozen BK623.out 1; have hfz33_2 := blk_frozen BK623.out 2; have hfz33_3 := blk_frozen BK623.out 3; have hfz33_4 := blk_frozen BK623.out 4; obtain ⟨Ao34, co34, eo34⟩ := Kd.R_slice HO619.out; subst eo34; obtain ⟨Ao35, co35, eo35⟩ := Kd.R_slice HO622.out; subst eo35))
    have n0_ : Aside0 (Kd.R k27 27 (((((w31.setCell ⟨gb623, 0, none⟩ (.int .i64 t614)).setCell ⟨gb623, 1, none⟩ (.float .f64 t615)).setCell ⟨gb623, 2, none⟩ (.string t616)).setCell ⟨gb623, 3, none⟩ (.slice Ao34 t617.length co34)).setCell ⟨gb623, 4, none⟩ (.slice Ao35 t620.length co35)) w.heap.size (fun k_ => some k_ ≠ (.slice Ao35 t620.length co35 : Value).ownBlock ∧ k_ ≠ gb613 ∧ k_ ≠ gb623) (.slice Ao34 t617.length co34) t617) := ⟨by (with_reducible repeat (first | apply Kd.R_alloc | apply Kd.R_drewN | apply Kd.R_drew)); exact Kd.R_mono (Kd.R_far (p := ⟨gb623, 4, none⟩) (Kd.R_far (p := ⟨gb623, 3, none⟩) (Kd.R_far (p := ⟨gb623, 2, none⟩) (Kd.R_far (p := ⟨gb623, 1, none⟩) (Kd.R_far (p := ⟨gb623, 0, none⟩) (Kd.R_mono HO619.out (fun k_ hk => (⟨hk, hk.2⟩ : _ ∧ k_ ≠ gb623))) (fun _ hk => hk.2) (.int .i64 t614)) (fun _ hk => hk.2) (.float .f64 t615)) (fun _ hk => hk.2) (.string t616)) (fun _ hk => hk.2) (.slice Ao34 t617.length co34)) (fun _ hk => hk.2) (.slice Ao35 t620.length co35)) (fun _ hk => ⟨hk.1.1.1, ⟨hk.1.1.2, hk.1.2⟩⟩)⟩
    have n1_ : Aside0 (Kd.R Kd.string 9 (((((w31.setCell ⟨gb623, 0, none⟩ (.int .i64 t614)).setCell ⟨gb623, 1, none⟩ (.float .f64 t615)).setCell ⟨gb623, 2, none⟩ (.string t616)).setCell ⟨gb623, 3, none⟩ (.slice Ao34 t617.length co34)).setCell ⟨gb623, 4, none⟩ (.slice Ao35 t620.length co35)) w.heap.size (fun _ => True) (.slice Ao35 t620.length co35) t620) := ⟨by (with_reducible repeat (first | apply Kd.R_alloc | apply Kd.R_drewN | apply Kd.R_drew)); exact Kd.R_mono (Kd.R_far (p := ⟨gb623, 4, none⟩) (Kd.R_far (p := ⟨gb623, 3, none⟩) (Kd.R_far (p := ⟨gb623, 2, none⟩) (Kd.R_far (p := ⟨gb623, 1, none⟩) (Kd.R_far (p := ⟨gb623, 0, none⟩) (Kd.R_types HO622.out BK623.out (by decide)) (fun _ hk => hk.2) (.int .i64 t614)) (fun _ hk => hk.2) (.float .f64 t615)) (fun _ hk => hk.2) (.string t616)) (fun _ hk => hk.2) (.slice Ao34 t617.length co34)) (fun _ hk => hk.2) (.slice Ao35 t620.length co35)) (fun _ hk => trivial)⟩
    have n2_ : Aside0 ((((((w31.setCell ⟨gb623, 0, none⟩ (.int .i64 t614)).setCell ⟨gb623, 1, none⟩ (.float .f64 t615)).setCell ⟨gb623, 2, none⟩ (.string t616)).setCell ⟨gb623, 3, none⟩ (.slice Ao34 t617.length co34)).setCell ⟨gb623, 4, none⟩ (.slice Ao35 t620.length co35)).heap[gb613]? = some (.cells #[.int .i64 a0_0, .float .f64 a0_1, .string a0_2, .slice A0_3 l0_3.length c0_3, .slice A0_4 l0_4.length c0_4] 27 (0, 0))) := ⟨bt⟩
    have n3_ : Aside0 ((((((w31.setCell ⟨gb623, 0, none⟩ (.int .i64 t614)).setCell ⟨gb623, 1, none⟩ (.float .f64 t615)).setCell ⟨gb623, 2, none⟩ (.string t616)).setCell ⟨gb623, 3, none⟩ (.slice Ao34 t617.length co34)).setCell ⟨gb623, 4, none⟩ (.slice Ao35 t620.length co35)).heap[gb623]? = some (.cells #[.int .i64 t614, .float .f64 t615, .string t616, .slice Ao34 t617.length co34, .slice Ao35 t620.length co35] 27 (0, 0))) := ⟨bt⟩
    have n4_ : Aside0 (Below w.heap.size w (((((w31.setCell ⟨gb623, 0, none⟩ (.int .i64 t614)).setCell ⟨gb623, 1, none⟩ (.float .f64 t615)).setCell ⟨gb623, 2, none⟩ (.string t616)).setCell ⟨gb623, 3, none⟩ (.slice Ao34 t617.length co34)).setCell ⟨gb623, 4, none⟩ (.slice Ao35 t620.length co35))) := ⟨bel⟩
    (try clear HO619)
    (try clear HO622)
    (try clear BK613)
    (try clear BK623)
    (try clear HB)
    generalize (((((w31.setCell ⟨gb623, 0, none⟩ (.int .i64 t614)).setCell ⟨gb623, 1, none⟩ (.float .f64 t615)).setCell ⟨gb623, 2, none⟩ (.string t616)).setCell ⟨gb623, 3, none⟩ (.slice Ao34 t617.length co34)).setCell ⟨gb623, 4, none⟩ (.slice Ao35 t620.length co35)) = w36 at n0_ n1_ n2_ n3_ n4_ ⊢
    have HO619 := n0_
    have HO622 := n1_
    have BK613 := n2_
    have BK623 := n3_
    have HB := n4_
    clear n0_ n1_ n2_ n3_ n4_
    have n0_ := Aside0.mk (Kd.R_drew HO619.out)
    have n1_ := Aside0.mk (Kd.R_drew HO622.out)
    have n2_ := Aside0.mk (blk_drew BK613.out)
    have n3_ := Aside0.mk (blk_drew BK623.out)
    have n4_ := Aside0.mk (below_drew1 HB.out)
    clear HO619
    clear HO622
    clear BK613
    clear BK623
    clear HB
    have HO619 := n0_
    have HO622 := n1_
    have BK613 := n2_
    have BK623 := n3_
    have HB := n4_
    clear n0_ n1_ n2_ n3_ n4_
    refine start_ (n := 21) (S := fun w' => w'.cell? ⟨gb623, 0, none⟩ = some (.int .i64 t614) ∧ w'.cell? ⟨gb623, 1, none⟩ = some (.float .f64 t615) ∧ w'.cell? ⟨gb623, 2, none⟩ = some (.string t616) ∧ w'.cell? ⟨gb623, 3, none⟩ = some (.slice Ao34 t617.length co34) ∧ w'.cell? ⟨gb623, 4, none⟩ = some (.slice Ao35 t620.length co35) ∧ w'.cell? ⟨gb613, 0, none⟩ = some (.int .i64 a0_0) ∧ w'.cell? ⟨gb613, 1, none⟩ = some (.float .f64 a0_1) ∧ w'.cell? ⟨gb613, 2, none⟩ = some (.string a0_2) ∧ w'.cell? ⟨gb613, 3, none⟩ = some (.slice A0_3 l0_3.length c0_3) ∧ w'.cell? ⟨gb613, 4, none⟩ = some (.slice A0_4 l0_4.length c0_4)) (ds := []) mkA31_0 (by kernel_rfl) rfl rfl ⟨(blk_cell BK623.out 0).trans rfl, (blk_cell BK623.out 1).trans rfl, (blk_cell BK623.out 2).trans rfl, (blk_cell BK623.out 3).trans rfl, (blk_cell BK623.out 4).trans rfl, (blk_cell BK613.out 0).trans rfl, (blk_cell BK613.out 1).trans rfl, (blk_cell BK613.out 2).trans rfl, (blk_cell BK613.out 3).trans rfl, (blk_cell BK613.out 4).trans rfl⟩ (fun hHeld => ?_); refine with_tabW colanderlaw03_ValueRight.tab2 colanderlaw03_ValueRight.bits2 (fun HT_ HW_ => ?_)
    generalize w36.drew = w37 at HO619 HO622 BK613 BK623 HB hHeld ⊢
    refine tq 0 6 mkA31_1 ?_
    refine tq 2 8 mkA31_2 ?_
    refine one_ (i := 1) (N := some 7) mkA31_3 rfl rfl (one_of HT_.out (by kernel_rfl)) (by decide) (fun K hK => ?_)
    refine goes_ Tryz.func17 (by kernel_rfl) rfl #[.agg #[.int .i64 t614, .float .f64 t615, .string t616, .slice Ao34 t617.length co34, .slice Ao35 t620.length co35]] (by rfl) rfl rfl am ?_
    with_reducible refine (value_Right.calls k t614 t615 t616 _ _ t617 _ _ t620 t624 _ ?side1 ?side2 ?side3 ?side4 ?side5 A3.out).mono ?_
    (case side1 => repeat (first | exact (Kd.R_reads' HO619.out).2.2 | (with_reducible refine Kd.C_alloc ?_ _) | (with_reducible refine Kd.C_drewN ?_ _) | (with_reducible refine Kd.C_drew ?_)))
    (case side2 => exact (Kd.R_reads' HO619.out).2.1)
    (case side3 => repeat (first | exact (Kd.R_reads' HO622.out).2.2 | (with_reducible refine Kd.C_alloc ?_ _) | (with_reducible refine Kd.C_drewN ?_ _) | (with_reducible refine Kd.C_drew ?_)))
    (case side4 => exact (Kd.R_reads' HO622.out).2.1)
    (case side5 => first | exact hT | exact tabs_below hT bel)
    rintro e w38 ⟨rfl, hb⟩
    refine ⟨_, rfl, ?_⟩
    have n0_ := Aside0.mk (Kd.R_below (rt HO619) hb)
    have n1_ := Aside0.mk (Kd.R_below (rt HO622) hb)
    have n2_ := bb BK613 hb
    have n3_ := bb BK623 hb
    have n4_ := bes hb
    clear HO619
    clear HO622
    clear BK613
    clear BK623
    clear HB
    have HO619 := n0_
    have HO622 := n1_
    have BK613 := n2_
    have BK623 := n3_
    have HB := n4_
    clear n0_ n1_ n2_ n3_ n4_
    (try clear hb)
    (try clear hb2)
    (try clear hk)
    (try clear hi)
    refine hK.out _ _ ⟨(blk_cell BK623.out 0).trans rfl, (blk_cell BK623.out 1).trans rfl, (blk_cell BK623.out 2).trans rfl, (blk_cell BK623.out 3).trans rfl, (blk_cell BK623.out 4).trans rfl, (blk_cell BK613.out 0).trans rfl, (blk_cell BK613.out 1).trans rfl, (blk_cell BK613.out 2).trans rfl, (blk_cell BK613.out 3).trans rfl, (blk_cell BK613.out 4).trans rfl⟩ (fun hHeld => ?_)
    clear hK K
    refine norm_ (a' := ?_) ?_ ?_
    rotate_left
    ·show Act.put _ (some 7) _ = _
     simp only [Act.put, List.setIfInBounds_toArray, List.set_cons_zero, List.set_cons_succ, i64_w, i32_w]
     rfl
    refine one_ (i := 3) (N := some 9) mkA31_4 rfl rfl (one_of HT_.out (by kernel_rfl)) (by decide) (fun K hK => ?_)
    refine goes_ Tryz.func11 (by kernel_rfl) rfl #[.agg #[.int .i64 a0_0, .float .f64 a0_1, .string a0_2, .slice A0_3 l0_3.length c0_3, .slice A0_4 l0_4.length c0_4]] (by rfl) rfl rfl am ?_
    with_reducible refine (colanderref03_Right.calls k a0_0 a0_1 a0_2 _ _ l0_3 _ _ l0_4 t625 _ ?side1 ?side2 ?side3 ?side4 A4.out).mono ?_
    (case side1 => exact cb HR0_3)
    (case side2 => exact HC0_3.out)
    (case side3 => exact cb HR0_4)
    (case side4 => exact HC0_4.out)
    rintro e w39 ⟨rfl, hb⟩
    refine ⟨_, rfl, ?_⟩
    have n0_ := Aside0.mk (Kd.R_below (rt HO619) hb)
    have n1_ := Aside0.mk (Kd.R_below (rt HO622) hb)
    have n2_ := bb BK613 hb
    have n3_ := bb BK623 hb
    have n4_ := bes hb
    clear HO619
    clear HO622
    clear BK613
    clear BK623
    clear HB
    have HO619 := n0_
    have HO622 := n1_
    have BK613 := n2_
    have BK623 := n3_
    have HB := n4_
    clear n0_ n1_ n2_ n3_ n4_
    (try clear hb)
    (try clear hb2)
    (try clear hk)
    (try clear hi)
    refine hK.out _ _ ⟨(blk_cell BK623.out 0).trans rfl, (blk_cell BK623.out 1).trans rfl, (blk_cell BK623.out 2).trans rfl, (blk_cell BK623.out 3).trans rfl, (blk_cell BK623.out 4).trans rfl, (blk_cell BK613.out 0).trans rfl, (blk_cell BK613.out 1).trans rfl, (blk_cell BK613.out 2).trans rfl, (blk_cell BK613.out 3).trans rfl, (blk_cell BK613.out 4).trans rfl⟩ (fun hHeld => ?_)
    clear hK K
    refine norm_ (a' := ?_) ?_ ?_
    rotate_left
    ·show Act.put _ (some 9) _ = _
     simp only [Act.put, List.setIfInBounds_toArray, List.set_cons_zero, List.set_cons_succ, i64_w, i32_w]
     rfl
    refine pq 4 10 mkA31_5 ?_
    refine pq 5 11 mkA31_6 ?_
    refine tq 6 12 mkA31_7 ?_
    refine one_ (i := 7) (N := some 13) mkA31_8 rfl rfl (one_of HT_.out (by kernel_rfl)) (by decide) (fun K hK => ?_)
    refine goes_ Tryz.func11 (by kernel_rfl) rfl #[.agg #[.int .i64 a0_0, .float .f64 a0_1, .string a0_2, .slice A0_3 l0_3.length c0_3, .slice A0_4 l0_4.length c0_4]] (by rfl) rfl rfl am ?_
    with_reducible refine (colanderref03_Right.calls k a0_0 a0_1 a0_2 _ _ l0_3 _ _ l0_4 true _ ?side1 ?side2 ?side3 ?side4 A6.out).mono ?_
    (case side1 => exact cb HR0_3)
    (case side2 => exact HC0_3.out)
    (case side3 => exact cb HR0_4)
    (case side4 => exact HC0_4.out)
    rintro e w40 ⟨rfl, hb⟩
    refine ⟨_, rfl, ?_⟩
    have n0_ := Aside0.mk (Kd.R_below (rt HO619) hb)
    have n1_ := Aside0.mk (Kd.R_below (rt HO622) hb)
    have n2_ := bb BK613 hb
    have n3_ := bb BK623 hb
    have n4_ := bes hb
    clear HO619
    clear HO622
    clear BK613
    clear BK623
    clear HB
    have HO619 := n0_
    have HO622 := n1_
    have BK613 := n2_
    have BK623 := n3_
    have HB := n4_
    clear n0_ n1_ n2_ n3_ n4_
    (try clear hb)
    (try clear hb2)
    (try clear hk)
    (try clear hi)
    refine hK.out _ _ ⟨(blk_cell BK623.out 0).trans rfl, (blk_cell BK623.out 1).trans rfl, (blk_cell BK623.out 2).trans rfl, (blk_cell BK623.out 3).trans rfl, (blk_cell BK623.out 4).trans rfl, (blk_cell BK613.out 0).trans rfl, (blk_cell BK613.out 1).trans rfl, (blk_cell BK613.out 2).trans rfl, (blk_cell BK613.out 3).trans rfl, (blk_cell BK613.out 4).trans rfl⟩ (fun hHeld => ?_)
    clear hK K
    refine norm_ (a' := ?_) ?_ ?_
    rotate_left
    ·show Act.put _ (some 13) _ = _
     simp only [Act.put, List.setIfInBounds_toArray, List.set_cons_zero, List.set_cons_succ, i64_w, i32_w]
     rfl
    refine pq 8 14 mkA31_9 ?_
    refine pq 9 15 mkA31_10 ?_
    refine tq 10 16 mkA31_11 ?_
    refine tq 12 18 mkA31_12 ?_
    refine one_ (i := 11) (N := some 17) mkA31_13 rfl rfl (one_of HT_.out (by kernel_rfl)) (by decide) (fun K hK => ?_)
    refine goes_ Tryz.func18 (by kernel_rfl) rfl #[.agg #[.int .i64 t614, .float .f64 t615, .string t616, .slice Ao34 t617.length co34, .slice Ao35 t620.length co35]] (by rfl) rfl rfl am ?_
    with_reducible refine (value_Large.calls k t614 t615 t616 _ _ t617 _ _ t620 t627 _ ?side1 ?side2 ?side3 ?side4 A8.out).mono ?_
    (case side1 => repeat (first | exact (Kd.R_reads' HO619.out).2.2 | (with_reducible refine Kd.C_alloc ?_ _) | (with_reducible refine Kd.C_drewN ?_ _) | (with_reducible refine Kd.C_drew ?_)))
    (case side2 => exact (Kd.R_reads' HO619.out).2.1)
    (case side3 => repeat (first | exact (Kd.R_reads' HO622.out).2.2 | (with_reducible refine Kd.C_alloc ?_ _) | (with_reducible refine Kd.C_drewN ?_ _) | (with_reducible refine Kd.C_drew ?_)))
    (case side4 => exact (Kd.R_reads' HO622.out).2.1)
    rintro e w41 ⟨rfl, hb⟩
    refine ⟨_, rfl, ?_⟩
    have n0_ := Aside0.mk (Kd.R_below (rt HO619) hb)
    have n1_ := Aside0.mk (Kd.R_below (rt HO622) hb)
    have n2_ := bb BK613 hb
    have n3_ := bb BK623 hb
    have n4_ := bes hb
    clear HO619
    clear HO622
    clear BK613
    clear BK623
    clear HB
    have HO619 := n0_
    have HO622 := n1_
    have BK613 := n2_
    have BK623 := n3_
    have HB := n4_
    clear n0_ n1_ n2_ n3_ n4_
    (try clear hb)
    (try clear hb2)
    (try clear hk)
    (try clear hi)
    refine hK.out _ _ ⟨(blk_cell BK623.out 0).trans rfl, (blk_cell BK623.out 1).trans rfl, (blk_cell BK623.out 2).trans rfl, (blk_cell BK623.out 3).trans rfl, (blk_cell BK623.out 4).trans rfl, (blk_cell BK613.out 0).trans rfl, (blk_cell BK613.out 1).trans rfl, (blk_cell BK613.out 2).trans rfl, (blk_cell BK613.out 3).trans rfl, (blk_cell BK613.out 4).trans rfl⟩ (fun hHeld => ?_)
    clear hK K
    refine norm_ (a' := ?_) ?_ ?_
    rotate_left
    ·show Act.put _ (some 17) _ = _
     simp only [Act.put, List.setIfInBounds_toArray, List.set_cons_zero, List.set_cons_succ, i64_w, i32_w]
     rfl
    refine one_ (i := 13) (N := some 19) mkA31_14 rfl rfl (one_of HT_.out (by kernel_rfl)) (by decide) (fun K hK => ?_)
    refine goes_ Tryz.func19 (by kernel_rfl) rfl #[.agg #[.int .i64 a0_0, .float .f64 a0_1, .string a0_2, .slice A0_3 l0_3.length c0_3, .slice A0_4 l0_4.length c0_4]] (by rfl) rfl rfl am ?_
    with_reducible refine (colanderref03_Large.calls k a0_0 a0_1 a0_2 _ _ l0_3 _ _ l0_4 t628 _ ?side1 ?side2 ?side3 ?side4 A9.out).mono ?_
    (case side1 => exact cb HR0_3)
    (case side2 => exact HC0_3.out)
    (case side3 => exact cb HR0_4)
    (case side4 => exact HC0_4.out)
    rintro e w42 ⟨rfl, hb⟩
    refine ⟨_, rfl, ?_⟩
    have n0_ := Aside0.mk (Kd.R_below (rt HO619) hb)
    have n1_ := Aside0.mk (Kd.R_below (rt HO622) hb)
    have n2_ := bb BK613 hb
    have n3_ := bb BK623 hb
    have n4_ := bes hb
    clear HO619
    clear HO622
    clear BK613
    clear BK623
    clear HB
    have HO619 := n0_
    have HO622 := n1_
    have BK613 := n2_
    have BK623 := n3_
    have HB := n4_
    clear n0_ n1_ n2_ n3_ n4_
    (try clear hb)
    (try clear hb2)
    (try clear hk)
    (try clear hi)
    refine hK.out _ _ ⟨(blk_cell BK623.out 0).trans rfl, (blk_cell BK623.out 1).trans rfl, (blk_cell BK623.out 2).trans rfl, (blk_cell BK623.out 3).trans rfl, (blk_cell BK623.out 4).trans rfl, (blk_cell BK613.out 0).trans rfl, (blk_cell BK613.out 1).trans rfl, (blk_cell BK613.out 2).trans rfl, (blk_cell BK613.out 3).trans rfl, (blk_cell BK613.out 4).trans rfl⟩ (fun hHeld => ?_)
    clear hK K
    refine norm_ (a' := ?_) ?_ ?_
    rotate_left
    ·show Act.put _ (some 19) _ = _
     simp only [Act.put, List.setIfInBounds_toArray, List.set_cons_zero, List.set_cons_succ, i64_w, i32_w]
     rfl
    refine pq 14 20 mkA31_15 ?_
    refine pq 15 21 mkA31_16 ?_
    refine pq 16 22 mkA31_17 ?_
    refine pq 17 23 mkA31_18 ?_
    refine uq 18 24 mkA31_19 ?_
    refine pq 19 25 mkA31_20 ?_
    refine pq 20 2 mkA31_21 ?_
    refine done_ (done_of HT_.out (by kernel_rfl)) ?_
    try go_wp2
    go_ret
    exact fn
  ·replace c7 := Bool.eq_false_iff.mpr c7
   subst c7
   have H1 : ((colanderlaw03_heads.f).bind fun t630 => (some t630)) = some r := by rw [if_neg (show ¬ (false = true) by decide)] at H; exact H
   clear H
   have H := H1
   clear H1
   replace H := Option.bind_eq_some_iff.mp H
   obtain ⟨t630, A430, H⟩ := H
   replace H : (some t630) = some r := H
   have A43 := Aside0.mk A430
   clear A430
   obtain rfl := Option.some.inj H
   go_enter Tryz.func4, Tryz.ntmps4
   try go_wp2_with (first | ((with_reducible refine gate_dst (N := 1) rfl ?_); refine box_event ?hg (N := 1) ?hd (cs := #[.int .i64 a0_0, .float .f64 a0_1, .string a0_2, .slice A0_3 l0_3.length c0_3, .slice A0_4 l0_4.length c0_4]) (t := 27) ?hr ?_; (case hd => rfl); (case hg => rfl); (case hr => first | (go_simp; done) | (go_simp; rfl)); intro gb613 hg w44 hbox hb; have n0_ := bes hb; have n1_ := Aside0.mk (hbox); have n2_ := Aside0.mk ((bez hg : w.heap.size ≤ gb613)); have n3_ := Aside0.mk ((bez hg : w.heap.size ≤ gb613)); clear HB; have HB := n0_; have BK613 := n1_; have GW613 := n2_; have GE613 := n3_; clear n0_ n1_ n2_ n3_; clear hb hbox hg; have hcz45_0 : w44.cell? ⟨gb613, 0, none⟩ = some (.int .i64 a0_0) := (blk_cell BK613.out 0).trans rfl; have hcz45_1 : w44.cell? ⟨gb613, 1, none⟩ = some (.float .f64 a0_1) := (blk_cell BK613.out 1).trans rfl; have hcz45_2 : w44.cell? ⟨gb613, 2, none⟩ = some (.string a0_2) := (blk_cell BK613.out 2).trans rfl; have hcz45_3 : w44.cell? ⟨gb613, 3, none⟩ = some (.slice A0_3 l0_3.length c0_3) := (blk_cell BK613.out 3).trans rfl; have hcz45_4 : w44.cell? ⟨gb613, 4, none⟩ = some (.slice A0_4 l0_4.length c0_4) := (blk_cell BK613.out 4).trans rfl; have hfz45_0 := blk_frozen BK613.out 0; have hfz45_1 := blk_frozen BK613.out 1; have hfz45_2 := blk_frozen BK613.out 2; have hfz45_3 := blk_frozen BK613.out 3; have hfz45_4 := blk_frozen BK613.out 4) | ((with_reducible refine gate_callee (f := 16) rfl ?_); refine goesL_ (some 5) rfl rfl Tryz.func16 (by kernel_rfl) rfl #[.agg #[.int .i64 a0_0, .float .f64 a0_1, .string a0_2, .slice A0_3 l0_3.length c0_3, .slice A0_4 l0_4.length c0_4]] rfl am ?_; (with_reducible refine (colanderref03_Copy.calls k a0_0 a0_1 a0_2 _ _ l0_3 _ _ l0_4 t614 t615 t616 t617 t620 _ ?side1 ?side2 ?side3 ?side4 A2.out).mono ?_); (case side1 => exact cb HR0_3); (case side2 => exact HC0_3.out); (case side3 => exact cb HR0_4); (case side4 => exact HC0_4.out); rintro e w46 ⟨v618, v621, rfl, ho0, ho1, hb⟩; refine ⟨_, rfl, ?_⟩; have n0_ := Aside0.mk (Kd.R_lower (Kd.R_newB ho0 (g := gb613) (o := .cells #[.int .i64 a0_0, .float .f64 a0_1, .string a0_2, .slice A0_3 l0_3.length c0_3, .slice A0_4 l0_4.length c0_4] 27 (0, 0)) bt) (below_size bel)); have n1_ := Aside0.mk (Kd.R_lower ho1 (below_size bel)); have n2_ := bb BK613 hb; have n3_ := bes hb; clear BK613; clear HB; have HO619 := n0_; have HO622 := n1_; have BK613 := n2_; have HB := n3_; clear n0_ n1_ n2_ n3_; (try clear hb); (try clear hb2); (try clear hk); (try clear hi); (try clear ho0); (try clear ho1)) | ((with_reducible refine gate_dst (N := 3) rfl ?_); refine box_event ?hg (N := 3) ?hd (cs := #[.int .i64 0, .float .f64 0, .string (⟨#[]⟩ : ByteArray), .slice none 0 0, .slice none 0 0]) (t := 27) ?hr ?_; (case hd => rfl); (case hg => rfl); (case hr => first | (go_simp; done) | (go_simp; rfl)); intro gb623 hg w47 hbox hb; have n0_ := Aside0.mk (Kd.R_below (Kd.R_elderB (rt HO619) gb623 (Nat.le_of_eq hg.symm)) hb); have n1_ := Aside0.mk (Kd.R_below (rt HO622) hb); have n2_ := bb BK613 hb; have n3_ := bes hb; have n4_ := Aside0.mk (hbox); have n5_ := Aside0.mk ((bez hg : w.heap.size ≤ gb623)); have n6_ := Aside0.mk ((bez hg : w.heap.size ≤ gb623)); have n7_ := Aside0.mk ((by rw [hg]; exact Nat.ne_of_lt (blk_lt (g := gb613) (o := .cells #[.int .i64 a0_0, .float .f64 a0_1, .string a0_2, .slice A0_3 l0_3.length c0_3, .slice A0_4 l0_4.length c0_4] 27 (0, 0)) bt) : gb613 ≠ gb623)); have n8_ := Aside0.mk ((by rw [hg]; exact Nat.ne_of_gt (blk_lt (g := gb613) (o := .cells #[.int .i64 a0_0, .float .f64 a0_1, .string a0_2, .slice A0_3 l0_3.length c0_3, .slice A0_4 l0_4.length c0_4] 27 (0, 0)) bt) : gb623 ≠ gb613)); clear HO619; clear HO622; clear BK613; clear HB; have HO619 := n0_; have HO622 := n1_; have BK613 := n2_; have HB := n3_; have BK623 := n4_; have GW623 := n5_; have GE623 := n6_; have NB613_623 := n7_; have NB623_613 := n8_; clear n0_ n1_ n2_ n3_ n4_ n5_ n6_ n7_ n8_; clear hb hbox hg; have hnb48 := NB623_613.out; have hnc48 := NB613_623.out; have hcz49_0 : w47.cell? ⟨gb623, 0, none⟩ = some (.int .i64 0) := (blk_cell BK623.out 0).trans rfl; have hcz49_1 : w47.cell? ⟨gb623, 1, none⟩ = some (.float .f64 0) := (blk_cell BK623.out 1).trans rfl; have hcz49_2 : w47.cell? ⟨gb623, 2, none⟩ = some (.string (⟨#[]⟩ : ByteArray)) := (blk_cell BK623.out 2).trans rfl; have hcz49_3 : w47.cell? ⟨gb623, 3, none⟩ = some (.slice none 0 0) := (blk_cell BK623.out 3).trans rfl; have hcz49_4 : w47.cell? ⟨gb623, 4, none⟩ = some (.slice none 0 0) := (blk_cell BK623.out 4).trans rfl; have hfz49_0 := blk_frozen BK623.out 0; have hfz49_1 := blk_frozen BK623.out 1; have hfz49_2 := blk_frozen BK623.out 2; have hfz49_3 := blk_frozen BK623.out 3; have hfz49_4 := blk_frozen BK623.out 4; obtain ⟨Ao50, co50, eo50⟩ := Kd.R_slice HO619.out; subst eo50; obtain ⟨Ao51, co51, eo51⟩ := Kd.R_slice HO622.out; subst eo51))
   have n0_ : Aside0 (Kd.R k27 27 (((((w47.setCell ⟨gb623, 0, none⟩ (.int .i64 t614)).setCell ⟨gb623, 1, none⟩ (.float .f64 t615)).setCell ⟨gb623, 2, none⟩ (.string t616)).setCell ⟨gb623, 3, none⟩ (.slice Ao50 t617.length co50)).setCell ⟨gb623, 4, none⟩ (.slice Ao51 t620.length co51)) w.heap.size (fun k_ => some k_ ≠ (.slice Ao51 t620.length co51 : Value).ownBlock ∧ k_ ≠ gb613 ∧ k_ ≠ gb623) (.slice Ao50 t617.length co50) t617) := ⟨by (with_reducible repeat (first | apply Kd.R_alloc | apply Kd.R_drewN | apply Kd.R_drew)); exact Kd.R_mono (Kd.R_far (p := ⟨gb623, 4, none⟩) (Kd.R_far (p := ⟨gb623, 3, none⟩) (Kd.R_far (p := ⟨gb623, 2, none⟩) (Kd.R_far (p := ⟨gb623, 1, none⟩) (Kd.R_far (p := ⟨gb623, 0, none⟩) (Kd.R_mono HO619.out (fun k_ hk => (⟨hk, hk.2⟩ : _ ∧ k_ ≠ gb623))) (fun _ hk => hk.2) (.int .i64 t614)) (fun _ hk => hk.2) (.float .f64 t615)) (fun _ hk => hk.2) (.string t616)) (fun _ hk => hk.2) (.slice Ao50 t617.length co50)) (fun _ hk => hk.2) (.slice Ao51 t620.length co51)) (fun _ hk => ⟨hk.1.1.1, ⟨hk.1.1.2, hk.1.2⟩⟩)⟩
   have n1_ : Aside0 (Kd.R Kd.string 9 (((((w47.setCell ⟨gb623, 0, none⟩ (.int .i64 t614)).setCell ⟨gb623, 1, none⟩ (.float .f64 t615)).setCell ⟨gb623, 2, none⟩ (.string t616)).setCell ⟨gb623, 3, none⟩ (.slice Ao50 t617.length co50)).setCell ⟨gb623, 4, none⟩ (.slice Ao51 t620.length co51)) w.heap.size (fun _ => True) (.slice Ao51 t620.length co51) t620) := ⟨by (with_reducible repeat (first | apply Kd.R_alloc | apply Kd.R_drewN | apply Kd.R_drew)); exact Kd.R_mono (Kd.R_far (p := ⟨gb623, 4, none⟩) (Kd.R_far (p := ⟨gb623, 3, none⟩) (Kd.R_far (p := ⟨gb623, 2, none⟩) (Kd.R_far (p := ⟨gb623, 1, none⟩) (Kd.R_far (p := ⟨gb623, 0, none⟩) (Kd.R_types HO622.out BK623.out (by decide)) (fun _ hk => hk.2) (.int .i64 t614)) (fun _ hk => hk.2) (.float .f64 t615)) (fun _ hk => hk.2) (.string t616)) (fun _ hk => hk.2) (.slice Ao50 t617.length co50)) (fun _ hk => hk.2) (.slice Ao51 t620.length co51)) (fun _ hk => trivial)⟩
   have n2_ : Aside0 ((((((w47.setCell ⟨gb623, 0, none⟩ (.int .i64 t614)).setCell ⟨gb623, 1, none⟩ (.float .f64 t615)).setCell ⟨gb623, 2, none⟩ (.string t616)).setCell ⟨gb623, 3, none⟩ (.slice Ao50 t617.length co50)).setCell ⟨gb623, 4, none⟩ (.slice Ao51 t620.length co51)).heap[gb613]? = some (.cells #[.int .i64 a0_0, .float .f64 a0_1, .string a0_2, .slice A0_3 l0_3.length c0_3, .slice A0_4 l0_4.length c0_4] 27 (0, 0))) := ⟨bt⟩
   have n3_ : Aside0 ((((((w47.setCell ⟨gb623, 0, none⟩ (.int .i64 t614)).setCell ⟨gb623, 1, none⟩ (.float .f64 t615)).setCell ⟨gb623, 2, none⟩ (.string t616)).setCell ⟨gb623, 3, none⟩ (.slice Ao50 t617.length co50)).setCell ⟨gb623, 4, none⟩ (.slice Ao51 t620.length co51)).heap[gb623]? = some (.cells #[.int .i64 t614, .float .f64 t615, .string t616, .slice Ao50 t617.length co50, .slice Ao51 t620.length co51] 27 (0, 0))) := ⟨bt⟩
   have n4_ : Aside0 (Below w.heap.size w (((((w47.setCell ⟨gb623, 0, none⟩ (.int .i64 t614)).setCell ⟨gb623, 1, none⟩ (.float .f64 t615)).setCell ⟨gb623, 2, none⟩ (.string t616)).setCell ⟨gb623, 3, none⟩ (.slice Ao50 t617.length co50)).setCell ⟨gb623, 4, none⟩ (.slice Ao51 t620.length co51))) := ⟨bel⟩
   (try clear HO619)
   (try clear HO622)
   (try clear BK613)
   (try clear BK623)
   (try clear HB)
   generalize (((((w47.setCell ⟨gb623, 0, none⟩ (.int .i64 t614)).setCell ⟨gb623, 1, none⟩ (.float .f64 t615)).setCell ⟨gb623, 2, none⟩ (.string t616)).setCell ⟨gb623, 3, none⟩ (.slice Ao50 t617.length co50)).setCell ⟨gb623, 4, none⟩ (.slice Ao51 t620.length co51)) = w52 at n0_ n1_ n2_ n3_ n4_ ⊢
   have HO619 := n0_
   have HO622 := n1_
   have BK613 := n2_
   have BK623 := n3_
   have HB := n4_
   clear n0_ n1_ n2_ n3_ n4_
   have n0_ := Aside0.mk (Kd.R_drew HO619.out)
   have n1_ := Aside0.mk (Kd.R_drew HO622.out)
   have n2_ := Aside0.mk (blk_drew BK613.out)
   have n3_ := Aside0.mk (blk_drew BK623.out)
   have n4_ := Aside0.mk (below_drew1 HB.out)
   clear HO619
   clear HO622
   clear BK613
   clear BK623
   clear HB
   have HO619 := n0_
   have HO622 := n1_
   have BK613 := n2_
   have BK623 := n3_
   have HB := n4_
   clear n0_ n1_ n2_ n3_ n4_
   refine start_ (n := 21) (S := fun w' => w'.cell? ⟨gb623, 0, none⟩ = some (.int .i64 t614) ∧ w'.cell? ⟨gb623, 1, none⟩ = some (.float .f64 t615) ∧ w'.cell? ⟨gb623, 2, none⟩ = some (.string t616) ∧ w'.cell? ⟨gb623, 3, none⟩ = some (.slice Ao50 t617.length co50) ∧ w'.cell? ⟨gb623, 4, none⟩ = some (.slice Ao51 t620.length co51) ∧ w'.cell? ⟨gb613, 0, none⟩ = some (.int .i64 a0_0) ∧ w'.cell? ⟨gb613, 1, none⟩ = some (.float .f64 a0_1) ∧ w'.cell? ⟨gb613, 2, none⟩ = some (.string a0_2) ∧ w'.cell? ⟨gb613, 3, none⟩ = some (.slice A0_3 l0_3.length c0_3) ∧ w'.cell? ⟨gb613, 4, none⟩ = some (.slice A0_4 l0_4.length c0_4)) (ds := []) mkA31_0 (by kernel_rfl) rfl rfl ⟨(blk_cell BK623.out 0).trans rfl, (blk_cell BK623.out 1).trans rfl, (blk_cell BK623.out 2).trans rfl, (blk_cell BK623.out 3).trans rfl, (blk_cell BK623.out 4).trans rfl, (blk_cell BK613.out 0).trans rfl, (blk_cell BK613.out 1).trans rfl, (blk_cell BK613.out 2).trans rfl, (blk_cell BK613.out 3).trans rfl, (blk_cell BK613.out 4).trans rfl⟩ (fun hHeld => ?_); refine with_tabW colanderlaw03_ValueRight.tab2 colanderlaw03_ValueRight.bits2 (fun HT_ HW_ => ?_)
   generalize w52.drew = w53 at HO619 HO622 BK613 BK623 HB hHeld ⊢
   refine tq 0 6 mkA31_1 ?_
   refine tq 2 8 mkA31_2 ?_
   refine one_ (i := 1) (N := some 7) mkA31_3 rfl rfl (one_of HT_.out (by kernel_rfl)) (by decide) (fun K hK => ?_)
   refine goes_ Tryz.func17 (by kernel_rfl) rfl #[.agg #[.int .i64 t614, .float .f64 t615, .string t616, .slice Ao50 t617.length co50, .slice Ao51 t620.length co51]] (by rfl) rfl rfl am ?_
   with_reducible refine (value_Right.calls k t614 t615 t616 _ _ t617 _ _ t620 t624 _ ?side1 ?side2 ?side3 ?side4 ?side5 A3.out).mono ?_
   (case side1 => repeat (first | exact (Kd.R_reads' HO619.out).2.2 | (with_reducible refine Kd.C_alloc ?_ _) | (with_reducible refine Kd.C_drewN ?_ _) | (with_reducible refine Kd.C_drew ?_)))
   (case side2 => exact (Kd.R_reads' HO619.out).2.1)
   (case side3 => repeat (first | exact (Kd.R_reads' HO622.out).2.2 | (with_reducible refine Kd.C_alloc ?_ _) | (with_reducible refine Kd.C_drewN ?_ _) | (with_reducible refine Kd.C_drew ?_)))
   (case side4 => exact (Kd.R_reads' HO622.out).2.1)
   (case side5 => first | exact hT | exact tabs_below hT bel)
   rintro e w54 ⟨rfl, hb⟩
   refine ⟨_, rfl, ?_⟩
   have n0_ := Aside0.mk (Kd.R_below (rt HO619) hb)
   have n1_ := Aside0.mk (Kd.R_below (rt HO622) hb)
   have n2_ := bb BK613 hb
   have n3_ := bb BK623 hb
   have n4_ := bes hb
   clear HO619
   clear HO622
   clear BK613
   clear BK623
   clear HB
   have HO619 := n0_
   have HO622 := n1_
   have BK613 := n2_
   have BK623 := n3_
   have HB := n4_
   clear n0_ n1_ n2_ n3_ n4_
   (try clear hb)
   (try clear hb2)
   (try clear hk)
   (try clear hi)
   refine hK.out _ _ ⟨(blk_cell BK623.out 0).trans rfl, (blk_cell BK623.out 1).trans rfl, (blk_cell BK623.out 2).trans rfl, (blk_cell BK623.out 3).trans rfl, (blk_cell BK623.out 4).trans rfl, (blk_cell BK613.out 0).trans rfl, (blk_cell BK613.out 1).trans rfl, (blk_cell BK613.out 2).trans rfl, (blk_cell BK613.out 3).trans rfl, (blk_cell BK613.out 4).trans rfl⟩ (fun hHeld => ?_)
   clear hK K
   refine norm_ (a' := ?_) ?_ ?_
   rotate_left
   ·show Act.put _ (some 7) _ = _
    simp only [Act.put, List.setIfInBounds_toArray, List.set_cons_zero, List.set_cons_succ, i64_w, i32_w]
    rfl
   refine one_ (i := 3) (N := some 9) mkA31_4 rfl rfl (one_of HT_.out (by kernel_rfl)) (by decide) (fun K hK => ?_)
   refine goes_ Tryz.func11 (by kernel_rfl) rfl #[.agg #[.int .i64 a0_0, .float .f64 a0_1, .string a0_2, .slice A0_3 l0_3.length c0_3, .slice A0_4 l0_4.length c0_4]] (by rfl) rfl rfl am ?_
   with_reducible refine (colanderref03_Right.calls k a0_0 a0_1 a0_2 _ _ l0_3 _ _ l0_4 t625 _ ?side1 ?side2 ?side3 ?side4 A4.out).mono ?_
   (case side1 => exact cb HR0_3)
   (case side2 => exact HC0_3.out)
   (case side3 => exact cb HR0_4)
   (case side4 => exact HC0_4.out)
   rintro e w55 ⟨rfl, hb⟩
   refine ⟨_, rfl, ?_⟩
   have n0_ := Aside0.mk (Kd.R_below (rt HO619) hb)
   have n1_ := Aside0.mk (Kd.R_below (rt HO622) hb)
   have n2_ := bb BK613 hb
   have n3_ := bb BK623 hb
   have n4_ := bes hb
   clear HO619
   clear HO622
   clear BK613
   clear BK623
   clear HB
   have HO619 := n0_
   have HO622 := n1_
   have BK613 := n2_
   have BK623 := n3_
   have HB := n4_
   clear n0_ n1_ n2_ n3_ n4_
   (try clear hb)
   (try clear hb2)
   (try clear hk)
   (try clear hi)
   refine hK.out _ _ ⟨(blk_cell BK623.out 0).trans rfl, (blk_cell BK623.out 1).trans rfl, (blk_cell BK623.out 2).trans rfl, (blk_cell BK623.out 3).trans rfl, (blk_cell BK623.out 4).trans rfl, (blk_cell BK613.out 0).trans rfl, (blk_cell BK613.out 1).trans rfl, (blk_cell BK613.out 2).trans rfl, (blk_cell BK613.out 3).trans rfl, (blk_cell BK613.out 4).trans rfl⟩ (fun hHeld => ?_)
   clear hK K
   refine norm_ (a' := ?_) ?_ ?_
   rotate_left
   ·show Act.put _ (some 9) _ = _
    simp only [Act.put, List.setIfInBounds_toArray, List.set_cons_zero, List.set_cons_succ, i64_w, i32_w]
    rfl
   refine pq 4 10 mkA31_5 ?_
   refine pq 5 11 mkA31_6 ?_
   refine tq 6 12 mkA31_7 ?_
   refine one_ (i := 7) (N := some 13) mkA31_8 rfl rfl (one_of HT_.out (by kernel_rfl)) (by decide) (fun K hK => ?_)
   refine goes_ Tryz.func11 (by kernel_rfl) rfl #[.agg #[.int .i64 a0_0, .float .f64 a0_1, .string a0_2, .slice A0_3 l0_3.length c0_3, .slice A0_4 l0_4.length c0_4]] (by rfl) rfl rfl am ?_
   with_reducible refine (colanderref03_Right.calls k a0_0 a0_1 a0_2 _ _ l0_3 _ _ l0_4 false _ ?side1 ?side2 ?side3 ?side4 A6.out).mono ?_
   (case side1 => exact cb HR0_3)
   (case side2 => exact HC0_3.out)
   (case side3 => exact cb HR0_4)
   (case side4 => exact HC0_4.out)
   rintro e w56 ⟨rfl, hb⟩
   refine ⟨_, rfl, ?_⟩
   have n0_ := Aside0.mk (Kd.R_below (rt HO619) hb)
   have n1_ := Aside0.mk (Kd.R_below (rt HO622) hb)
   have n2_ := bb BK613 hb
   have n3_ := bb BK623 hb
   have n4_ := bes hb
   clear HO619
   clear HO622
   clear BK613
   clear BK623
   clear HB
   have HO619 := n0_
   have HO622 := n1_
   have BK613 := n2_
   have BK623 := n3_
   have HB := n4_
   clear n0_ n1_ n2_ n3_ n4_
   (try clear hb)
   (try clear hb2)
   (try clear hk)
   (try clear hi)
   refine hK.out _ _ ⟨(blk_cell BK623.out 0).trans rfl, (blk_cell BK623.out 1).trans rfl, (blk_cell BK623.out 2).trans rfl, (blk_cell BK623.out 3).trans rfl, (blk_cell BK623.out 4).trans rfl, (blk_cell BK613.out 0).trans rfl, (blk_cell BK613.out 1).trans rfl, (blk_cell BK613.out 2).trans rfl, (blk_cell BK613.out 3).trans rfl, (blk_cell BK613.out 4).trans rfl⟩ (fun hHeld => ?_)
   clear hK K
   refine norm_ (a' := ?_) ?_ ?_
   rotate_left
   ·show Act.put _ (some 13) _ = _
    simp only [Act.put, List.setIfInBounds_toArray, List.set_cons_zero, List.set_cons_succ, i64_w, i32_w]
    rfl
   refine pq 8 14 mkA31_9 ?_
   refine pq 9 15 mkA31_10 ?_
   refine uq 10 16 mkA31_11 ?_
   refine uq 11 17 mkA31_22 ?_
   refine uq 12 18 mkA31_13 ?_
   refine uq 13 19 mkA31_14 ?_
   refine uq 14 20 mkA31_15 ?_
   refine pq 15 21 mkA31_16 ?_
   refine pq 16 22 mkA31_17 ?_
   refine pq 17 23 mkA31_18 ?_
   refine one_ (i := 18) (N := some 24) mkA31_19 rfl rfl (one_of HT_.out (by kernel_rfl)) (by decide) (fun K hK => ?_)
   refine goes_ Tryz.func12 (by kernel_rfl) rfl #[] (by rfl) rfl rfl am ?_
   with_reducible refine (colanderlaw03_heads.calls  t630 _ ?side1 A43.out).mono ?_
   (case side1 => first | exact hT | exact tabs_below hT bel)
   rintro e w57 ⟨rfl, hb⟩
   refine ⟨_, rfl, ?_⟩
   have n0_ := Aside0.mk (Kd.R_below (rt HO619) hb)
   have n1_ := Aside0.mk (Kd.R_below (rt HO622) hb)
   have n2_ := bb BK613 hb
   have n3_ := bb BK623 hb
   have n4_ := bes hb
   clear HO619
   clear HO622
   clear BK613
   clear BK623
   clear HB
   have HO619 := n0_
   have HO622 := n1_
   have BK613 := n2_
   have BK623 := n3_
   have HB := n4_
   clear n0_ n1_ n2_ n3_ n4_
   (try clear hb)
   (try clear hb2)
   (try clear hk)
   (try clear hi)
   refine hK.out _ _ ⟨(blk_cell BK623.out 0).trans rfl, (blk_cell BK623.out 1).trans rfl, (blk_cell BK623.out 2).trans rfl, (blk_cell BK623.out 3).trans rfl, (blk_cell BK623.out 4).trans rfl, (blk_cell BK613.out 0).trans rfl, (blk_cell BK613.out 1).trans rfl, (blk_cell BK613.out 2).trans rfl, (blk_cell BK613.out 3).trans rfl, (blk_cell BK613.out 4).trans rfl⟩ (fun hHeld => ?_)
   clear hK K
   refine norm_ (a' := ?_) ?_ ?_
   rotate_left
   ·show Act.put _ (some 24) _ = _
    simp only [Act.put, List.setIfInBounds_toArray, List.set_cons_zero, List.set_cons_succ, i64_w, i32_w]
    rfl
   refine pq 19 25 mkA31_20 ?_
   refine pq 20 2 mkA31_21 ?_
   refine done_ (done_of HT_.out (by kernel_rfl)) ?_
   try go_wp2
   go_ret
   exact fn
 ·rw [if_neg c5] at H
  have c5b0 : (t624 == t625) = false := by simpa using c5
  (try (have c5b1 : decide (t624 = t625) = false := by simpa using c5))
  (try (have c5b2 : (t624 == t625) = false := by simpa using c5))
  (try (have c5b3 : ¬ (t624 = t625) := by simpa using c5))
  clear c5
  obtain rfl := Option.some.inj H
  go_enter Tryz.func4, Tryz.ntmps4
  try go_wp2_with (first | ((with_reducible refine gate_dst (N := 1) rfl ?_); refine box_event ?hg (N := 1) ?hd (cs := #[.int .i64 a0_0, .float .f64 a0_1, .string a0_2, .slice A0_3 l0_3.length c0_3, .slice A0_4 l0_4.length c0_4]) (t := 27) ?hr ?_; (case hd => rfl); (case hg => rfl); (case hr => first | (go_simp; done) | (go_simp; rfl)); intro gb613 hg w58 hbox hb; have n0_ := bes hb; have n1_ := Aside0.mk (hbox); have n2_ := Aside0.mk ((bez hg : w.heap.size ≤ gb613)); have n3_ := Aside0.mk ((bez hg : w.heap.size ≤ gb613)); clear HB; have HB := n0_; have BK613 := n1_; have GW613 := n2_; have GE613 := n3_; clear n0_ n1_ n2_ n3_; clear hb hbox hg; have hcz59_0 : w58.cell? ⟨gb613, 0, none⟩ = some (.int .i64 a0_0) := (blk_cell BK613.out 0).trans rfl; have hcz59_1 : w58.cell? ⟨gb613, 1, none⟩ = some (.float .f64 a0_1) := (blk_cell BK613.out 1).trans rfl; have hcz59_2 : w58.cell? ⟨gb613, 2, none⟩ = some (.string a0_2) := (blk_cell BK613.out 2).trans rfl; have hcz59_3 : w58.cell? ⟨gb613, 3, none⟩ = some (.slice A0_3 l0_3.length c0_3) := (blk_cell BK613.out 3).trans rfl; have hcz59_4 : w58.cell? ⟨gb613, 4, none⟩ = some (.slice A0_4 l0_4.length c0_4) := (blk_cell BK613.out 4).trans rfl; have hfz59_0 := blk_frozen BK613.out 0; have hfz59_1 := blk_frozen BK613.out 1; have hfz59_2 := blk_frozen BK613.out 2; have hfz59_3 := blk_frozen BK613.out 3; have hfz59_4 := blk_frozen BK613.out 4) | ((with_reducible refine gate_callee (f := 16) rfl ?_); refine goesL_ (some 5) rfl rfl Tryz.func16 (by kernel_rfl) rfl #[.agg #[.int .i64 a0_0, .float .f64 a0_1, .string a0_2, .slice A0_3 l0_3.length c0_3, .slice A0_4 l0_4.length c0_4]] rfl am ?_; (with_reducible refine (colanderref03_Copy.calls k a0_0 a0_1 a0_2 _ _ l0_3 _ _ l0_4 t614 t615 t616 t617 t620 _ ?side1 ?side2 ?side3 ?side4 A2.out).mono ?_); (case side1 => exact cb HR0_3); (case side2 => exact HC0_3.out); (case side3 => exact cb HR0_4); (case side4 => exact HC0_4.out); rintro e w60 ⟨v618, v621, rfl, ho0, ho1, hb⟩; refine ⟨_, rfl, ?_⟩; have n0_ := Aside0.mk (Kd.R_lower (Kd.R_newB ho0 (g := gb613) (o := .cells #[.int .i64 a0_0, .float .f64 a0_1, .string a0_2, .slice A0_3 l0_3.length c0_3, .slice A0_4 l0_4.length c0_4] 27 (0, 0)) bt) (below_size bel)); have n1_ := Aside0.mk (Kd.R_lower ho1 (below_size bel)); have n2_ := bb BK613 hb; have n3_ := bes hb; clear BK613; clear HB; have HO619 := n0_; have HO622 := n1_; have BK613 := n2_; have HB := n3_; clear n0_ n1_ n2_ n3_; (try clear hb); (try clear hb2); (try clear hk); (try clear hi); (try clear ho0); (try clear ho1)) | ((with_reducible refine gate_dst (N := 3) rfl ?_); refine box_event ?hg (N := 3) ?hd (cs := #[.int .i64 0, .float .f64 0, .string (⟨#[]⟩ : ByteArray), .slice none 0 0, .slice none 0 0]) (t := 27) ?hr ?_; (case hd => rfl); (case hg => rfl); (case hr => first | (go_simp; done) | (go_simp; rfl)); intro gb623 hg w61 hbox hb; have n0_ := Aside0.mk (Kd.R_below (Kd.R_elderB (rt HO619) gb623 (Nat.le_of_eq hg.symm)) hb); have n1_ := Aside0.mk (Kd.R_below (rt HO622) hb); have n2_ := bb BK613 hb; have n3_ := bes hb; have n4_ := Aside0.mk (hbox); have n5_ := Aside0.mk ((bez hg : w.heap.size ≤ gb623)); have n6_ := Aside0.mk ((bez hg : w.heap.size ≤ gb623)); have n7_ := Aside0.mk ((by rw [hg]; exact Nat.ne_of_lt (blk_lt (g := gb613) (o := .cells #[.int .i64 a0_0, .float .f64 a0_1, .string a0_2, .slice A0_3 l0_3.length c0_3, .slice A0_4 l0_4.length c0_4] 27 (0, 0)) bt) : gb613 ≠ gb623)); have n8_ := Aside0.mk ((by rw [hg]; exact Nat.ne_of_gt (blk_lt (g := gb613) (o := .cells #[.int .i64 a0_0, .float .f64 a0_1, .string a0_2, .slice A0_3 l0_3.length c0_3, .slice A0_4 l0_4.length c0_4] 27 (0, 0)) bt) : gb623 ≠ gb613)); clear HO619; clear HO622; clear BK613; clear HB; have HO619 := n0_; have HO622 := n1_; have BK613 := n2_; have HB := n3_; have BK623 := n4_; have GW623 := n5_; have GE623 := n6_; have NB613_623 := n7_; have NB623_613 := n8_; clear n0_ n1_ n2_ n3_ n4_ n5_ n6_ n7_ n8_; clear hb hbox hg; have hnb62 := NB623_613.out; have hnc62 := NB613_623.out; have hcz63_0 : w61.cell? ⟨gb623, 0, none⟩ = some (.int .i64 0) := (blk_cell BK623.out 0).trans rfl; have hcz63_1 : w61.cell? ⟨gb623, 1, none⟩ = some (.float .f64 0) := (blk_cell BK623.out 1).trans rfl; have hcz63_2 : w61.cell? ⟨gb623, 2, none⟩ = some (.string (⟨#[]⟩ : ByteArray)) := (blk_cell BK623.out 2).trans rfl; have hcz63_3 : w61.cell? ⟨gb623, 3, none⟩ = some (.slice none 0 0) := (blk_cell BK623.out 3).trans rfl; have hcz63_4 : w61.cell? ⟨gb623, 4, none⟩ = some (.slice none 0 0) := (blk_cell BK623.out 4).trans rfl; have hfz63_0 := blk_frozen BK623.out 0; have hfz63_1 := blk_frozen BK623.out 1; have hfz63_2 := blk_frozen BK623.out 2; have hfz63_3 := blk_frozen BK623.out 3; have hfz63_4 := blk_frozen BK623.out 4; obtain ⟨Ao64, co64, eo64⟩ := Kd.R_slice HO619.out; subst eo64; obtain ⟨Ao65, co65, eo65⟩ := Kd.R_slice HO622.out; subst eo65))
  have n0_ : Aside0 (Kd.R k27 27 (((((w61.setCell ⟨gb623, 0, none⟩ (.int .i64 t614)).setCell ⟨gb623, 1, none⟩ (.float .f64 t615)).setCell ⟨gb623, 2, none⟩ (.string t616)).setCell ⟨gb623, 3, none⟩ (.slice Ao64 t617.length co64)).setCell ⟨gb623, 4, none⟩ (.slice Ao65 t620.length co65)) w.heap.size (fun k_ => some k_ ≠ (.slice Ao65 t620.length co65 : Value).ownBlock ∧ k_ ≠ gb613 ∧ k_ ≠ gb623) (.slice Ao64 t617.length co64) t617) := ⟨by (with_reducible repeat (first | apply Kd.R_alloc | apply Kd.R_drewN | apply Kd.R_drew)); exact Kd.R_mono (Kd.R_far (p := ⟨gb623, 4, none⟩) (Kd.R_far (p := ⟨gb623, 3, none⟩) (Kd.R_far (p := ⟨gb623, 2, none⟩) (Kd.R_far (p := ⟨gb623, 1, none⟩) (Kd.R_far (p := ⟨gb623, 0, none⟩) (Kd.R_mono HO619.out (fun k_ hk => (⟨hk, hk.2⟩ : _ ∧ k_ ≠ gb623))) (fun _ hk => hk.2) (.int .i64 t614)) (fun _ hk => hk.2) (.float .f64 t615)) (fun _ hk => hk.2) (.string t616)) (fun _ hk => hk.2) (.slice Ao64 t617.length co64)) (fun _ hk => hk.2) (.slice Ao65 t620.length co65)) (fun _ hk => ⟨hk.1.1.1, ⟨hk.1.1.2, hk.1.2⟩⟩)⟩
  have n1_ : Aside0 (Kd.R Kd.string 9 (((((w61.setCell ⟨gb623, 0, none⟩ (.int .i64 t614)).setCell ⟨gb623, 1, none⟩ (.float .f64 t615)).setCell ⟨gb623, 2, none⟩ (.string t616)).setCell ⟨gb623, 3, none⟩ (.slice Ao64 t617.length co64)).setCell ⟨gb623, 4, none⟩ (.slice Ao65 t620.length co65)) w.heap.size (fun _ => True) (.slice Ao65 t620.length co65) t620) := ⟨by (with_reducible repeat (first | apply Kd.R_alloc | apply Kd.R_drewN | apply Kd.R_drew)); exact Kd.R_mono (Kd.R_far (p := ⟨gb623, 4, none⟩) (Kd.R_far (p := ⟨gb623, 3, none⟩) (Kd.R_far (p := ⟨gb623, 2, none⟩) (Kd.R_far (p := ⟨gb623, 1, none⟩) (Kd.R_far (p := ⟨gb623, 0, none⟩) (Kd.R_types HO622.out BK623.out (by decide)) (fun _ hk => hk.2) (.int .i64 t614)) (fun _ hk => hk.2) (.float .f64 t615)) (fun _ hk => hk.2) (.string t616)) (fun _ hk => hk.2) (.slice Ao64 t617.length co64)) (fun _ hk => hk.2) (.slice Ao65 t620.length co65)) (fun _ hk => trivial)⟩
  have n2_ : Aside0 ((((((w61.setCell ⟨gb623, 0, none⟩ (.int .i64 t614)).setCell ⟨gb623, 1, none⟩ (.float .f64 t615)).setCell ⟨gb623, 2, none⟩ (.string t616)).setCell ⟨gb623, 3, none⟩ (.slice Ao64 t617.length co64)).setCell ⟨gb623, 4, none⟩ (.slice Ao65 t620.length co65)).heap[gb613]? = some (.cells #[.int .i64 a0_0, .float .f64 a0_1, .string a0_2, .slice A0_3 l0_3.length c0_3, .slice A0_4 l0_4.length c0_4] 27 (0, 0))) := ⟨bt⟩
  have n3_ : Aside0 ((((((w61.setCell ⟨gb623, 0, none⟩ (.int .i64 t614)).setCell ⟨gb623, 1, none⟩ (.float .f64 t615)).setCell ⟨gb623, 2, none⟩ (.string t616)).setCell ⟨gb623, 3, none⟩ (.slice Ao64 t617.length co64)).setCell ⟨gb623, 4, none⟩ (.slice Ao65 t620.length co65)).heap[gb623]? = some (.cells #[.int .i64 t614, .float .f64 t615, .string t616, .slice Ao64 t617.length co64, .slice Ao65 t620.length co65] 27 (0, 0))) := ⟨bt⟩
  have n4_ : Aside0 (Below w.heap.size w (((((w61.setCell ⟨gb623, 0, none⟩ (.int .i64 t614)).setCell ⟨gb623, 1, none⟩ (.float .f64 t615)).setCell ⟨gb623, 2, none⟩ (.string t616)).setCell ⟨gb623, 3, none⟩ (.slice Ao64 t617.length co64)).setCell ⟨gb623, 4, none⟩ (.slice Ao65 t620.length co65))) := ⟨bel⟩
  (try clear HO619)
  (try clear HO622)
  (try clear BK613)
  (try clear BK623)
  (try clear HB)
  generalize (((((w61.setCell ⟨gb623, 0, none⟩ (.int .i64 t614)).setCell ⟨gb623, 1, none⟩ (.float .f64 t615)).setCell ⟨gb623, 2, none⟩ (.string t616)).setCell ⟨gb623, 3, none⟩ (.slice Ao64 t617.length co64)).setCell ⟨gb623, 4, none⟩ (.slice Ao65 t620.length co65)) = w66 at n0_ n1_ n2_ n3_ n4_ ⊢
  have HO619 := n0_
  have HO622 := n1_
  have BK613 := n2_
  have BK623 := n3_
  have HB := n4_
  clear n0_ n1_ n2_ n3_ n4_
  have n0_ := Aside0.mk (Kd.R_drew HO619.out)
  have n1_ := Aside0.mk (Kd.R_drew HO622.out)
  have n2_ := Aside0.mk (blk_drew BK613.out)
  have n3_ := Aside0.mk (blk_drew BK623.out)
  have n4_ := Aside0.mk (below_drew1 HB.out)
  clear HO619
  clear HO622
  clear BK613
  clear BK623
  clear HB
  have HO619 := n0_
  have HO622 := n1_
  have BK613 := n2_
  have BK623 := n3_
  have HB := n4_
  clear n0_ n1_ n2_ n3_ n4_
  refine start_ (n := 21) (S := fun w' => w'.cell? ⟨gb623, 0, none⟩ = some (.int .i64 t614) ∧ w'.cell? ⟨gb623, 1, none⟩ = some (.float .f64 t615) ∧ w'.cell? ⟨gb623, 2, none⟩ = some (.string t616) ∧ w'.cell? ⟨gb623, 3, none⟩ = some (.slice Ao64 t617.length co64) ∧ w'.cell? ⟨gb623, 4, none⟩ = some (.slice Ao65 t620.length co65) ∧ w'.cell? ⟨gb613, 0, none⟩ = some (.int .i64 a0_0) ∧ w'.cell? ⟨gb613, 1, none⟩ = some (.float .f64 a0_1) ∧ w'.cell? ⟨gb613, 2, none⟩ = some (.string a0_2) ∧ w'.cell? ⟨gb613, 3, none⟩ = some (.slice A0_3 l0_3.length c0_3) ∧ w'.cell? ⟨gb613, 4, none⟩ = some (.slice A0_4 l0_4.length c0_4)) (ds := []) mkA31_0 (by kernel_rfl) rfl rfl ⟨(blk_cell BK623.out 0).trans rfl, (blk_cell BK623.out 1).trans rfl, (blk_cell BK623.out 2).trans rfl, (blk_cell BK623.out 3).trans rfl, (blk_cell BK623.out 4).trans rfl, (blk_cell BK613.out 0).trans rfl, (blk_cell BK613.out 1).trans rfl, (blk_cell BK613.out 2).trans rfl, (blk_cell BK613.out 3).trans rfl, (blk_cell BK613.out 4).trans rfl⟩ (fun hHeld => ?_); refine with_tabW colanderlaw03_ValueRight.tab2 colanderlaw03_ValueRight.bits2 (fun HT_ HW_ => ?_)
  generalize w66.drew = w67 at HO619 HO622 BK613 BK623 HB hHeld ⊢
  refine tq 0 6 mkA31_1 ?_
  refine tq 2 8 mkA31_2 ?_
  refine one_ (i := 1) (N := some 7) mkA31_3 rfl rfl (one_of HT_.out (by kernel_rfl)) (by decide) (fun K hK => ?_)
  refine goes_ Tryz.func17 (by kernel_rfl) rfl #[.agg #[.int .i64 t614, .float .f64 t615, .string t616, .slice Ao64 t617.length co64, .slice Ao65 t620.length co65]] (by rfl) rfl rfl am ?_
  with_reducible refine (value_Right.calls k t614 t615 t616 _ _ t617 _ _ t620 t624 _ ?side1 ?side2 ?side3 ?side4 ?side5 A3.out).mono ?_
  (case side1 => repeat (first | exact (Kd.R_reads' HO619.out).2.2 | (with_reducible refine Kd.C_alloc ?_ _) | (with_reducible refine Kd.C_drewN ?_ _) | (with_reducible refine Kd.C_drew ?_)))
  (case side2 => exact (Kd.R_reads' HO619.out).2.1)
  (case side3 => repeat (first | exact (Kd.R_reads' HO622.out).2.2 | (with_reducible refine Kd.C_alloc ?_ _) | (with_reducible refine Kd.C_drewN ?_ _) | (with_reducible refine Kd.C_drew ?_)))
  (case side4 => exact (Kd.R_reads' HO622.out).2.1)
  (case side5 => first | exact hT | exact tabs_below hT bel)
  rintro e w68 ⟨rfl, hb⟩
  refine ⟨_, rfl, ?_⟩
  have n0_ := Aside0.mk (Kd.R_below (rt HO619) hb)
  have n1_ := Aside0.mk (Kd.R_below (rt HO622) hb)
  have n2_ := bb BK613 hb
  have n3_ := bb BK623 hb
  have n4_ := bes hb
  clear HO619
  clear HO622
  clear BK613
  clear BK623
  clear HB
  have HO619 := n0_
  have HO622 := n1_
  have BK613 := n2_
  have BK623 := n3_
  have HB := n4_
  clear n0_ n1_ n2_ n3_ n4_
  (try clear hb)
  (try clear hb2)
  (try clear hk)
  (try clear hi)
  refine hK.out _ _ ⟨(blk_cell BK623.out 0).trans rfl, (blk_cell BK623.out 1).trans rfl, (blk_cell BK623.out 2).trans rfl, (blk_cell BK623.out 3).trans rfl, (blk_cell BK623.out 4).trans rfl, (blk_cell BK613.out 0).trans rfl, (blk_cell BK613.out 1).trans rfl, (blk_cell BK613.out 2).trans rfl, (blk_cell BK613.out 3).trans rfl, (blk_cell BK613.out 4).trans rfl⟩ (fun hHeld => ?_)
  clear hK K
  refine norm_ (a' := ?_) ?_ ?_
  rotate_left
  ·show Act.put _ (some 7) _ = _
   simp only [Act.put, List.setIfInBounds_toArray, List.set_cons_zero, List.set_cons_succ, i64_w, i32_w]
   rfl
  refine one_ (i := 3) (N := some 9) mkA31_4 rfl rfl (one_of HT_.out (by kernel_rfl)) (by decide) (fun K hK => ?_)
  refine goes_ Tryz.func11 (by kernel_rfl) rfl #[.agg #[.int .i64 a0_0, .float .f64 a0_1, .string a0_2, .slice A0_3 l0_3.length c0_3, .slice A0_4 l0_4.length c0_4]] (by rfl) rfl rfl am ?_
  with_reducible refine (colanderref03_Right.calls k a0_0 a0_1 a0_2 _ _ l0_3 _ _ l0_4 t625 _ ?side1 ?side2 ?side3 ?side4 A4.out).mono ?_
  (case side1 => exact cb HR0_3)
  (case side2 => exact HC0_3.out)
  (case side3 => exact cb HR0_4)
  (case side4 => exact HC0_4.out)
  rintro e w69 ⟨rfl, hb⟩
  refine ⟨_, rfl, ?_⟩
  have n0_ := Aside0.mk (Kd.R_below (rt HO619) hb)
  have n1_ := Aside0.mk (Kd.R_below (rt HO622) hb)
  have n2_ := bb BK613 hb
  have n3_ := bb BK623 hb
  have n4_ := bes hb
  clear HO619
  clear HO622
  clear BK613
  clear BK623
  clear HB
  have HO619 := n0_
  have HO622 := n1_
  have BK613 := n2_
  have BK623 := n3_
  have HB := n4_
  clear n0_ n1_ n2_ n3_ n4_
  (try clear hb)
  (try clear hb2)
  (try clear hk)
  (try clear hi)
  refine hK.out _ _ ⟨(blk_cell BK623.out 0).trans rfl, (blk_cell BK623.out 1).trans rfl, (blk_cell BK623.out 2).trans rfl, (blk_cell BK623.out 3).trans rfl, (blk_cell BK623.out 4).trans rfl, (blk_cell BK613.out 0).trans rfl, (blk_cell BK613.out 1).trans rfl, (blk_cell BK613.out 2).trans rfl, (blk_cell BK613.out 3).trans rfl, (blk_cell BK613.out 4).trans rfl⟩ (fun hHeld => ?_)
  clear hK K
  refine norm_ (a' := ?_) ?_ ?_
  rotate_left
  ·show Act.put _ (some 9) _ = _
   simp only [Act.put, List.setIfInBounds_toArray, List.set_cons_zero, List.set_cons_succ, i64_w, i32_w]
   rfl
  refine pq 4 10 mkA31_5 ?_
  refine pq 5 11 mkA31_6 ?_
  refine uq 6 12 mkA31_7 ?_
  refine uq 7 13 mkA31_8 ?_
  refine uq 8 14 mkA31_9 ?_
  refine uq 9 15 mkA31_10 ?_
  refine uq 10 16 mkA31_11 ?_
  refine uq 11 17 mkA31_22 ?_
  refine uq 12 18 mkA31_13 ?_
  refine uq 13 19 mkA31_14 ?_
  refine uq 14 20 mkA31_15 ?_
  refine uq 15 21 mkA31_16 ?_
  refine pq 16 22 mkA31_17 ?_
  refine pq 17 23 mkA31_18 ?_
  refine uq 18 24 mkA31_19 ?_
  refine pq 19 25 mkA31_20 ?_
  refine pq 20 2 mkA31_21 ?_
  refine done_ (done_of HT_.out (by kernel_rfl)) ?_
  try go_wp2
  go_ret
  exact fn
end Go.Proofs.YtmpmbnmldmpmiaaGreatDoor.A
