/- Texts of this claim, put together. -/
import Derived.Test.YtmpmbnmldmpmiaaGreatDoorShort
import Derived.Test.YtmpmbnmldmpmiaaGreatDoorA0
namespace Go.Proofs.YtmpmbnmldmpmiaaGreatDoor.A
open Go.RowKit Go.Proofs.YtmpmbnmldmpmiaaGreatDoorW.PrintWords Go.Proofs.YtmpmbnmldmpmiaaGreatDoorW.PrintLast Go.Proofs.YtmpmbnmldmpmiaaGreatDoorW.PrintMore Go.Proofs.YtmpmbnmldmpmiaaGreatDoorW.Short
attribute [local go_sem] max2_int min2_int max_two min_two max_three min_three max_four min_four   -- for this text's walks alone
set_option linter.unusedVariables false
set_option linter.unusedSimpArgs false
@[reducible] def mkA28_0 : Array Bool := #[false, false, false, false, false, false, false, false, false, false, false, false]
@[reducible] def mkA28_1 : Array Bool := #[true, false, false, false, false, false, false, false, false, false, false, false]
@[reducible] def mkA28_2 : Array Bool := #[true, false, true, false, false, false, false, false, false, false, false, false]
@[reducible] def mkA28_3 : Array Bool := #[true, false, true, false, true, false, false, false, false, false, false, false]
@[reducible] def mkA28_4 : Array Bool := #[true, true, true, false, true, false, false, false, false, false, false, false]
@[reducible] def mkA28_5 : Array Bool := #[true, true, true, true, true, false, false, false, false, false, false, false]
@[reducible] def mkA28_6 : Array Bool := #[true, true, true, true, true, true, false, false, false, false, false, false]
@[reducible] def mkA28_7 : Array Bool := #[true, true, true, true, true, true, true, false, false, false, false, false]
@[reducible] def mkA28_8 : Array Bool := #[true, true, true, true, true, true, true, true, false, false, false, false]
@[reducible] def mkA28_9 : Array Bool := #[true, true, true, true, true, true, true, true, true, false, false, false]
@[reducible] def mkA28_10 : Array Bool := #[true, true, true, true, true, true, true, true, true, true, false, false]
@[reducible] def mkA28_11 : Array Bool := #[true, true, true, true, true, true, true, true, true, true, true, false]
@[reducible] def mkA28_12 : Array Bool := #[true, true, true, true, true, true, true, true, true, true, true, true]
mutual
def colanderref03_Copy.l0 : Nat → Int → Int → Nat → ByteArray → List (S27) → List ByteArray → Int → Nat → ByteArray → List (S27) → List ByteArray → Option (Int × Nat × ByteArray × (List (S27)) × List ByteArray)
 | 0, _, _, _, _, _, _, _, _, _, _, _ => none
 | k + 1, x4, x584000, x584001, x584002, x584003, x584004, x586000, x586001, x586002, x586003, x586004 => if x4 < (x584003.length : Int) then (if 0 ≤ x4 then ((colanderref03_Copy.f k ((rd_T27 x584003 x4).f0) ((rd_T27 x584003 x4).f1) ((rd_T27 x584003 x4).f2) ((rd_T27 x584003 x4).f3) ((rd_T27 x584003 x4).f4)).bind fun bt593 => (if x586003.length < 1759218604441 then (colanderref03_Copy.l0 k (wrap64 (x4 + 1)) x584000 x584001 x584002 x584003 x584004 x586000 x586001 x586002 (x586003 ++ [(⟨bt593.1, bt593.2.1, bt593.2.2.1, bt593.2.2.2.1, bt593.2.2.2.2⟩ : S27)]) x586004) else (none))) else (none)) else (some (x586000, x586001, x586002, x586003, x586004))
def colanderref03_Copy.f : Nat → Int → Nat → ByteArray → List (S27) → List ByteArray → Option (Int × Nat × ByteArray × (List (S27)) × List ByteArray)
 | 0, _, _, _, _, _ => none
 | k + 1, a0_0, a0_1, a0_2, l0_3, l0_4 => (some (([] : List ByteArray) : List ByteArray)).bind fun y586 => (if y586.length + l0_4.length < 8796093022208 then (colanderref03_Copy.l0 k 0 a0_0 a0_1 a0_2 l0_3 l0_4 a0_0 a0_1 a0_2 ([] : List (S27)) (y586 ++ l0_4)) else (none))
end
def colanderref03_Copy.T7 : Bool × List (List Nat × List Nat) := (true, [([], []), ([0], [0]), ([], []), ([2], [2]), ([], []), ([3, 4], [3, 4]), ([5], [5]), ([6], [6]), ([7], [7]), ([1, 8, 7], [1, 8]), ([0, 1, 2, 3, 4, 5, 6, 7, 8, 9], []), ([10, 9, 9, 0, 1, 2, 3, 4, 5, 6, 7, 8, 9], [9, 10])])
def colanderref03_Copy.B7 : List Nat := [0, 1, 0, 4, 0, 28, 60, 124, 252, 511, 1023, 2047]
theorem colanderref03_Copy.tab7 : rtab .any (opsOf Tryz.f16 7) = colanderref03_Copy.T7 := by kernel_rfl
theorem colanderref03_Copy.bits7 : waitsOk colanderref03_Copy.T7.2 colanderref03_Copy.B7 = true := by kernel_rfl
set_option maxHeartbeats 8000000 in
set_option maxRecDepth 100000 in
theorem colanderref03_Copy.calls (k : Nat) : ∀ (a0_0 : Int) (a0_1 : Nat) (a0_2 : ByteArray) (A0_3 : Option Addr) (c0_3 : Nat) (l0_3 : List (S27)) (A0_4 : Option Addr) (c0_4 : Nat) (l0_4 : List ByteArray) (r1 : Int) (r2 : Nat) (r3 : ByteArray) (r4 : List (S27)) (r5 : List ByteArray) (w : World) (hr0_3 : Kd.C k27 w A0_3 l0_3.length l0_3) (hc0_3 : l0_3.length ≤ c0_3) (hr0_4 : Kd.C Kd.string w A0_4 l0_4.length l0_4) (hc0_4 : l0_4.length ≤ c0_4) (h : colanderref03_Copy.f k a0_0 a0_1 a0_2 l0_3 l0_4 = some (r1, r2, r3, r4, r5)),
  Calls Tryz.prog 16 #[.agg #[.int .i64 a0_0, .float .f64 a0_1, .string a0_2, .slice A0_3 l0_3.length c0_3, .slice A0_4 l0_4.length c0_4]] w fun e w' => ∃ v3_ v4_ : Value, e = .returned (.agg #[.int .i64 r1, .float .f64 r2, .string r3, v3_, v4_]) ∧ Kd.R k27 27 w' w.heap.size (fun k_ => some k_ ≠ (v4_ : Value).ownBlock) v3_ r4 ∧ Kd.R Kd.string 9 w' w.heap.size (fun _ => True) v4_ r5 ∧ Below w.heap.size w w' := by
 induction k using Nat.strongRecOn with
 | _ k ih =>
 intro a0_0 a0_1 a0_2 A0_3 c0_3 l0_3 A0_4 c0_4 l0_4 r1 r2 r3 r4 r5 w hr0_3 hc0_3 hr0_4 hc0_4 h
 cases k with
 | zero => exact absurd h (by simp [colanderref03_Copy.f])
 | succ k =>
 simp only [colanderref03_Copy.f] at h
 have hu27 := Tryz.underlying27
 have HR0_3 := Aside0.mk hr0_3
 have HC0_3 := Aside0.mk hc0_3
 clear hr0_3 hc0_3
 have HR0_4 := Aside0.mk hr0_4
 have HC0_4 := Aside0.mk hc0_4
 clear hr0_4 hc0_4
 have HB := Aside0.mk (Below.refl w.heap.size w)
 have H : ((some (([] : List ByteArray) : List ByteArray)).bind fun y586 => (if y586.length + l0_4.length < 8796093022208 then (colanderref03_Copy.l0 k 0 a0_0 a0_1 a0_2 l0_3 l0_4 a0_0 a0_1 a0_2 ([] : List (S27)) (y586 ++ l0_4)) else (none))) = some (r1, r2, r3, r4, r5) := h
 clear h
 obtain ⟨y586, hy586⟩ : ∃ y_ : List ByteArray, y_ = (([] : List ByteArray)) := ⟨_, rfl⟩
 replace H : (if y586.length + l0_4.length < 8796093022208 then (colanderref03_Copy.l0 k 0 a0_0 a0_1 a0_2 l0_3 l0_4 a0_0 a0_1 a0_2 ([] : List (S27)) (y586 ++ l0_4)) else (none)) = some (r1, r2, r3, r4, r5) := by first | (rw [hy586]; with_reducible exact H) | (have H2_ := (Option.bind_some _ _).symm.trans H; rw [hy586]; with_reducible exact H2_) | (have H2_ := (Option.bind_some _ _).symm.trans H; with_reducible exact H2_) | with_reducible exact H | (rw [hy586]; exact H) | exact H
 have Ny586 := Aside0.mk hy586
 clear hy586
 by_cases c2 : y586.length + l0_4.length < 8796093022208
 ·rw [if_pos c2] at H
  have LMc2 := Aside0.mk c2
  clear c2
  obtain ⟨y589, hy589⟩ : ∃ y_ : List ByteArray, y_ = (y586 ++ l0_4) := ⟨_, rfl⟩
  replace H : (colanderref03_Copy.l0 k 0 a0_0 a0_1 a0_2 l0_3 l0_4 a0_0 a0_1 a0_2 ([] : List (S27)) y589) = some (r1, r2, r3, r4, r5) := by first | (rw [hy589]; with_reducible exact H) | (have H2_ := (Option.bind_some _ _).symm.trans H; rw [hy589]; with_reducible exact H2_) | (have H2_ := (Option.bind_some _ _).symm.trans H; with_reducible exact H2_) | with_reducible exact H | (rw [hy589]; exact H) | exact H
  have Ny589 := Aside0.mk hy589
  clear hy589
  have H' := Aside0.mk H
  clear H
  go_enter Tryz.func16, Tryz.ntmps16
  go_wp2_with (first | ((with_reducible refine gate_dst (N := 1) rfl ?_); refine box_event ?hg (N := 1) ?hd (cs := #[.int .i64 a0_0, .float .f64 a0_1, .string a0_2, .slice A0_3 l0_3.length c0_3, .slice A0_4 l0_4.length c0_4]) (t := 27) ?hr ?_; (case hd => rfl); (case hg => rfl); (case hr => first | (go_simp; done) | (go_simp; rfl)); intro gb583 hg w3 hbox hb; have n0_ := bes hb; have n1_ := Aside0.mk (hbox); have n2_ := Aside0.mk ((bez hg : w.heap.size ≤ gb583)); have n3_ := Aside0.mk ((bez hg : w.heap.size ≤ gb583)); clear HB; have HB := n0_; have BK583 := n1_; have GW583 := n2_; have GE583 := n3_; clear n0_ n1_ n2_ n3_; clear hb hbox hg) | ((with_reducible refine gate_dst (N := 2) rfl ?_); refine box_event ?hg (N := 2) ?hd (cs := #[.int .i64 0, .float .f64 0, .string (⟨#[]⟩ : ByteArray), .slice none 0 0, .slice none 0 0]) (t := 27) ?hr ?_; (case hd => rfl); (case hg => rfl); (case hr => first | (go_simp; done) | (go_simp; rfl)); intro gb584 hg w4 hbox hb; have n0_ := bb BK583 hb; have n1_ := bes hb; have n2_ := Aside0.mk (hbox); have n3_ := Aside0.mk ((bez hg : w.heap.size ≤ gb584)); have n4_ := Aside0.mk ((bez hg : w.heap.size ≤ gb584)); have n5_ := Aside0.mk ((by rw [hg]; exact Nat.ne_of_lt (blk_lt (g := gb583) (o := .cells #[.int .i64 a0_0, .float .f64 a0_1, .string a0_2, .slice A0_3 l0_3.length c0_3, .slice A0_4 l0_4.length c0_4] 27 (0, 0)) bt) : gb583 ≠ gb584)); have n6_ := Aside0.mk ((by rw [hg]; exact Nat.ne_of_gt (blk_lt (g := gb583) (o := .cells #[.int .i64 a0_0, .float .f64 a0_1, .string a0_2, .slice A0_3 l0_3.length c0_3, .slice A0_4 l0_4.length c0_4] 27 (0, 0)) bt) : gb584 ≠ gb583)); clear BK583; clear HB; have BK583 := n0_; have HB := n1_; have BK584 := n2_; have GW584 := n3_; have GE584 := n4_; have NB583_584 := n5_; have NB584_583 := n6_; clear n0_ n1_ n2_ n3_ n4_ n5_ n6_; clear hb hbox hg; have hnb5 := NB583_584.out; have hnc5 := NB584_583.out; have hcz6_0 : w4.cell? ⟨gb583, 0, none⟩ = some (.int .i64 a0_0) := (blk_cell BK583.out 0).trans rfl; have hcz6_1 : w4.cell? ⟨gb583, 1, none⟩ = some (.float .f64 a0_1) := (blk_cell BK583.out 1).trans rfl; have hcz6_2 : w4.cell? ⟨gb583, 2, none⟩ = some (.string a0_2) := (blk_cell BK583.out 2).trans rfl; have hcz6_3 : w4.cell? ⟨gb583, 3, none⟩ = some (.slice A0_3 l0_3.length c0_3) := (blk_cell BK583.out 3).trans rfl; have hcz6_4 : w4.cell? ⟨gb583, 4, none⟩ = some (.slice A0_4 l0_4.length c0_4) := (blk_cell BK583.out 4).trans rfl; have hfz6_0 := blk_frozen BK583.out 0; have hfz6_1 := blk_frozen BK583.out 1; have hfz6_2 := blk_frozen BK583.out 2; have hfz6_3 := blk_frozen BK583.out 3; have hfz6_4 := blk_frozen BK583.out 4) | ((with_reducible refine gate_dst (N := 3) rfl ?_); refine box_event ?hg (N := 3) ?hd (cs := #[.int .i64 0, .float .f64 0, .string (⟨#[]⟩ : ByteArray), .slice none 0 0, .slice none 0 0]) (t := 27) ?hr ?_; (case hd => rfl); (case hg => rfl); (case hr => first | (go_simp; done) | (go_simp; rfl)); intro gb585 hg w7 hbox hb; have n0_ := bb BK583 hb; have n1_ := bb BK584 hb; have n2_ := bes hb; have n3_ := Aside0.mk (hbox); have n4_ := Aside0.mk ((bez hg : w.heap.size ≤ gb585)); have n5_ := Aside0.mk ((bez hg : w.heap.size ≤ gb585)); have n6_ := Aside0.mk ((by rw [hg]; exact Nat.ne_of_lt (blk_lt (g := gb583) (o := .cells #[.int .i64 a0_0, .float .f64 a0_1, .string a0_2, .slice A0_3 l0_3.length c0_3, .slice A0_4 l0_4.length c0_4] 27 (0, 0)) bt) : gb583 ≠ gb585)); have n7_ := Aside0.mk ((by rw [hg]; exact Nat.ne_of_gt (blk_lt (g := gb583) (o := .cells #[.int .i64 a0_0, .float .f64 a0_1, .string a0_2, .slice A0_3 l0_3.length c0_3, .slice A0_4 l0_4.length c0_4] 27 (0, 0)) bt) : gb585 ≠ gb583)); have n8_ := Aside0.mk ((by rw [hg]; exact Nat.ne_of_lt (blk_lt (g := gb584) (o := .cells #[.int .i64 0, .float .f64 0, .string (⟨#[]⟩ : ByteArray), .slice none 0 0, .slice none 0 0] 27 (0, 0)) bt) : gb584 ≠ gb585)); have n9_ := Aside0.mk ((by rw [hg]; exact Nat.ne_of_gt (blk_lt (g := gb584) (o := .cells #[.int .i64 0, .float .f64 0, .string (⟨#[]⟩ : ByteArray), .slice none 0 0, .slice none 0 0] 27 (0, 0)) bt) : gb585 ≠ gb584)); clear BK583; clear BK584; clear HB; have BK583 := n0_; have BK584 := n1_; have HB := n2_; have BK585 := n3_; have GW585 := n4_; have GE585 := n5_; have NB583_585 := n6_; have NB585_583 := n7_; have NB584_585 := n8_; have NB585_584 := n9_; clear n0_ n1_ n2_ n3_ n4_ n5_ n6_ n7_ n8_ n9_; clear hb hbox hg; have hnb8 := NB585_583.out; have hnc8 := NB583_585.out; have hnb9 := NB585_584.out; have hnc9 := NB584_585.out; have hcz10_0 : w7.cell? ⟨gb585, 0, none⟩ = some (.int .i64 0) := (blk_cell BK585.out 0).trans rfl; have hcz10_1 : w7.cell? ⟨gb585, 1, none⟩ = some (.float .f64 0) := (blk_cell BK585.out 1).trans rfl; have hcz10_2 : w7.cell? ⟨gb585, 2, none⟩ = some (.string (⟨#[]⟩ : ByteArray)) := (blk_cell BK585.out 2).trans rfl; have hcz10_3 : w7.cell? ⟨gb585, 3, none⟩ = some (.slice none 0 0) := (blk_cell BK585.out 3).trans rfl; have hcz10_4 : w7.cell? ⟨gb585, 4, none⟩ = some (.slice none 0 0) := (blk_cell BK585.out 4).trans rfl; have hfz10_0 := blk_frozen BK585.out 0; have hfz10_1 := blk_frozen BK585.out 1; have hfz10_2 := blk_frozen BK585.out 2; have hfz10_3 := blk_frozen BK585.out 3; have hfz10_4 := blk_frozen BK585.out 4) | ((with_reducible refine gate_dst (N := 6) rfl ?_); refine Kd.R_lit Kd.string _ 9 ?hg (N := 6) ?hd (xs := ([] : List ByteArray)) (inner := []) (ok := fun _ => True) (okp := fun _ => True) ?hr ?hp (fun _ hk => hk) trivial (Below.refl _ _) (Nat.le_refl _) (by simp) ?_; (case hd => rfl); (case hg => rfl); (case hr => first | (go_simp; done) | (go_simp; rfl)); (case hp => exact (Reps.none _ _)); intro v587 w11 ho12 hb hg_ hnew_; clear hg_ hnew_; (first | rw [← Ny586.out] at ho12 | (simp only [Int.reduceToNat] at ho12; rw [← Ny586.out] at ho12)); have n0_ := Aside0.mk (Kd.R_lower ho12 (below_size bel)); have n1_ := bb BK583 hb; have n2_ := bb BK584 hb; have n3_ := Aside0.mk (blk_below (g := gb585) (o := .cells #[.int .i64 a0_0, .float .f64 a0_1, .string a0_2, .slice A0_3 l0_3.length c0_3, .slice A0_4 l0_4.length c0_4] 27 (0, 0)) bt hb); have n4_ := bes hb; clear BK583; clear BK584; clear BK585; clear HB; have HO588 := n0_; have BK583 := n1_; have BK584 := n2_; have BK585 := n3_; have HB := n4_; clear n0_ n1_ n2_ n3_ n4_; clear hb ho12; have hcz13_0 : w11.cell? ⟨gb583, 0, none⟩ = some (.int .i64 a0_0) := (blk_cell BK583.out 0).trans rfl; have hcz13_1 : w11.cell? ⟨gb583, 1, none⟩ = some (.float .f64 a0_1) := (blk_cell BK583.out 1).trans rfl; have hcz13_2 : w11.cell? ⟨gb583, 2, none⟩ = some (.string a0_2) := (blk_cell BK583.out 2).trans rfl; have hcz13_3 : w11.cell? ⟨gb583, 3, none⟩ = some (.slice A0_3 l0_3.length c0_3) := (blk_cell BK583.out 3).trans rfl; have hcz13_4 : w11.cell? ⟨gb583, 4, none⟩ = some (.slice A0_4 l0_4.length c0_4) := (blk_cell BK583.out 4).trans rfl; have hfz13_0 := blk_frozen BK583.out 0; have hfz13_1 := blk_frozen BK583.out 1; have hfz13_2 := blk_frozen BK583.out 2; have hfz13_3 := blk_frozen BK583.out 3; have hfz13_4 := blk_frozen BK583.out 4) | ((with_reducible refine gate_builtin (b := .append) (xs := #[.tmp 6, .tmp 8]) rfl ?_); at_builtin; refine Kd.R_append_rows Kd.string (w0 := w) w.heap.size rfl (.tmp 6) (.tmp 8) 25 9 (.string ⟨#[]⟩) 16 rfl Tryz.underlying25 info9 rfl (by decide) (by omega) v587 y586 l0_4 _ _ _ (fun _ => True) (fun _ => False) rfl rfl ?aO ?aR (fun _ _ h => h) (fun _ h => h.elim) ?aF ?aB ?aS ?aL ?_; (case aR => repeat (first | exact (Kd.C_below HR0_4.out HB.out) | (with_reducible refine Kd.C_alloc ?_ _) | (with_reducible refine Kd.C_drewN ?_ _) | (with_reducible refine Kd.C_drew ?_))); (case aB => exact bel); (case aF => exact (fun _ _ => trivial)); (case aO => exact (rt HO588)); (case aS => exact (below_size bel)); (case aL => have := LMc2.out; omega); intro v590 w14 ho hb hg hat; rw [← Ny589.out] at ho; have n0_ := Aside0.mk (blk_grown (g := gb583) (o := .cells #[.int .i64 a0_0, .float .f64 a0_1, .string a0_2, .slice A0_3 l0_3.length c0_3, .slice A0_4 l0_4.length c0_4] 27 (0, 0)) bt hg (Kd.R_ne HO588.out BK583.out (by decide))); have n1_ := Aside0.mk (blk_grown (g := gb584) (o := .cells #[.int .i64 0, .float .f64 0, .string (⟨#[]⟩ : ByteArray), .slice none 0 0, .slice none 0 0] 27 (0, 0)) bt hg (Kd.R_ne HO588.out BK584.out (by decide))); have n2_ := Aside0.mk (blk_grown (g := gb585) (o := .cells #[.int .i64 a0_0, .float .f64 a0_1, .string a0_2, .slice A0_3 l0_3.length c0_3, .slice A0_4 l0_4.length c0_4] 27 (0, 0)) bt hg (Kd.R_ne HO588.out BK585.out (by decide))); have n3_ := Aside0.mk (hb); have n4_ := Aside0.mk (ho); clear BK583; clear BK584; clear BK585; clear HB; clear HO588; have BK583 := n0_; have BK584 := n1_; have BK585 := n2_; have HB := n3_; have HO591 := n4_; clear n0_ n1_ n2_ n3_ n4_; clear ho hb hg hat; obtain ⟨Ao15, co15, eo15⟩ := Kd.R_slice HO591.out; subst eo15; have hcz16_0 : w14.cell? ⟨gb585, 0, none⟩ = some (.int .i64 a0_0) := (blk_cell BK585.out 0).trans rfl; have hcz16_1 : w14.cell? ⟨gb585, 1, none⟩ = some (.float .f64 a0_1) := (blk_cell BK585.out 1).trans rfl; have hcz16_2 : w14.cell? ⟨gb585, 2, none⟩ = some (.string a0_2) := (blk_cell BK585.out 2).trans rfl; have hcz16_3 : w14.cell? ⟨gb585, 3, none⟩ = some (.slice A0_3 l0_3.length c0_3) := (blk_cell BK585.out 3).trans rfl; have hcz16_4 : w14.cell? ⟨gb585, 4, none⟩ = some (.slice A0_4 l0_4.length c0_4) := (blk_cell BK585.out 4).trans rfl; have hfz16_0 := blk_frozen BK585.out 0; have hfz16_1 := blk_frozen BK585.out 1; have hfz16_2 := blk_frozen BK585.out 2; have hfz16_3 := blk_frozen BK585.out 3; have hfz16_4 := blk_frozen BK585.out 4))
  go_loopg [4] k (fun kq v4 w' => ∃ (x4_1 : Int) (x586003_1 : List (S27)) (u586003 : Value), v4 = .int .i64 x4_1 ∧ Aside0 (colanderref03_Copy.l0 kq x4_1 a0_0 a0_1 a0_2 l0_3 l0_4 a0_0 a0_1 a0_2 x586003_1 y589 = some (r1, r2, r3, r4, r5)) ∧ Aside0 (kq ≤ k) ∧ Aside0 (Kd.R k27 27 w' w.heap.size (fun k_ => some k_ ≠ ((.slice Ao15 y589.length co15) : Value).ownBlock ∧ k_ ≠ gb583 ∧ k_ ≠ gb584 ∧ k_ ≠ gb585) u586003 x586003_1) ∧ Aside0 (Kd.R Kd.string 9 w' w.heap.size (fun _ => True) (.slice Ao15 y589.length co15) y589) ∧ Aside0 (w'.heap[gb583]? = some (.cells #[.int .i64 a0_0, .float .f64 a0_1, .string a0_2, (.slice A0_3 l0_3.length c0_3), (.slice A0_4 l0_4.length c0_4)] 27 (0, 0))) ∧ Aside0 (w'.heap[gb584]? = some (.cells #[.int .i64 0, .float .f64 0, .string (⟨#[]⟩ : ByteArray), (.slice none 0 0), (.slice none 0 0)] 27 (0, 0))) ∧ Aside0 (w'.heap[gb585]? = some (.cells #[.int .i64 a0_0, .float .f64 a0_1, .string a0_2, u586003, (.slice Ao15 y589.length co15)] 27 (0, 0))) ∧ Aside0 (Below w.heap.size w w'))
  case atStart => exact ⟨(0), (([] : List (S27))), (.slice none 0 0), pv, H', ⟨Nat.le_refl _⟩, ⟨by first | exact Kd.R_nil _ _ _ _ _ | exact Kd.N_nil _ _ _ _ _ | exact Kd.V_nil _ _ _ _ _ | exact Kd.Q_nil _ _ _ _ _ | exact Kd.S_nil _ _ _ _ _⟩, ⟨by (with_reducible repeat (first | apply Kd.R_alloc | apply Kd.R_drewN | apply Kd.R_drew)); exact Kd.R_mono (Kd.R_far (p := ⟨gb585, 3, none⟩) (Kd.R_far (p := ⟨gb585, 4, none⟩) (Kd.R_types HO591.out BK585.out (by decide)) (fun _ hk => hk.2) (.slice Ao15 y589.length co15)) (fun _ hk => hk.2) (.slice none 0 0)) (fun _ hk => trivial)⟩, ⟨bt⟩, ⟨bt⟩, ⟨bt⟩, ⟨bel⟩⟩
  case round =>
   clear H'
   (try clear c1);(try clear c2);(try clear p2);(try clear c5);(try clear c8);(try clear c9);(try clear c16);(try clear hcz10_0);(try clear hcz10_1);(try clear hcz10_2);(try clear hcz10_3);(try clear hcz10_4);(try clear hcz13_0);(try clear hcz13_1);(try clear hcz13_2);(try clear hcz13_3);(try clear hcz13_4);(try clear hcz16_0);(try clear hcz16_1);(try clear hcz16_2);(try clear hcz16_3);(try clear hcz16_4);(try clear hcz6_0);(try clear hcz6_1);(try clear hcz6_2);(try clear hcz6_3);(try clear hcz6_4);(try clear hfz10_0);(try clear hfz10_1);(try clear hfz10_2);(try clear hfz10_3);(try clear hfz10_4);(try clear hfz13_0);(try clear hfz13_1);(try clear hfz13_2);(try clear hfz13_3);(try clear hfz13_4);(try clear hfz16_0);(try clear hfz16_1);(try clear hfz16_2);(try clear hfz16_3);(try clear hfz16_4);(try clear hfz6_0);(try clear hfz6_1);(try clear hfz6_2);(try clear hfz6_3);(try clear hfz6_4)
   (try clear HO_586003);(try clear HO_586004);(try clear BK583);(try clear BK584);(try clear BK585);(try clear HB)
   obtain ⟨x4_1, x586003_1, u586003, rfl, HA, HK1, HO_586003, HO_586004, BK583, BK584, BK585, HB⟩ := hrel
   cases gk with
   | zero => exact absurd HA.out (by simp [colanderref03_Copy.l0])
   | succ k1 =>
    have H := HA.out
    clear HA
    simp only [colanderref03_Copy.l0] at H
    by_cases c17 : x4_1 < (l0_3.length : Int)
    ·rw [if_pos c17] at H
     have c17b0 : decide (x4_1 < (l0_3.length : Int)) = true := decide_eq_true c17
     clear c17
     by_cases c18 : 0 ≤ x4_1
     ·rw [if_pos c18] at H
      have c18b0 : decide (0 ≤ x4_1) = true := decide_eq_true c18
      clear c18
      replace H := Option.bind_eq_some_iff.mp H
      obtain ⟨⟨t593, t594, t595, t596, t599⟩, A190, H⟩ := H
      replace H : (if x586003_1.length < 1759218604441 then (colanderref03_Copy.l0 k1 (wrap64 (x4_1 + 1)) a0_0 a0_1 a0_2 l0_3 l0_4 a0_0 a0_1 a0_2 (x586003_1 ++ [(⟨t593, t594, t595, t596, t599⟩ : S27)]) y589) else (none)) = some (r1, r2, r3, r4, r5) := H
      have A19 := Aside0.mk A190
      clear A190
      by_cases c20 : x586003_1.length < 1759218604441
      ·rw [if_pos c20] at H
       have LMc20 := Aside0.mk c20
       clear c20
       obtain ⟨y602, hy602⟩ : ∃ y_ : List (S27), y_ = (x586003_1 ++ [(⟨t593, t594, t595, t596, t599⟩ : S27)]) := ⟨_, rfl⟩
       replace H : (colanderref03_Copy.l0 k1 (wrap64 (x4_1 + 1)) a0_0 a0_1 a0_2 l0_3 l0_4 a0_0 a0_1 a0_2 y602 y589) = some (r1, r2, r3, r4, r5) := by first | (rw [hy602]; with_reducible exact H) | (have H2_ := (Option.bind_some _ _).symm.trans H; rw [hy602]; with_reducible exact H2_) | (have H2_ := (Option.bind_some _ _).symm.trans H; with_reducible exact H2_) | with_reducible exact H | (rw [hy602]; exact H) | exact H
       have Ny602 := Aside0.mk hy602
       clear hy602
       have H' := Aside0.mk H
       clear H
       have hnb21 := NB583_584.out
       have hnc21 := NB584_583.out
       have hnb22 := NB583_585.out
       have hnc22 := NB585_583.out
       have hcz23_0 : wr.cell? ⟨gb583, 0, none⟩ = some (.int .i64 a0_0) := (blk_cell BK583.out 0).trans rfl
       have hcz23_1 : wr.cell? ⟨gb583, 1, none⟩ = some (.float .f64 a0_1) := (blk_cell BK583.out 1).trans rfl
       have hcz23_2 : wr.cell? ⟨gb583, 2, none⟩ = some (.string a0_2) := (blk_cell BK583.out 2).trans rfl
       have hcz23_3 : wr.cell? ⟨gb583, 3, none⟩ = some (.slice A0_3 l0_3.length c0_3) := (blk_cell BK583.out 3).trans rfl
       have hcz23_4 : wr.cell? ⟨gb583, 4, none⟩ = some (.slice A0_4 l0_4.length c0_4) := (blk_cell BK583.out 4).trans rfl
       have hfz23_0 := blk_frozen BK583.out 0
       have hfz23_1 := blk_frozen BK583.out 1
       have hfz23_2 := blk_frozen BK583.out 2
       have hfz23_3 := blk_frozen BK583.out 3
       have hfz23_4 := blk_frozen BK583.out 4
       try go_wp2
       have n0_ := Aside0.mk (Kd.R_drew HO_586003.out)
       have n1_ := Aside0.mk (Kd.R_drew HO_586004.out)
       have n2_ := Aside0.mk (blk_drew BK583.out)
       have n3_ := Aside0.mk (blk_drew BK584.out)
       have n4_ := Aside0.mk (blk_drew BK585.out)
       have n5_ := Aside0.mk (below_drew1 HB.out)
       clear HO_586003
       clear HO_586004
       clear BK583
       clear BK584
       clear BK585
       clear HB
       have HO_586003 := n0_
       have HO_586004 := n1_
       have BK583 := n2_
       have BK584 := n3_
       have BK585 := n4_
       have HB := n5_
       clear n0_ n1_ n2_ n3_ n4_ n5_
       have p592 : 0 ≤ (x4_1 : Int) := of_decide_eq_true ass
       have q592 : x4_1 < (l0_3.length : Int) := of_decide_eq_true ass
       obtain ⟨ad592, A592_3, c592_3, A592_4, c592_4, e592, hx592_0, hx592_1, hx592_2, hx592_3, hx592_4, hl592_3, hi592_3, hl592_4, hi592_4⟩ := at_T27 HR0_3.out x4_1 p592 q592
       have hw592_4 := hx592_4
       have hw592_3 := hx592_3
       have hw592_2 := hx592_2
       have hw592_1 := hx592_1
       have hw592_0 := hx592_0
       cases e592
       replace hx592_0 := cq HB hx592_0
       replace hx592_1 := cq HB hx592_1
       replace hx592_2 := cq HB hx592_2
       replace hx592_3 := cq HB hx592_3
       replace hx592_4 := cq HB hx592_4
       have HR592_3 := Aside0.mk hi592_3
       have HC592_3 := Aside0.mk hl592_3
       clear hi592_3 hl592_3
       have HR592_4 := Aside0.mk hi592_4
       have HC592_4 := Aside0.mk hl592_4
       clear hi592_4 hl592_4
       replace p592 := eq_true p592
       replace q592 := eq_true q592
       refine start_ (n := 12) (S := fun w' => w'.cell? ⟨gb585, 0, none⟩ = some (.int .i64 a0_0) ∧ w'.cell? ⟨gb585, 1, none⟩ = some (.float .f64 a0_1) ∧ w'.cell? ⟨gb585, 2, none⟩ = some (.string a0_2) ∧ w'.cell? ⟨gb585, 3, none⟩ = some (u586003) ∧ w'.cell? ⟨gb585, 4, none⟩ = some (.slice Ao15 y589.length co15) ∧ w'.cell? ⟨gb583, 0, none⟩ = some (.int .i64 a0_0) ∧ w'.cell? ⟨gb583, 1, none⟩ = some (.float .f64 a0_1) ∧ w'.cell? ⟨gb583, 2, none⟩ = some (.string a0_2) ∧ w'.cell? ⟨gb583, 3, none⟩ = some (.slice (some ad592) l0_3.length c0_3) ∧ w'.cell? ⟨gb583, 4, none⟩ = some (.slice A0_4 l0_4.length c0_4) ∧ w'.cell? (ad592.add ((x4_1).toNat * 5)) = some (.int .i64 ((rd_T27 l0_3 x4_1).f0)) ∧ w'.cell? ⟨(ad592.add ((x4_1).toNat * 5)).block, (ad592.add ((x4_1).toNat * 5)).off + 1, none⟩ = some (.float .f64 ((rd_T27 l0_3 x4_1).f1)) ∧ w'.cell? ⟨(ad592.add ((x4_1).toNat * 5)).block, (ad592.add ((x4_1).toNat * 5)).off + 2, none⟩ = some (.string ((rd_T27 l0_3 x4_1).f2)) ∧ w'.cell? ⟨(ad592.add ((x4_1).toNat * 5)).block, (ad592.add ((x4_1).toNat * 5)).off + 3, none⟩ = some (.slice A592_3 ((rd_T27 l0_3 x4_1).f3).length c592_3) ∧ w'.cell? ⟨(ad592.add ((x4_1).toNat * 5)).block, (ad592.add ((x4_1).toNat * 5)).off + 4, none⟩ = some (.slice A592_4 ((rd_T27 l0_3 x4_1).f4).length c592_4)) (ds := [11]) mkA28_0 (by kernel_rfl) rfl rfl ⟨(blk_cell BK585.out 0).trans rfl, (blk_cell BK585.out 1).trans rfl, (blk_cell BK585.out 2).trans rfl, (blk_cell BK585.out 3).trans rfl, (blk_cell BK585.out 4).trans rfl, (blk_cell BK583.out 0).trans rfl, (blk_cell BK583.out 1).trans rfl, (blk_cell BK583.out 2).trans rfl, (blk_cell BK583.out 3).trans rfl, (blk_cell BK583.out 4).trans rfl, ((cq HB hw592_0).trans rfl), ((cq HB hw592_1).trans rfl), ((cq HB hw592_2).trans rfl), ((cq HB hw592_3).trans rfl), ((cq HB hw592_4).trans rfl)⟩ (fun hHeld => ?_); refine with_tabW colanderref03_Copy.tab7 colanderref03_Copy.bits7 (fun HT_ HW_ => ?_)
       generalize wr.drew = w24 at HO_586003 HO_586004 BK583 BK584 BK585 HB HR592_3 HR592_4 hx592_0 hx592_1 hx592_2 hx592_3 hx592_4 hHeld ⊢
       refine pq 0 19 mkA28_1 ?_
       refine pq 2 21 mkA28_2 ?_
       refine pq 4 23 mkA28_3 ?_
       refine tq 1 20 mkA28_4 ?_
       refine tq 3 22 mkA28_5 ?_
       refine pq 5 24 mkA28_6 ?_
       refine tq 6 25 mkA28_7 ?_
       refine one_ (i := 7) (N := some 26) mkA28_8 rfl rfl (one_of HT_.out (by kernel_rfl)) (by decide) (fun K hK => ?_)
       refine goes_ Tryz.func16 (by kernel_rfl) rfl #[.agg #[.int .i64 ((rd_T27 l0_3 x4_1).f0), .float .f64 ((rd_T27 l0_3 x4_1).f1), .string ((rd_T27 l0_3 x4_1).f2), .slice A592_3 ((rd_T27 l0_3 x4_1).f3).length c592_3, .slice A592_4 ((rd_T27 l0_3 x4_1).f4).length c592_4]] (by rfl) rfl rfl am ?_
       with_reducible refine (ih k1 (by have := HK1.out; omega) ((rd_T27 l0_3 x4_1).f0) ((rd_T27 l0_3 x4_1).f1) ((rd_T27 l0_3 x4_1).f2) _ _ ((rd_T27 l0_3 x4_1).f3) _ _ ((rd_T27 l0_3 x4_1).f4) t593 t594 t595 t596 t599 _ ?side1 ?side2 ?side3 ?side4 A19.out).mono ?_
       (case side1 => exact cb HR592_3)
       (case side2 => exact HC592_3.out)
       (case side3 => exact cb HR592_4)
       (case side4 => exact HC592_4.out)
       rintro e w25 ⟨v597, v600, rfl, ho0, ho1, hb⟩
       refine ⟨_, rfl, ?_⟩
       have n0_ := Aside0.mk (Kd.R_mono (Kd.R_told (Kd.R_told (Kd.R_old (rt HO_586003) hb) (Kd.R_base ho0)) (Kd.R_base ho1)) (fun _ h_ => h_.1))
       have n1_ := Aside0.mk (Kd.R_elder' (rt HO_586004) (Kd.R_base ho1) hb)
       have n2_ := Aside0.mk (Kd.R_lower (Kd.R_newB (Kd.R_newB (Kd.R_newB (Kd.R_new' (Kd.R_new' ho0 (Kd.R_lt (rt HO_586003))) (Kd.R_lt (rt HO_586004))) (g := gb583) (o := .cells #[.int .i64 a0_0, .float .f64 a0_1, .string a0_2, .slice (some ad592) l0_3.length c0_3, .slice A0_4 l0_4.length c0_4] 27 (0, 0)) bt) (g := gb584) (o := .cells #[.int .i64 0, .float .f64 0, .string (⟨#[]⟩ : ByteArray), .slice none 0 0, .slice none 0 0] 27 (0, 0)) bt) (g := gb585) (o := .cells #[.int .i64 a0_0, .float .f64 a0_1, .string a0_2, u586003, .slice Ao15 y589.length co15] 27 (0, 0)) bt) (below_size bel))
       have n3_ := Aside0.mk (Kd.R_lower (Kd.R_new' ho1 (Kd.R_lt (rt HO_586004))) (below_size bel))
       have n4_ := bb BK583 hb
       have n5_ := bb BK584 hb
       have n6_ := bb BK585 hb
       have n7_ := bes hb
       clear HO_586003
       clear HO_586004
       clear BK583
       clear BK584
       clear BK585
       clear HB
       have HO_586003 := n0_
       have HO_586004 := n1_
       have HO598 := n2_
       have HO601 := n3_
       have BK583 := n4_
       have BK584 := n5_
       have BK585 := n6_
       have HB := n7_
       clear n0_ n1_ n2_ n3_ n4_ n5_ n6_ n7_
       (try clear hb)
       (try clear hb2)
       (try clear hk)
       (try clear hi)
       (try clear ho0)
       (try clear ho1)
       obtain ⟨Ao27, co27, eo27⟩ := Kd.R_slice HO598.out
       (first | subst eo27 | (injection eo27 with f1_ f2_ f3_; have f4_ := f1_.symm; have f5_ := f3_.symm; clear f1_ f2_ f3_; subst f4_; subst f5_))
       obtain ⟨Ao28, co28, eo28⟩ := Kd.R_slice HO601.out
       (first | subst eo28 | (injection eo28 with f1_ f2_ f3_; have f4_ := f1_.symm; have f5_ := f3_.symm; clear f1_ f2_ f3_; subst f4_; subst f5_))
       refine hK.out _ _ ⟨(blk_cell BK585.out 0).trans rfl, (blk_cell BK585.out 1).trans rfl, (blk_cell BK585.out 2).trans rfl, (blk_cell BK585.out 3).trans rfl, (blk_cell BK585.out 4).trans rfl, (blk_cell BK583.out 0).trans rfl, (blk_cell BK583.out 1).trans rfl, (blk_cell BK583.out 2).trans rfl, (blk_cell BK583.out 3).trans rfl, (blk_cell BK583.out 4).trans rfl, ((cq HB hw592_0).trans rfl), ((cq HB hw592_1).trans rfl), ((cq HB hw592_2).trans rfl), ((cq HB hw592_3).trans rfl), ((cq HB hw592_4).trans rfl)⟩ (fun hHeld => ?_)
       clear hK K
       refine norm_ (a' := ?_) ?_ ?_
       rotate_left
       ·show Act.put _ (some 26) _ = _
        simp only [Act.put, List.setIfInBounds_toArray, List.set_cons_zero, List.set_cons_succ, i64_w, i32_w]
        rfl
       refine one_ (i := 8) (N := some 27) mkA28_9 rfl rfl (one_of HT_.out (by kernel_rfl)) (by decide) (fun K hK => ?_)
       refine value_ (w1 := ?_) (v := ?_) (by rfl) rfl ?_ ?_
       rotate_left 2
       ·go_simp
        constructor
        ·rfl
        ·rfl
       refine hK.out _ _ ⟨(blk_cell (blk_alloc BK585.out _) 0).trans rfl, (blk_cell (blk_alloc BK585.out _) 1).trans rfl, (blk_cell (blk_alloc BK585.out _) 2).trans rfl, (blk_cell (blk_alloc BK585.out _) 3).trans rfl, (blk_cell (blk_alloc BK585.out _) 4).trans rfl, (blk_cell (blk_alloc BK583.out _) 0).trans rfl, (blk_cell (blk_alloc BK583.out _) 1).trans rfl, (blk_cell (blk_alloc BK583.out _) 2).trans rfl, (blk_cell (blk_alloc BK583.out _) 3).trans rfl, (blk_cell (blk_alloc BK583.out _) 4).trans rfl, (World.cell?_alloc_lt _ _ _ (World.block_lt_of_cell? _ _ (((cq HB hw592_0).trans rfl)))).trans (((cq HB hw592_0).trans rfl)), (World.cell?_alloc_lt _ _ _ (World.block_lt_of_cell? _ _ (((cq HB hw592_1).trans rfl)))).trans (((cq HB hw592_1).trans rfl)), (World.cell?_alloc_lt _ _ _ (World.block_lt_of_cell? _ _ (((cq HB hw592_2).trans rfl)))).trans (((cq HB hw592_2).trans rfl)), (World.cell?_alloc_lt _ _ _ (World.block_lt_of_cell? _ _ (((cq HB hw592_3).trans rfl)))).trans (((cq HB hw592_3).trans rfl)), (World.cell?_alloc_lt _ _ _ (World.block_lt_of_cell? _ _ (((cq HB hw592_4).trans rfl)))).trans (((cq HB hw592_4).trans rfl))⟩ (fun hHeld => ?_)
       clear hK K
       refine norm_ (a' := ?_) ?_ ?_
       rotate_left
       ·show Act.put _ (some 27) _ = _
        simp only [Act.put, List.setIfInBounds_toArray, List.set_cons_zero, List.set_cons_succ, i64_w, i32_w]
        rfl
       refine one_ (i := 9) (N := some 28) mkA28_10 rfl rfl (one_of HT_.out (by kernel_rfl)) (by decide) (fun K hK => ?_)
       refine Kd.R_append_step k27 (w0 := w) w.heap.size (by rfl) (.tmp 20) (.tmp 27) 24 27 (.agg #[(.int .i64 0), (.float .f64 0), (.string ⟨#[]⟩), (.slice none 0 0), (.slice none 0 0)]) 80 rfl Tryz.underlying24 info27 rfl (by decide) (by omega) u586003 x586003_1 (⟨t593, t594, t595, t596, t599⟩ : S27) [.int .i64 t593, .float .f64 t594, .string t595, .slice Ao27 t596.length co27, .slice Ao28 t599.length co28] (fun k_ => some k_ ≠ (.slice Ao15 y589.length co15 : Value).ownBlock ∧ k_ ≠ gb583 ∧ k_ ≠ gb584 ∧ k_ ≠ gb585) (fun k_ => ((fun k_ => some k_ ≠ (.slice Ao15 y589.length co15 : Value).ownBlock ∧ k_ ≠ gb583 ∧ k_ ≠ gb584 ∧ k_ ≠ gb585)) k_ ∧ some k_ ≠ (u586003 : Value).ownBlock) rfl rfl ?aP (fun _ hk => hk) ?aF ?aO ?aB ?aS ?aL ?_
       (case aP => exact k27_mkM _ _ _ (⟨t593, t594, t595, t596, t599⟩ : S27) (Kd.R_mono (HO598.out) (fun k_ hk => ⟨⟨hk.1.1.1.2, ⟨hk.1.1.2, ⟨hk.1.2, hk.2⟩⟩⟩, hk.1.1.1.1.2⟩)) (Kd.R_mono (Kd.R_types (Kd.R_types (Kd.R_types (Kd.R_apart' (HO601.out) (Kd.R_typed HO_586003.out) (by decide)) BK583.out (by decide)) BK584.out (by decide)) BK585.out (by decide)) (fun k_ hk => ⟨⟨hk.1.1.1.1.2, ⟨hk.1.1.2, ⟨hk.1.2, hk.2⟩⟩⟩, hk.1.1.1.2⟩)))
       (case aB => exact bel)
       (case aF => exact (fun k_ hk => ⟨Kd.fresh' (Kd.R_lt (rt HO_586004)) k_ hk, Kd.freshB (g := gb583) (o := .cells #[.int .i64 a0_0, .float .f64 a0_1, .string a0_2, .slice (some ad592) l0_3.length c0_3, .slice A0_4 l0_4.length c0_4] 27 (0, 0)) bt k_ hk, Kd.freshB (g := gb584) (o := .cells #[.int .i64 0, .float .f64 0, .string (⟨#[]⟩ : ByteArray), .slice none 0 0, .slice none 0 0] 27 (0, 0)) bt k_ hk, Kd.freshB (g := gb585) (o := .cells #[.int .i64 a0_0, .float .f64 a0_1, .string a0_2, u586003, .slice Ao15 y589.length co15] 27 (0, 0)) bt k_ hk⟩))
       (case aO => exact (by (with_reducible repeat (first | apply Kd.R_alloc | apply Kd.R_drewN | apply Kd.R_drew)); exact Kd.R_mono HO_586003.out (fun _ hk => ⟨hk.1.1.1, ⟨hk.1.1.2.1, ⟨hk.1.1.2.2.1, hk.1.1.2.2.2⟩⟩⟩)))
       (case aS => exact (below_size bel))
       (case aL => have := LMc20.out; omega)
       intro v603 w26 ho hb hg hat
       rw [← Ny602.out] at ho
       have n0_ := Aside0.mk (Kd.R_over' (rt HO_586004) (Kd.R_typed (rt HO_586003)) (by decide) hg)
       have n1_ := Aside0.mk (blk_grown (g := gb583) (o := .cells #[.int .i64 a0_0, .float .f64 a0_1, .string a0_2, .slice (some ad592) l0_3.length c0_3, .slice A0_4 l0_4.length c0_4] 27 (0, 0)) bt hg (Kd.R_away HO_586003.out (fun _ hk => hk.1.1.2.1)))
       have n2_ := Aside0.mk (blk_grown (g := gb584) (o := .cells #[.int .i64 0, .float .f64 0, .string (⟨#[]⟩ : ByteArray), .slice none 0 0, .slice none 0 0] 27 (0, 0)) bt hg (Kd.R_away HO_586003.out (fun _ hk => hk.1.1.2.2.1)))
       have n3_ := Aside0.mk (blk_grown (g := gb585) (o := .cells #[.int .i64 a0_0, .float .f64 a0_1, .string a0_2, u586003, .slice Ao15 y589.length co15] 27 (0, 0)) bt hg (Kd.R_away HO_586003.out (fun _ hk => hk.1.1.2.2.2)))
       have n4_ := Aside0.mk (hb)
       have n5_ := Aside0.mk (ho)
       clear HO_586004
       clear BK583
       clear BK584
       clear BK585
       clear HB
       clear HO_586003
       clear HO598
       clear HO601
       have HO_586004 := n0_
       have BK583 := n1_
       have BK584 := n2_
       have BK585 := n3_
       have HB := n4_
       have HO604 := n5_
       clear n0_ n1_ n2_ n3_ n4_ n5_
       clear ho hb hg hat
       obtain ⟨Ao29, co29, eo29⟩ := Kd.R_slice HO604.out
       (first | subst eo29 | (injection eo29 with f1_ f2_ f3_; have f4_ := f1_.symm; have f5_ := f3_.symm; clear f1_ f2_ f3_; subst f4_; subst f5_))
       refine hK.out _ _ ⟨(blk_cell BK585.out 0).trans rfl, (blk_cell BK585.out 1).trans rfl, (blk_cell BK585.out 2).trans rfl, (blk_cell BK585.out 3).trans rfl, (blk_cell BK585.out 4).trans rfl, (blk_cell BK583.out 0).trans rfl, (blk_cell BK583.out 1).trans rfl, (blk_cell BK583.out 2).trans rfl, (blk_cell BK583.out 3).trans rfl, (blk_cell BK583.out 4).trans rfl, ((cq HB hw592_0).trans rfl), ((cq HB hw592_1).trans rfl), ((cq HB hw592_2).trans rfl), ((cq HB hw592_3).trans rfl), ((cq HB hw592_4).trans rfl)⟩ (fun hHeld => ?_)
       clear hK K
       refine norm_ (a' := ?_) ?_ ?_
       rotate_left
       ·show Act.put _ (some 28) _ = _
        simp only [Act.put, List.setIfInBounds_toArray, List.set_cons_zero, List.set_cons_succ, i64_w, i32_w]
        rfl
       refine pq 10 29 mkA28_11 ?_
       refine last_ (i := 11) (N := none) mkA28_12 rfl rfl (one_of HT_.out (by kernel_rfl)) (by decide) (fun K hK => ?_)
       have hs30 : w26.cell? ⟨gb585, 3, none⟩ = some (u586003) := (blk_cell BK585.out 3).trans rfl
       have hfs30 := blk_frozen BK585.out 3
       have hns30_0 := NB583_585.out
       have hns30_1 := NB584_585.out
       have hms30_0 := NB585_583.out
       have hms30_1 := NB585_584.out
       refine skip_ (w1 := ?_) (by rfl) rfl ?_ ?_
       rotate_left
       ·go_simp
        rfl
       refine hK.out _ _ ?_
       clear hK K
       refine done_ (done_of HT_.out (by kernel_rfl)) ?_
       try go_wp2
       go_roundg k1
       case measure => have := HK1.out; omega
       case rel => exact ⟨(wrap64 (x4_1 + 1)), (y602), (.slice Ao29 y602.length co29), pv, H', ⟨by have := HK1.out; omega⟩, ⟨by (with_reducible repeat (first | apply Kd.R_alloc | apply Kd.R_drewN | apply Kd.R_drew)); exact Kd.R_mono (Kd.R_far (p := ⟨gb585, 3, none⟩) (Kd.R_mono HO604.out (fun k_ hk => (⟨hk, hk.2.2.2⟩ : _ ∧ k_ ≠ gb585))) (fun _ hk => hk.2) (.slice Ao29 y602.length co29)) (fun _ hk => ⟨hk.1.1, ⟨hk.1.2.1, ⟨hk.1.2.2.1, hk.1.2.2.2⟩⟩⟩)⟩, ⟨by (with_reducible repeat (first | apply Kd.R_alloc | apply Kd.R_drewN | apply Kd.R_drew)); exact Kd.R_mono (Kd.R_far (p := ⟨gb585, 3, none⟩) (Kd.R_types HO_586004.out BK585.out (by decide)) (fun _ hk => hk.2) (.slice Ao29 y602.length co29)) (fun _ hk => trivial)⟩, ⟨bt⟩, ⟨bt⟩, ⟨bt⟩, ⟨bel⟩⟩
      ·rw [if_neg c20] at H
       exact absurd H (by simp)
     ·rw [if_neg c18] at H
      exact absurd H (by simp)
    ·rw [if_neg c17] at H
     have c17b0 : decide (x4_1 < (l0_3.length : Int)) = false := decide_eq_false c17
     clear c17
     simp only [Option.some.injEq, Prod.mk.injEq] at H
     obtain ⟨rfl, rfl, rfl, rfl, rfl⟩ := H
     have hnb31 := NB583_584.out
     have hnc31 := NB584_583.out
     have hnb32 := NB583_585.out
     have hnc32 := NB585_583.out
     have hcz33_0 : wr.cell? ⟨gb583, 0, none⟩ = some (.int .i64 a0_0) := (blk_cell BK583.out 0).trans rfl
     have hcz33_1 : wr.cell? ⟨gb583, 1, none⟩ = some (.float .f64 a0_1) := (blk_cell BK583.out 1).trans rfl
     have hcz33_2 : wr.cell? ⟨gb583, 2, none⟩ = some (.string a0_2) := (blk_cell BK583.out 2).trans rfl
     have hcz33_3 : wr.cell? ⟨gb583, 3, none⟩ = some (.slice A0_3 l0_3.length c0_3) := (blk_cell BK583.out 3).trans rfl
     have hcz33_4 : wr.cell? ⟨gb583, 4, none⟩ = some (.slice A0_4 l0_4.length c0_4) := (blk_cell BK583.out 4).trans rfl
     have hfz33_0 := blk_frozen BK583.out 0
     have hfz33_1 := blk_frozen BK583.out 1
     have hfz33_2 := blk_frozen BK583.out 2
     have hfz33_3 := blk_frozen BK583.out 3
     have hfz33_4 := blk_frozen BK583.out 4
     have hnb34 := NB585_584.out
     have hnc34 := NB584_585.out
     have hcz35_0 : wr.cell? ⟨gb585, 0, none⟩ = some (.int .i64 a0_0) := (blk_cell BK585.out 0).trans rfl
     have hcz35_1 : wr.cell? ⟨gb585, 1, none⟩ = some (.float .f64 a0_1) := (blk_cell BK585.out 1).trans rfl
     have hcz35_2 : wr.cell? ⟨gb585, 2, none⟩ = some (.string a0_2) := (blk_cell BK585.out 2).trans rfl
     have hcz35_3 : wr.cell? ⟨gb585, 3, none⟩ = some (u586003) := (blk_cell BK585.out 3).trans rfl
     have hcz35_4 : wr.cell? ⟨gb585, 4, none⟩ = some (.slice Ao15 y589.length co15) := (blk_cell BK585.out 4).trans rfl
     have hfz35_0 := blk_frozen BK585.out 0
     have hfz35_1 := blk_frozen BK585.out 1
     have hfz35_2 := blk_frozen BK585.out 2
     have hfz35_3 := blk_frozen BK585.out 3
     have hfz35_4 := blk_frozen BK585.out 4
     have hcz36_0 : wr.cell? ⟨gb584, 0, none⟩ = some (.int .i64 0) := (blk_cell BK584.out 0).trans rfl
     have hcz36_1 : wr.cell? ⟨gb584, 1, none⟩ = some (.float .f64 0) := (blk_cell BK584.out 1).trans rfl
     have hcz36_2 : wr.cell? ⟨gb584, 2, none⟩ = some (.string (⟨#[]⟩ : ByteArray)) := (blk_cell BK584.out 2).trans rfl
     have hcz36_3 : wr.cell? ⟨gb584, 3, none⟩ = some (.slice none 0 0) := (blk_cell BK584.out 3).trans rfl
     have hcz36_4 : wr.cell? ⟨gb584, 4, none⟩ = some (.slice none 0 0) := (blk_cell BK584.out 4).trans rfl
     have hfz36_0 := blk_frozen BK584.out 0
     have hfz36_1 := blk_frozen BK584.out 1
     have hfz36_2 := blk_frozen BK584.out 2
     have hfz36_3 := blk_frozen BK584.out 3
     have hfz36_4 := blk_frozen BK584.out 4
     obtain ⟨Ao37, co37, eo37⟩ := Kd.R_slice HO_586003.out
     subst eo37
     go_wp2
     refine bodyPost_ret (results_cell_row rfl _ _ gb584 27 #[.int .i64 a0_0, .float .f64 a0_1, .string a0_2, .slice Ao37 x586003_1.length co37, .slice Ao15 y589.length co15] (0, 0) _ rfl bt Tryz.underlying27 rfl (by kernel_rfl)) rfl ?_
     exact ⟨_, _, by first | rfl | (simp [errW_none, errW_some] <;> rfl) | (simp [*, errW_none, errW_some] <;> rfl), by (with_reducible repeat (first | apply Kd.R_alloc | apply Kd.R_drewN | apply Kd.R_drew)); exact Kd.R_mono (Kd.R_far (p := ⟨gb584, 4, none⟩) (Kd.R_far (p := ⟨gb584, 3, none⟩) (Kd.R_far (p := ⟨gb584, 2, none⟩) (Kd.R_far (p := ⟨gb584, 1, none⟩) (Kd.R_far (p := ⟨gb584, 0, none⟩) (Kd.R_mono HO_586003.out (fun k_ hk => (⟨hk, hk.2.2.1⟩ : _ ∧ k_ ≠ gb584))) (fun _ hk => hk.2) (.int .i64 a0_0)) (fun _ hk => hk.2) (.float .f64 a0_1)) (fun _ hk => hk.2) (.string a0_2)) (fun _ hk => hk.2) (.slice Ao37 x586003_1.length co37)) (fun _ hk => hk.2) (.slice Ao15 y589.length co15)) (fun _ hk => hk.1.1), by (with_reducible repeat (first | apply Kd.R_alloc | apply Kd.R_drewN | apply Kd.R_drew)); exact Kd.R_mono (Kd.R_far (p := ⟨gb584, 4, none⟩) (Kd.R_far (p := ⟨gb584, 3, none⟩) (Kd.R_far (p := ⟨gb584, 2, none⟩) (Kd.R_far (p := ⟨gb584, 1, none⟩) (Kd.R_far (p := ⟨gb584, 0, none⟩) (Kd.R_types HO_586004.out BK584.out (by decide)) (fun _ hk => hk.2) (.int .i64 a0_0)) (fun _ hk => hk.2) (.float .f64 a0_1)) (fun _ hk => hk.2) (.string a0_2)) (fun _ hk => hk.2) (.slice Ao37 x586003_1.length co37)) (fun _ hk => hk.2) (.slice Ao15 y589.length co15)) (fun _ hk => trivial), bel⟩
 ·rw [if_neg c2] at H
  exact absurd H (by simp)
end Go.Proofs.YtmpmbnmldmpmiaaGreatDoor.A
namespace Go.Proofs.YtmpmbnmldmpmiaaGreatDoor.A
open Go.RowKit Go.Proofs.YtmpmbnmldmpmiaaGreatDoorW.PrintWords Go.Proofs.YtmpmbnmldmpmiaaGreatDoorW.PrintLast Go.Proofs.YtmpmbnmldmpmiaaGreatDoorW.PrintMore Go.Proofs.YtmpmbnmldmpmiaaGreatDoorW.Short
attribute [local go_sem] max2_int min2_int max_two min_two max_three min_three max_four min_four   -- for this text's walks alone
set_option linter.unusedVariables false
set_option linter.unusedSimpArgs false
end Go.Proofs.YtmpmbnmldmpmiaaGreatDoor.A
namespace Go.Proofs.YtmpmbnmldmpmiaaGreatDoor.A
open Go.RowKit Go.Proofs.YtmpmbnmldmpmiaaGreatDoorW.PrintWords Go.Proofs.YtmpmbnmldmpmiaaGreatDoorW.PrintLast Go.Proofs.YtmpmbnmldmpmiaaGreatDoorW.PrintMore Go.Proofs.YtmpmbnmldmpmiaaGreatDoorW.Short
attribute [local go_sem] max2_int min2_int max_two min_two max_three min_three max_four min_four   -- for this text's walks alone
set_option linter.unusedVariables false
set_option linter.unusedSimpArgs false
end Go.Proofs.YtmpmbnmldmpmiaaGreatDoor.A
