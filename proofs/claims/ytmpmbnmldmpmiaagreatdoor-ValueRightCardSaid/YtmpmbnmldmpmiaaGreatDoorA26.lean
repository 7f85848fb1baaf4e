/- Printed by this session's own copy of the printer (wip/tools/mkprint.py): functions, and that the Go code answers as they do. -/
import Derived.Test.YtmpmbnmldmpmiaaGreatDoorShort
import Derived.Test.YtmpmbnmldmpmiaaGreatDoorA0
import Derived.Test.YtmpmbnmldmpmiaaGreatDoorA23
import Derived.Test.YtmpmbnmldmpmiaaGreatDoorA25
import Derived.Test.YtmpmbnmldmpmiaaGreatDoorHandApart
namespace Go.Proofs.YtmpmbnmldmpmiaaGreatDoor.A
open Go.RowKit Go.Proofs.YtmpmbnmldmpmiaaGreatDoorW.PrintWords Go.Proofs.YtmpmbnmldmpmiaaGreatDoorW.PrintLast Go.Proofs.YtmpmbnmldmpmiaaGreatDoorW.PrintMore Go.Proofs.YtmpmbnmldmpmiaaGreatDoorW.Short
attribute [local go_sem] max2_int min2_int max_two min_two max_three min_three max_four min_four   -- for this text's walks alone
set_option linter.unusedVariables false
set_option linter.unusedSimpArgs false
mutual
def value_right.j1 : Nat → Int → Int → Nat → ByteArray → List (S27) → List ByteArray → Option (Bool)
 | 0, _, _, _, _, _, _ => none
 | k + 1, x1, x549000, x549001, x549002, x549003, x549004 => if x549000 = 5 then (if (x549004.length : Int) > 0 then (value_right.j2 k x1 true x549000 x549001 x549002 x549003 x549004) else ((value_bare.f x549001).bind fun t553 => (if t553 = true then (value_right.j2 k x1 (x549002.toList != ([] : List UInt8)) x549000 x549001 x549002 x549003 x549004) else (value_right.j2 k x1 true x549000 x549001 x549002 x549003 x549004)))) else ((value_bare.f x549001).bind fun t554 => (if t554 = true then (value_right.j2 k x1 (x549002.toList != ([] : List UInt8)) x549000 x549001 x549002 x549003 x549004) else (value_right.j2 k x1 true x549000 x549001 x549002 x549003 x549004)))
def value_right.j2 : Nat → Int → Bool → Int → Nat → ByteArray → List (S27) → List ByteArray → Option (Bool)
 | 0, _, _, _, _, _, _, _ => none
 | k + 1, x1, x110, x549000, x549001, x549002, x549003, x549004 => if x110 = true then (some false) else (value_right.l0 k x1 x549003 (x549003.length : Int) 0)
def value_right.l0 : Nat → Int → List (S27) → Int → Int → Option (Bool)
 | 0, _, _, _, _ => none
 | k + 1, x1, x112, x113, x114 => if x114 < x113 then (if 0 ≤ x114 then (if x114 < (x112.length : Int) then ((value_right.f k ((rd_T27 x112 x114).f0) ((rd_T27 x112 x114).f1) ((rd_T27 x112 x114).f2) ((rd_T27 x112 x114).f3) ((rd_T27 x112 x114).f4) (wrap64 (x1 - 1))).bind fun t557 => (if t557 = true then (value_right.l0 k x1 x112 x113 (wrap64 (x114 + 1))) else (some false))) else (none)) else (none)) else (some true)
def value_right.j0 : Nat → Int → Int → Bool → Int → Nat → ByteArray → List (S27) → List ByteArray → Option (Bool)
 | 0, _, _, _, _, _, _, _, _ => none
 | k + 1, x1, x10, x11, x549000, x549001, x549002, x549003, x549004 => if x11 = true then ((value_bare.f x549001).bind fun t549 => (if t549 = true then (if x549002.toList = ([] : List UInt8) then (if (x549003.length : Int) = 0 then (some ((x549004.length : Int) == 0)) else (some false)) else (some false)) else (some false))) else (if x10 = 3 then (if x549002.toList = ([] : List UInt8) then (if (x549003.length : Int) = 0 then (some ((x549004.length : Int) == 0)) else (some false)) else (some false)) else (if x10 = 4 then ((value_bare.f x549001).bind fun t551 => (if t551 = true then ((runes_Valid.f x549002).bind fun t552 => (if t552 = true then (if (x549003.length : Int) = 0 then (some ((x549004.length : Int) == 0)) else (some false)) else (some false))) else (some false))) else (if x10 = 6 then (if (x549004.length : Int) = (x549003.length : Int) then ((value_apart.f x549004).bind fun t550 => (if t550 = true then (value_right.j1 k x1 x549000 x549001 x549002 x549003 x549004) else (some false))) else (some false)) else (if x10 = 5 then (value_right.j1 k x1 x549000 x549001 x549002 x549003 x549004) else (some false)))))
def value_right.f : Nat → Int → Nat → ByteArray → List (S27) → List ByteArray → Int → Option (Bool)
 | 0, _, _, _, _, _, _ => none
 | k + 1, a0_0, a0_1, a0_2, l0_3, l0_4, a1 => if a1 = 0 then (some false) else (if a0_0 = 0 then (value_right.j0 k a1 a0_0 (a0_0 == 0) a0_0 a0_1 a0_2 l0_3 l0_4) else (if a0_0 = 1 then (value_right.j0 k a1 a0_0 (a0_0 == 1) a0_0 a0_1 a0_2 l0_3 l0_4) else (value_right.j0 k a1 a0_0 (a0_0 == 2) a0_0 a0_1 a0_2 l0_3 l0_4)))
end
set_option maxHeartbeats 8000000 in
set_option maxRecDepth 100000 in
theorem value_right.calls (k : Nat) : ∀ (a0_0 : Int) (a0_1 : Nat) (a0_2 : ByteArray) (A0_3 : Option Addr) (c0_3 : Nat) (l0_3 : List (S27)) (A0_4 : Option Addr) (c0_4 : Nat) (l0_4 : List ByteArray) (a1 : Int) (r : Bool) (w : World) (hr0_3 : Kd.C k27 w A0_3 l0_3.length l0_3) (hc0_3 : l0_3.length ≤ c0_3) (hr0_4 : Kd.C Kd.string w A0_4 l0_4.length l0_4) (hc0_4 : l0_4.length ≤ c0_4) (hT : Tabs w) (h : value_right.f k a0_0 a0_1 a0_2 l0_3 l0_4 a1 = some r),
  Calls Tryz.prog 59 #[.agg #[.int .i64 a0_0, .float .f64 a0_1, .string a0_2, .slice A0_3 l0_3.length c0_3, .slice A0_4 l0_4.length c0_4], .int .i64 a1] w fun e w' => e = .returned (.bool r) ∧ Below w.heap.size w w' := by
 induction k using Nat.strongRecOn with
 | _ k ih =>
 intro a0_0 a0_1 a0_2 A0_3 c0_3 l0_3 A0_4 c0_4 l0_4 a1 r w hr0_3 hc0_3 hr0_4 hc0_4 hT h
 cases k with
 | zero => exact absurd h (by simp [value_right.f])
 | succ k =>
 simp only [value_right.f] at h
 have hu27 := Tryz.underlying27
 have HR0_3 := Aside0.mk hr0_3
 have HC0_3 := Aside0.mk hc0_3
 clear hr0_3 hc0_3
 have HR0_4 := Aside0.mk hr0_4
 have HC0_4 := Aside0.mk hc0_4
 clear hr0_4 hc0_4
 have HB := Aside0.mk (Below.refl w.heap.size w)
 have H : (if a1 = 0 then (some false) else (if a0_0 = 0 then (value_right.j0 k a1 a0_0 (a0_0 == 0) a0_0 a0_1 a0_2 l0_3 l0_4) else (if a0_0 = 1 then (value_right.j0 k a1 a0_0 (a0_0 == 1) a0_0 a0_1 a0_2 l0_3 l0_4) else (value_right.j0 k a1 a0_0 (a0_0 == 2) a0_0 a0_1 a0_2 l0_3 l0_4)))) = some r := h
 clear h
 by_cases c3 : a1 = 0
 ·rw [if_pos c3] at H
  have c3b0 : (a1 == 0) = true := beq_iff_eq.mpr c3
  have c3b1 : (a1 != 0) = false := bne_eq_false_iff_eq.mpr c3
  clear c3
  obtain rfl := Option.some.inj H
  go_enter Tryz.func59, Tryz.ntmps59
  go_wp2_with (first | ((with_reducible refine gate_dst (N := 2) rfl ?_); (try (refine gate_guard (by rfl) ?_; dsimp only)); refine box_event ?hg (N := 2) ?hd (cs := #[.int .i64 a0_0, .float .f64 a0_1, .string a0_2, .slice A0_3 l0_3.length c0_3, .slice A0_4 l0_4.length c0_4]) (t := 27) ?hr ?_; (case hd => rfl); (case hg => rfl); (case hr => first | (go_simp; done) | (go_simp; rfl)); intro gb548 hg w4 hbox hb; have n0_ := bes hb; have n1_ := Aside0.mk (hbox); have n2_ := Aside0.mk ((bez hg : w.heap.size ≤ gb548)); have n3_ := Aside0.mk ((bez hg : w.heap.size ≤ gb548)); clear HB; have HB := n0_; have BK548 := n1_; have GW548 := n2_; have GE548 := n3_; clear n0_ n1_ n2_ n3_; clear hb hbox hg))
  go_ret
  exact fn
 ·rw [if_neg c3] at H
  have c3b0 : (a1 == 0) = false := beq_eq_false_iff_ne.mpr c3
  have c3b1 : (a1 != 0) = true := bne_iff_ne.mpr c3
  have HC5 := Aside0.mk H
  clear H
  go_enter Tryz.func59, Tryz.ntmps59
  go_upto_block 5 with (first | ((with_reducible refine gate_dst (N := 2) rfl ?_); (try (refine gate_guard (by rfl) ?_; dsimp only)); refine box_event ?hg (N := 2) ?hd (cs := #[.int .i64 a0_0, .float .f64 a0_1, .string a0_2, .slice A0_3 l0_3.length c0_3, .slice A0_4 l0_4.length c0_4]) (t := 27) ?hr ?_; (case hd => rfl); (case hg => rfl); (case hr => first | (go_simp; done) | (go_simp; rfl)); intro gb548 hg w6 hbox hb; have n0_ := bes hb; have n1_ := Aside0.mk (hbox); have n2_ := Aside0.mk ((bez hg : w.heap.size ≤ gb548)); have n3_ := Aside0.mk ((bez hg : w.heap.size ≤ gb548)); clear HB; have HB := n0_; have BK548 := n1_; have GW548 := n2_; have GE548 := n3_; clear n0_ n1_ n2_ n3_; clear hb hbox hg; have hcz7_0 : w6.cell? ⟨gb548, 0, none⟩ = some (.int .i64 a0_0) := (blk_cell BK548.out 0).trans rfl; have hcz7_1 : w6.cell? ⟨gb548, 1, none⟩ = some (.float .f64 a0_1) := (blk_cell BK548.out 1).trans rfl; have hcz7_2 : w6.cell? ⟨gb548, 2, none⟩ = some (.string a0_2) := (blk_cell BK548.out 2).trans rfl; have hcz7_3 : w6.cell? ⟨gb548, 3, none⟩ = some (.slice A0_3 l0_3.length c0_3) := (blk_cell BK548.out 3).trans rfl; have hcz7_4 : w6.cell? ⟨gb548, 4, none⟩ = some (.slice A0_4 l0_4.length c0_4) := (blk_cell BK548.out 4).trans rfl; have hfz7_0 := blk_frozen BK548.out 0; have hfz7_1 := blk_frozen BK548.out 1; have hfz7_2 := blk_frozen BK548.out 2; have hfz7_3 := blk_frozen BK548.out 3; have hfz7_4 := blk_frozen BK548.out 4))
  (try simp only [Act.put, List.setIfInBounds_toArray, List.set_cons_zero, List.set_cons_succ])
  go_cut [] (fun wc => ∃ (kq : Nat), Aside0 (value_right.j1 kq a1 a0_0 a0_1 a0_2 l0_3 l0_4 = some r) ∧ Aside0 (kq ≤ k) ∧ Aside0 (wc.heap[gb548]? = some (.cells #[.int .i64 a0_0, .float .f64 a0_1, .string a0_2, (.slice A0_3 l0_3.length c0_3), (.slice A0_4 l0_4.length c0_4)] 27 (0, 0))) ∧ Aside0 (Below w.heap.size w wc))
  case first =>
   have H := HC5.out
   clear HC5
   have HC8 := Aside0.mk H
   clear H
   go_upto_if 11 with (fail)
   go_cut [11] (fun v11 wc => ∃ (kq : Nat) (x11_7 : Bool), v11 = .bool x11_7 ∧ Aside0 (value_right.j0 kq a1 a0_0 x11_7 a0_0 a0_1 a0_2 l0_3 l0_4 = some r) ∧ Aside0 (kq ≤ k) ∧ Aside0 (wc.heap[gb548]? = some (.cells #[.int .i64 a0_0, .float .f64 a0_1, .string a0_2, (.slice A0_3 l0_3.length c0_3), (.slice A0_4 l0_4.length c0_4)] 27 (0, 0))) ∧ Aside0 (Below w.heap.size w wc))
   case first =>
    have H := HC8.out
    clear HC8
    by_cases c9 : a0_0 = 0
    ·rw [if_pos c9] at H
     have c9b0 : (a0_0 == 0) = true := beq_iff_eq.mpr c9
     have c9b1 : (a0_0 != 0) = false := bne_eq_false_iff_eq.mpr c9
     clear c9
     (first | rw [c9b0] | (simp only [i64_w, i32_w]; rw [c9b0]) | skip)
     have H' := Aside0.mk H
     clear H
     go_wp2
     go_meet
     case rel => exact ⟨_, ((a0_0 == 0)), pv, H', ⟨by first | omega | exact Nat.le_refl _⟩, ⟨bt⟩, ⟨bel⟩⟩
    ·rw [if_neg c9] at H
     have c9b0 : (a0_0 == 0) = false := beq_eq_false_iff_ne.mpr c9
     have c9b1 : (a0_0 != 0) = true := bne_iff_ne.mpr c9
     (first | rw [c9b0] | (simp only [i64_w, i32_w]; rw [c9b0]) | skip)
     by_cases c10 : a0_0 = 1
     ·rw [if_pos c10] at H
      have c10b0 : (a0_0 == 1) = true := beq_iff_eq.mpr c10
      have c10b1 : (a0_0 != 1) = false := bne_eq_false_iff_eq.mpr c10
      clear c10
      have H' := Aside0.mk H
      clear H
      go_wp2
      go_meet
      case rel => exact ⟨_, ((a0_0 == 1)), pv, H', ⟨by first | omega | exact Nat.le_refl _⟩, ⟨bt⟩, ⟨bel⟩⟩
     ·rw [if_neg c10] at H
      have c10b0 : (a0_0 == 1) = false := beq_eq_false_iff_ne.mpr c10
      have c10b1 : (a0_0 != 1) = true := bne_iff_ne.mpr c10
      have H' := Aside0.mk H
      clear H
      go_wp2
      go_meet
      case rel => exact ⟨_, ((a0_0 == 2)), pv, H', ⟨by first | omega | exact Nat.le_refl _⟩, ⟨bt⟩, ⟨bel⟩⟩
   case rest =>
    clear HC8
    (try clear c1);(try clear p2);(try clear c3);(try clear c3b0);(try clear c3b1);(try clear c5);(try clear c9);(try clear c9b0);(try clear c9b1);(try clear c10);(try clear c10b0);(try clear c10b1);(try clear hcz7_0);(try clear hcz7_1);(try clear hcz7_2);(try clear hcz7_3);(try clear hcz7_4);(try clear hfz7_0);(try clear hfz7_1);(try clear hfz7_2);(try clear hfz7_3);(try clear hfz7_4)
    obtain ⟨kq, x11_7, rfl, HA, HJ7, BK548, HB⟩ := hcut
    cases kq with
    | zero => exact absurd HA.out (by simp [value_right.j0])
    | succ kj7 =>
     have H := HA.out
     clear HA
     simp only [value_right.j0] at H
     by_cases c11 : x11_7 = true
     ·subst c11
      have H1 : ((value_bare.f a0_1).bind fun t549 => (if t549 = true then (if a0_2.toList = ([] : List UInt8) then (if (l0_3.length : Int) = 0 then (some ((l0_4.length : Int) == 0)) else (some false)) else (some false)) else (some false))) = some r := by rw [if_pos rfl] at H; exact H
      clear H
      have H := H1
      clear H1
      replace H := Option.bind_eq_some_iff.mp H
      obtain ⟨t549, A120, H⟩ := H
      replace H : (if t549 = true then (if a0_2.toList = ([] : List UInt8) then (if (l0_3.length : Int) = 0 then (some ((l0_4.length : Int) == 0)) else (some false)) else (some false)) else (some false)) = some r := H
      have A12 := Aside0.mk A120
      clear A120
      by_cases c13 : t549 = true
      ·subst c13
       have H1 : (if a0_2.toList = ([] : List UInt8) then (if (l0_3.length : Int) = 0 then (some ((l0_4.length : Int) == 0)) else (some false)) else (some false)) = some r := by rw [if_pos rfl] at H; exact H
       clear H
       have H := H1
       clear H1
       by_cases c14 : a0_2.toList = ([] : List UInt8)
       ·rw [if_pos c14] at H
        have c14b0 : (a0_2.toList == ([] : List UInt8)) = true := beq_iff_eq.mpr c14
        have c14b1 : (a0_2.toList != ([] : List UInt8)) = false := bne_eq_false_iff_eq.mpr c14
        clear c14
        by_cases c15 : (l0_3.length : Int) = 0
        ·rw [if_pos c15] at H
         have c15b0 : ((l0_3.length : Int) == 0) = true := beq_iff_eq.mpr c15
         have c15b1 : ((l0_3.length : Int) != 0) = false := bne_eq_false_iff_eq.mpr c15
         clear c15
         obtain rfl := Option.some.inj H
         have hcz16_0 : wc.cell? ⟨gb548, 0, none⟩ = some (.int .i64 a0_0) := (blk_cell BK548.out 0).trans rfl
         have hcz16_1 : wc.cell? ⟨gb548, 1, none⟩ = some (.float .f64 a0_1) := (blk_cell BK548.out 1).trans rfl
         have hcz16_2 : wc.cell? ⟨gb548, 2, none⟩ = some (.string a0_2) := (blk_cell BK548.out 2).trans rfl
         have hcz16_3 : wc.cell? ⟨gb548, 3, none⟩ = some (.slice A0_3 l0_3.length c0_3) := (blk_cell BK548.out 3).trans rfl
         have hcz16_4 : wc.cell? ⟨gb548, 4, none⟩ = some (.slice A0_4 l0_4.length c0_4) := (blk_cell BK548.out 4).trans rfl
         have hfz16_0 := blk_frozen BK548.out 0
         have hfz16_1 := blk_frozen BK548.out 1
         have hfz16_2 := blk_frozen BK548.out 2
         have hfz16_3 := blk_frozen BK548.out 3
         have hfz16_4 := blk_frozen BK548.out 4
         go_wp2_with (first | ((with_reducible refine gate_callee (f := 101) rfl ?_); refine goesL_ (some 25) rfl rfl Tryz.func101 (by kernel_rfl) rfl #[.float .f64 a0_1] rfl am ?_; (with_reducible refine (value_bare.calls a0_1 true _ A12.out).mono ?_); rintro e w' ⟨rfl, ⟨nd, rfl⟩⟩; refine ⟨_, rfl, ?_⟩))
         go_ret
         exact fn
        ·rw [if_neg c15] at H
         have c15b0 : ((l0_3.length : Int) == 0) = false := beq_eq_false_iff_ne.mpr c15
         have c15b1 : ((l0_3.length : Int) != 0) = true := bne_iff_ne.mpr c15
         have c15b2 : ¬ (l0_3 = []) := fun h_ => c15 (by rw [h_]; rfl)
         obtain rfl := Option.some.inj H
         have hcz17_0 : wc.cell? ⟨gb548, 0, none⟩ = some (.int .i64 a0_0) := (blk_cell BK548.out 0).trans rfl
         have hcz17_1 : wc.cell? ⟨gb548, 1, none⟩ = some (.float .f64 a0_1) := (blk_cell BK548.out 1).trans rfl
         have hcz17_2 : wc.cell? ⟨gb548, 2, none⟩ = some (.string a0_2) := (blk_cell BK548.out 2).trans rfl
         have hcz17_3 : wc.cell? ⟨gb548, 3, none⟩ = some (.slice A0_3 l0_3.length c0_3) := (blk_cell BK548.out 3).trans rfl
         have hcz17_4 : wc.cell? ⟨gb548, 4, none⟩ = some (.slice A0_4 l0_4.length c0_4) := (blk_cell BK548.out 4).trans rfl
         have hfz17_0 := blk_frozen BK548.out 0
         have hfz17_1 := blk_frozen BK548.out 1
         have hfz17_2 := blk_frozen BK548.out 2
         have hfz17_3 := blk_frozen BK548.out 3
         have hfz17_4 := blk_frozen BK548.out 4
         go_wp2_with (first | ((with_reducible refine gate_callee (f := 101) rfl ?_); refine goesL_ (some 25) rfl rfl Tryz.func101 (by kernel_rfl) rfl #[.float .f64 a0_1] rfl am ?_; (with_reducible refine (value_bare.calls a0_1 true _ A12.out).mono ?_); rintro e w' ⟨rfl, ⟨nd, rfl⟩⟩; refine ⟨_, rfl, ?_⟩))
         go_ret
         exact fn
       ·rw [if_neg c14] at H
        have c14b0 : (a0_2.toList == ([] : List UInt8)) = false := beq_eq_false_iff_ne.mpr c14
        have c14b1 : (a0_2.toList != ([] : List UInt8)) = true := bne_iff_ne.mpr c14
        obtain rfl := Option.some.inj H
        have hcz18_0 : wc.cell? ⟨gb548, 0, none⟩ = some (.int .i64 a0_0) := (blk_cell BK548.out 0).trans rfl
        have hcz18_1 : wc.cell? ⟨gb548, 1, none⟩ = some (.float .f64 a0_1) := (blk_cell BK548.out 1).trans rfl
        have hcz18_2 : wc.cell? ⟨gb548, 2, none⟩ = some (.string a0_2) := (blk_cell BK548.out 2).trans rfl
        have hcz18_3 : wc.cell? ⟨gb548, 3, none⟩ = some (.slice A0_3 l0_3.length c0_3) := (blk_cell BK548.out 3).trans rfl
        have hcz18_4 : wc.cell? ⟨gb548, 4, none⟩ = some (.slice A0_4 l0_4.length c0_4) := (blk_cell BK548.out 4).trans rfl
        have hfz18_0 := blk_frozen BK548.out 0
        have hfz18_1 := blk_frozen BK548.out 1
        have hfz18_2 := blk_frozen BK548.out 2
        have hfz18_3 := blk_frozen BK548.out 3
        have hfz18_4 := blk_frozen BK548.out 4
        go_wp2_with (first | ((with_reducible refine gate_callee (f := 101) rfl ?_); refine goesL_ (some 25) rfl rfl Tryz.func101 (by kernel_rfl) rfl #[.float .f64 a0_1] rfl am ?_; (with_reducible refine (value_bare.calls a0_1 true _ A12.out).mono ?_); rintro e w' ⟨rfl, ⟨nd, rfl⟩⟩; refine ⟨_, rfl, ?_⟩))
        go_ret
        exact fn
      ·replace c13 := Bool.eq_false_iff.mpr c13
       subst c13
       have H1 : (some false) = some r := by rw [if_neg (show ¬ (false = true) by decide)] at H; exact H
       clear H
       have H := H1
       clear H1
       obtain rfl := Option.some.inj H
       have hcz19_0 : wc.cell? ⟨gb548, 0, none⟩ = some (.int .i64 a0_0) := (blk_cell BK548.out 0).trans rfl
       have hcz19_1 : wc.cell? ⟨gb548, 1, none⟩ = some (.float .f64 a0_1) := (blk_cell BK548.out 1).trans rfl
       have hcz19_2 : wc.cell? ⟨gb548, 2, none⟩ = some (.string a0_2) := (blk_cell BK548.out 2).trans rfl
       have hcz19_3 : wc.cell? ⟨gb548, 3, none⟩ = some (.slice A0_3 l0_3.length c0_3) := (blk_cell BK548.out 3).trans rfl
       have hcz19_4 : wc.cell? ⟨gb548, 4, none⟩ = some (.slice A0_4 l0_4.length c0_4) := (blk_cell BK548.out 4).trans rfl
       have hfz19_0 := blk_frozen BK548.out 0
       have hfz19_1 := blk_frozen BK548.out 1
       have hfz19_2 := blk_frozen BK548.out 2
       have hfz19_3 := blk_frozen BK548.out 3
       have hfz19_4 := blk_frozen BK548.out 4
       go_wp2_with (first | ((with_reducible refine gate_callee (f := 101) rfl ?_); refine goesL_ (some 25) rfl rfl Tryz.func101 (by kernel_rfl) rfl #[.float .f64 a0_1] rfl am ?_; (with_reducible refine (value_bare.calls a0_1 false _ A12.out).mono ?_); rintro e w' ⟨rfl, ⟨nd, rfl⟩⟩; refine ⟨_, rfl, ?_⟩))
       go_ret
       exact fn
     ·replace c11 := Bool.eq_false_iff.mpr c11
      subst c11
      have H1 : (if a0_0 = 3 then (if a0_2.toList = ([] : List UInt8) then (if (l0_3.length : Int) = 0 then (some ((l0_4.length : Int) == 0)) else (some false)) else (some false)) else (if a0_0 = 4 then ((value_bare.f a0_1).bind fun t551 => (if t551 = true then ((runes_Valid.f a0_2).bind fun t552 => (if t552 = true then (if (l0_3.length : Int) = 0 then (some ((l0_4.length : Int) == 0)) else (some false)) else (some false))) else (some false))) else (if a0_0 = 6 then (if (l0_4.length : Int) = (l0_3.length : Int) then ((value_apart.f l0_4).bind fun t550 => (if t550 = true then (value_right.j1 kj7 a1 a0_0 a0_1 a0_2 l0_3 l0_4) else (some false))) else (some false)) else (if a0_0 = 5 then (value_right.j1 kj7 a1 a0_0 a0_1 a0_2 l0_3 l0_4) else (some false))))) = some r := by rw [if_neg (show ¬ (false = true) by decide)] at H; exact H
      clear H
      have H := H1
      clear H1
      by_cases c20 : a0_0 = 3
      ·rw [if_pos c20] at H
       have c20b0 : (a0_0 == 3) = true := beq_iff_eq.mpr c20
       have c20b1 : (a0_0 != 3) = false := bne_eq_false_iff_eq.mpr c20
       clear c20
       by_cases c21 : a0_2.toList = ([] : List UInt8)
       ·rw [if_pos c21] at H
        have c21b0 : (a0_2.toList == ([] : List UInt8)) = true := beq_iff_eq.mpr c21
        have c21b1 : (a0_2.toList != ([] : List UInt8)) = false := bne_eq_false_iff_eq.mpr c21
        clear c21
        by_cases c22 : (l0_3.length : Int) = 0
        ·rw [if_pos c22] at H
         have c22b0 : ((l0_3.length : Int) == 0) = true := beq_iff_eq.mpr c22
         have c22b1 : ((l0_3.length : Int) != 0) = false := bne_eq_false_iff_eq.mpr c22
         clear c22
         obtain rfl := Option.some.inj H
         have hcz23_0 : wc.cell? ⟨gb548, 0, none⟩ = some (.int .i64 a0_0) := (blk_cell BK548.out 0).trans rfl
         have hcz23_1 : wc.cell? ⟨gb548, 1, none⟩ = some (.float .f64 a0_1) := (blk_cell BK548.out 1).trans rfl
         have hcz23_2 : wc.cell? ⟨gb548, 2, none⟩ = some (.string a0_2) := (blk_cell BK548.out 2).trans rfl
         have hcz23_3 : wc.cell? ⟨gb548, 3, none⟩ = some (.slice A0_3 l0_3.length c0_3) := (blk_cell BK548.out 3).trans rfl
         have hcz23_4 : wc.cell? ⟨gb548, 4, none⟩ = some (.slice A0_4 l0_4.length c0_4) := (blk_cell BK548.out 4).trans rfl
         have hfz23_0 := blk_frozen BK548.out 0
         have hfz23_1 := blk_frozen BK548.out 1
         have hfz23_2 := blk_frozen BK548.out 2
         have hfz23_3 := blk_frozen BK548.out 3
         have hfz23_4 := blk_frozen BK548.out 4
         go_wp2
         go_ret
         exact fn
        ·rw [if_neg c22] at H
         have c22b0 : ((l0_3.length : Int) == 0) = false := beq_eq_false_iff_ne.mpr c22
         have c22b1 : ((l0_3.length : Int) != 0) = true := bne_iff_ne.mpr c22
         have c22b2 : ¬ (l0_3 = []) := fun h_ => c22 (by rw [h_]; rfl)
         obtain rfl := Option.some.inj H
         have hcz24_0 : wc.cell? ⟨gb548, 0, none⟩ = some (.int .i64 a0_0) := (blk_cell BK548.out 0).trans rfl
         have hcz24_1 : wc.cell? ⟨gb548, 1, none⟩ = some (.float .f64 a0_1) := (blk_cell BK548.out 1).trans rfl
         have hcz24_2 : wc.cell? ⟨gb548, 2, none⟩ = some (.string a0_2) := (blk_cell BK548.out 2).trans rfl
         have hcz24_3 : wc.cell? ⟨gb548, 3, none⟩ = some (.slice A0_3 l0_3.length c0_3) := (blk_cell BK548.out 3).trans rfl
         have hcz24_4 : wc.cell? ⟨gb548, 4, none⟩ = some (.slice A0_4 l0_4.length c0_4) := (blk_cell BK548.out 4).trans rfl
         have hfz24_0 := blk_frozen BK548.out 0
         have hfz24_1 := blk_frozen BK548.out 1
         have hfz24_2 := blk_frozen BK548.out 2
         have hfz24_3 := blk_frozen BK548.out 3
         have hfz24_4 := blk_frozen BK548.out 4
         go_wp2
         go_ret
         exact fn
       ·rw [if_neg c21] at H
        have c21b0 : (a0_2.toList == ([] : List UInt8)) = false := beq_eq_false_iff_ne.mpr c21
        have c21b1 : (a0_2.toList != ([] : List UInt8)) = true := bne_iff_ne.mpr c21
        obtain rfl := Option.some.inj H
        have hcz25_0 : wc.cell? ⟨gb548, 0, none⟩ = some (.int .i64 a0_0) := (blk_cell BK548.out 0).trans rfl
        have hcz25_1 : wc.cell? ⟨gb548, 1, none⟩ = some (.float .f64 a0_1) := (blk_cell BK548.out 1).trans rfl
        have hcz25_2 : wc.cell? ⟨gb548, 2, none⟩ = some (.string a0_2) := (blk_cell BK548.out 2).trans rfl
        have hcz25_3 : wc.cell? ⟨gb548, 3, none⟩ = some (.slice A0_3 l0_3.length c0_3) := (blk_cell BK548.out 3).trans rfl
        have hcz25_4 : wc.cell? ⟨gb548, 4, none⟩ = some (.slice A0_4 l0_4.length c0_4) := (blk_cell BK548.out 4).trans rfl
        have hfz25_0 := blk_frozen BK548.out 0
        have hfz25_1 := blk_frozen BK548.out 1
        have hfz25_2 := blk_frozen BK548.out 2
        have hfz25_3 := blk_frozen BK548.out 3
        have hfz25_4 := blk_frozen BK548.out 4
        go_wp2
        go_ret
        exact fn
      ·rw [if_neg c20] at H
       have c20b0 : (a0_0 == 3) = false := beq_eq_false_iff_ne.mpr c20
       have c20b1 : (a0_0 != 3) = true := bne_iff_ne.mpr c20
       by_cases c26 : a0_0 = 4
       ·rw [if_pos c26] at H
        have c26b0 : (a0_0 == 4) = true := beq_iff_eq.mpr c26
        have c26b1 : (a0_0 != 4) = false := bne_eq_false_iff_eq.mpr c26
        clear c26
        replace H := Option.bind_eq_some_iff.mp H
        obtain ⟨t551, A270, H⟩ := H
        replace H : (if t551 = true then ((runes_Valid.f a0_2).bind fun t552 => (if t552 = true then (if (l0_3.length : Int) = 0 then (some ((l0_4.length : Int) == 0)) else (some false)) else (some false))) else (some false)) = some r := H
        have A27 := Aside0.mk A270
        clear A270
        by_cases c28 : t551 = true
        ·subst c28
         have H1 : ((runes_Valid.f a0_2).bind fun t552 => (if t552 = true then (if (l0_3.length : Int) = 0 then (some ((l0_4.length : Int) == 0)) else (some false)) else (some false))) = some r := by rw [if_pos rfl] at H; exact H
         clear H
         have H := H1
         clear H1
         replace H := Option.bind_eq_some_iff.mp H
         obtain ⟨t552, A290, H⟩ := H
         replace H : (if t552 = true then (if (l0_3.length : Int) = 0 then (some ((l0_4.length : Int) == 0)) else (some false)) else (some false)) = some r := H
         have A29 := Aside0.mk A290
         clear A290
         by_cases c30 : t552 = true
         ·subst c30
          have H1 : (if (l0_3.length : Int) = 0 then (some ((l0_4.length : Int) == 0)) else (some false)) = some r := by rw [if_pos rfl] at H; exact H
          clear H
          have H := H1
          clear H1
          by_cases c31 : (l0_3.length : Int) = 0
          ·rw [if_pos c31] at H
           have c31b0 : ((l0_3.length : Int) == 0) = true := beq_iff_eq.mpr c31
           have c31b1 : ((l0_3.length : Int) != 0) = false := bne_eq_false_iff_eq.mpr c31
           clear c31
           obtain rfl := Option.some.inj H
           have hcz32_0 : wc.cell? ⟨gb548, 0, none⟩ = some (.int .i64 a0_0) := (blk_cell BK548.out 0).trans rfl
           have hcz32_1 : wc.cell? ⟨gb548, 1, none⟩ = some (.float .f64 a0_1) := (blk_cell BK548.out 1).trans rfl
           have hcz32_2 : wc.cell? ⟨gb548, 2, none⟩ = some (.string a0_2) := (blk_cell BK548.out 2).trans rfl
           have hcz32_3 : wc.cell? ⟨gb548, 3, none⟩ = some (.slice A0_3 l0_3.length c0_3) := (blk_cell BK548.out 3).trans rfl
           have hcz32_4 : wc.cell? ⟨gb548, 4, none⟩ = some (.slice A0_4 l0_4.length c0_4) := (blk_cell BK548.out 4).trans rfl
           have hfz32_0 := blk_frozen BK548.out 0
           have hfz32_1 := blk_frozen BK548.out 1
           have hfz32_2 := blk_frozen BK548.out 2
           have hfz32_3 := blk_frozen BK548.out 3
           have hfz32_4 := blk_frozen BK548.out 4
           go_wp2_with (first | ((with_reducible refine gate_callee (f := 101) rfl ?_); refine goesL_ (some 60) rfl rfl Tryz.func101 (by kernel_rfl) rfl #[.float .f64 a0_1] rfl am ?_; (with_reducible refine (value_bare.calls a0_1 true _ A27.out).mono ?_); rintro e w' ⟨rfl, ⟨nd, rfl⟩⟩; refine ⟨_, rfl, ?_⟩) | (go_at_call 102; (with_reducible refine (runes_Valid.calls a0_2 true _ ?side1 A29.out).mono ?_); (case side1 => first | exact hT | exact tabs_below hT bel); rintro e w33 ⟨rfl, hb⟩; have n0_ := bb BK548 hb; have n1_ := bes hb; clear BK548; clear HB; have BK548 := n0_; have HB := n1_; clear n0_ n1_; (try clear hb); (try clear hb2); (try clear hk); (try clear hi); have hcz34_0 : w33.cell? ⟨gb548, 0, none⟩ = some (.int .i64 a0_0) := (blk_cell BK548.out 0).trans rfl; have hcz34_1 : w33.cell? ⟨gb548, 1, none⟩ = some (.float .f64 a0_1) := (blk_cell BK548.out 1).trans rfl; have hcz34_2 : w33.cell? ⟨gb548, 2, none⟩ = some (.string a0_2) := (blk_cell BK548.out 2).trans rfl; have hcz34_3 : w33.cell? ⟨gb548, 3, none⟩ = some (.slice A0_3 l0_3.length c0_3) := (blk_cell BK548.out 3).trans rfl; have hcz34_4 : w33.cell? ⟨gb548, 4, none⟩ = some (.slice A0_4 l0_4.length c0_4) := (blk_cell BK548.out 4).trans rfl; have hfz34_0 := blk_frozen BK548.out 0; have hfz34_1 := blk_frozen BK548.out 1; have hfz34_2 := blk_frozen BK548.out 2; have hfz34_3 := blk_frozen BK548.out 3; have hfz34_4 := blk_frozen BK548.out 4))
           go_ret
           exact fn
          ·rw [if_neg c31] at H
           have c31b0 : ((l0_3.length : Int) == 0) = false := beq_eq_false_iff_ne.mpr c31
           have c31b1 : ((l0_3.length : Int) != 0) = true := bne_iff_ne.mpr c31
           have c31b2 : ¬ (l0_3 = []) := fun h_ => c31 (by rw [h_]; rfl)
           obtain rfl := Option.some.inj H
           have hcz35_0 : wc.cell? ⟨gb548, 0, none⟩ = some (.int .i64 a0_0) := (blk_cell BK548.out 0).trans rfl
           have hcz35_1 : wc.cell? ⟨gb548, 1, none⟩ = some (.float .f64 a0_1) := (blk_cell BK548.out 1).trans rfl
           have hcz35_2 : wc.cell? ⟨gb548, 2, none⟩ = some (.string a0_2) := (blk_cell BK548.out 2).trans rfl
           have hcz35_3 : wc.cell? ⟨gb548, 3, none⟩ = some (.slice A0_3 l0_3.length c0_3) := (blk_cell BK548.out 3).trans rfl
           have hcz35_4 : wc.cell? ⟨gb548, 4, none⟩ = some (.slice A0_4 l0_4.length c0_4) := (blk_cell BK548.out 4).trans rfl
           have hfz35_0 := blk_frozen BK548.out 0
           have hfz35_1 := blk_frozen BK548.out 1
           have hfz35_2 := blk_frozen BK548.out 2
           have hfz35_3 := blk_frozen BK548.out 3
           have hfz35_4 := blk_frozen BK548.out 4
           go_wp2_with (first | ((with_reducible refine gate_callee (f := 101) rfl ?_); refine goesL_ (some 60) rfl rfl Tryz.func101 (by kernel_rfl) rfl #[.float .f64 a0_1] rfl am ?_; (with_reducible refine (value_bare.calls a0_1 true _ A27.out).mono ?_); rintro e w' ⟨rfl, ⟨nd, rfl⟩⟩; refine ⟨_, rfl, ?_⟩) | (go_at_call 102; (with_reducible refine (runes_Valid.calls a0_2 true _ ?side1 A29.out).mono ?_); (case side1 => first | exact hT | exact tabs_below hT bel); rintro e w36 ⟨rfl, hb⟩; have n0_ := bb BK548 hb; have n1_ := bes hb; clear BK548; clear HB; have BK548 := n0_; have HB := n1_; clear n0_ n1_; (try clear hb); (try clear hb2); (try clear hk); (try clear hi); have hcz37_0 : w36.cell? ⟨gb548, 0, none⟩ = some (.int .i64 a0_0) := (blk_cell BK548.out 0).trans rfl; have hcz37_1 : w36.cell? ⟨gb548, 1, none⟩ = some (.float .f64 a0_1) := (blk_cell BK548.out 1).trans rfl; have hcz37_2 : w36.cell? ⟨gb548, 2, none⟩ = some (.string a0_2) := (blk_cell BK548.out 2).trans rfl; have hcz37_3 : w36.cell? ⟨gb548, 3, none⟩ = some (.slice A0_3 l0_3.length c0_3) := (blk_cell BK548.out 3).trans rfl; have hcz37_4 : w36.cell? ⟨gb548, 4, none⟩ = some (.slice A0_4 l0_4.length c0_4) := (blk_cell BK548.out 4).trans rfl; have hfz37_0 := blk_frozen BK548.out 0; have hfz37_1 := blk_frozen BK548.out 1; have hfz37_2 := blk_frozen BK548.out 2; have hfz37_3 := blk_frozen BK548.out 3; have hfz37_4 := blk_frozen BK548.out 4))
           go_ret
           exact fn
         ·replace c30 := Bool.eq_false_iff.mpr c30
          subst c30
          have H1 : (some false) = some r := by rw [if_neg (show ¬ (false = true) by decide)] at H; exact H
          clear H
          have H := H1
          clear H1
          obtain rfl := Option.some.inj H
          have hcz38_0 : wc.cell? ⟨gb548, 0, none⟩ = some (.int .i64 a0_0) := (blk_cell BK548.out 0).trans rfl
          have hcz38_1 : wc.cell? ⟨gb548, 1, none⟩ = some (.float .f64 a0_1) := (blk_cell BK548.out 1).trans rfl
          have hcz38_2 : wc.cell? ⟨gb548, 2, none⟩ = some (.string a0_2) := (blk_cell BK548.out 2).trans rfl
          have hcz38_3 : wc.cell? ⟨gb548, 3, none⟩ = some (.slice A0_3 l0_3.length c0_3) := (blk_cell BK548.out 3).trans rfl
          have hcz38_4 : wc.cell? ⟨gb548, 4, none⟩ = some (.slice A0_4 l0_4.length c0_4) := (blk_cell BK548.out 4).trans rfl
          have hfz38_0 := blk_frozen BK548.out 0
          have hfz38_1 := blk_frozen BK548.out 1
          have hfz38_2 := blk_frozen BK548.out 2
          have hfz38_3 := blk_frozen BK548.out 3
          have hfz38_4 := blk_frozen BK548.out 4
          go_wp2_with (first | ((with_reducible refine gate_callee (f := 101) rfl ?_); refine goesL_ (some 60) rfl rfl Tryz.func101 (by kernel_rfl) rfl #[.float .f64 a0_1] rfl am ?_; (with_reducible refine (value_bare.calls a0_1 true _ A27.out).mono ?_); rintro e w' ⟨rfl, ⟨nd, rfl⟩⟩; refine ⟨_, rfl, ?_⟩) | (go_at_call 102; (with_reducible refine (runes_Valid.calls a0_2 false _ ?side1 A29.out).mono ?_); (case side1 => first | exact hT | exact tabs_below hT bel); rintro e w39 ⟨rfl, hb⟩; have n0_ := bb BK548 hb; have n1_ := bes hb; clear BK548; clear HB; have BK548 := n0_; have HB := n1_; clear n0_ n1_; (try clear hb); (try clear hb2); (try clear hk); (try clear hi)))
          go_ret
          exact fn
        ·replace c28 := Bool.eq_false_iff.mpr c28
         subst c28
         have H1 : (some false) = some r := by rw [if_neg (show ¬ (false = true) by decide)] at H; exact H
         clear H
         have H := H1
         clear H1
         obtain rfl := Option.some.inj H
         have hcz40_0 : wc.cell? ⟨gb548, 0, none⟩ = some (.int .i64 a0_0) := (blk_cell BK548.out 0).trans rfl
         have hcz40_1 : wc.cell? ⟨gb548, 1, none⟩ = some (.float .f64 a0_1) := (blk_cell BK548.out 1).trans rfl
         have hcz40_2 : wc.cell? ⟨gb548, 2, none⟩ = some (.string a0_2) := (blk_cell BK548.out 2).trans rfl
         have hcz40_3 : wc.cell? ⟨gb548, 3, none⟩ = some (.slice A0_3 l0_3.length c0_3) := (blk_cell BK548.out 3).trans rfl
         have hcz40_4 : wc.cell? ⟨gb548, 4, none⟩ = some (.slice A0_4 l0_4.length c0_4) := (blk_cell BK548.out 4).trans rfl
         have hfz40_0 := blk_frozen BK548.out 0
         have hfz40_1 := blk_frozen BK548.out 1
         have hfz40_2 := blk_frozen BK548.out 2
         have hfz40_3 := blk_frozen BK548.out 3
         have hfz40_4 := blk_frozen BK548.out 4
         go_wp2_with (first | ((with_reducible refine gate_callee (f := 101) rfl ?_); refine goesL_ (some 60) rfl rfl Tryz.func101 (by kernel_rfl) rfl #[.float .f64 a0_1] rfl am ?_; (with_reducible refine (value_bare.calls a0_1 false _ A27.out).mono ?_); rintro e w' ⟨rfl, ⟨nd, rfl⟩⟩; refine ⟨_, rfl, ?_⟩))
         go_ret
         exact fn
       ·rw [if_neg c26] at H
        have c26b0 : (a0_0 == 4) = false := beq_eq_false_iff_ne.mpr c26
        have c26b1 : (a0_0 != 4) = true := bne_iff_ne.mpr c26
        by_cases c41 : a0_0 = 6
        ·rw [if_pos c41] at H
         have c41b0 : (a0_0 == 6) = true := beq_iff_eq.mpr c41
         have c41b1 : (a0_0 != 6) = false := bne_eq_false_iff_eq.mpr c41
         clear c41
         by_cases c42 : (l0_4.length : Int) = (l0_3.length : Int)
         ·rw [if_pos c42] at H
          have c42b0 : ((l0_4.length : Int) == (l0_3.length : Int)) = true := beq_iff_eq.mpr c42
          have c42b1 : ((l0_4.length : Int) != (l0_3.length : Int)) = false := bne_eq_false_iff_eq.mpr c42
          have c42b2 : (l0_4.length == l0_3.length) = true := by first | simpa using c42 | (simp at c42 ⊢; omega)
          clear c42
          replace H := Option.bind_eq_some_iff.mp H
          obtain ⟨t550, A430, H⟩ := H
          replace H : (if t550 = true then (value_right.j1 kj7 a1 a0_0 a0_1 a0_2 l0_3 l0_4) else (some false)) = some r := H
          have A43 := Aside0.mk A430
          clear A430
          by_cases c44 : t550 = true
          ·subst c44
           have H1 : (value_right.j1 kj7 a1 a0_0 a0_1 a0_2 l0_3 l0_4) = some r := by rw [if_pos rfl] at H; exact H
           clear H
           have H := H1
           clear H1
           have H' := Aside0.mk H
           clear H
           have hcz45_0 : wc.cell? ⟨gb548, 0, none⟩ = some (.int .i64 a0_0) := (blk_cell BK548.out 0).trans rfl
           have hcz45_1 : wc.cell? ⟨gb548, 1, none⟩ = some (.float .f64 a0_1) := (blk_cell BK548.out 1).trans rfl
           have hcz45_2 : wc.cell? ⟨gb548, 2, none⟩ = some (.string a0_2) := (blk_cell BK548.out 2).trans rfl
           have hcz45_3 : wc.cell? ⟨gb548, 3, none⟩ = some (.slice A0_3 l0_3.length c0_3) := (blk_cell BK548.out 3).trans rfl
           have hcz45_4 : wc.cell? ⟨gb548, 4, none⟩ = some (.slice A0_4 l0_4.length c0_4) := (blk_cell BK548.out 4).trans rfl
           have hfz45_0 := blk_frozen BK548.out 0
           have hfz45_1 := blk_frozen BK548.out 1
           have hfz45_2 := blk_frozen BK548.out 2
           have hfz45_3 := blk_frozen BK548.out 3
           have hfz45_4 := blk_frozen BK548.out 4
           go_wp2_with (first | (go_at_call 103; (with_reducible refine (value_apart.calls _ _ l0_4 true _ ?side1 ?side2 ?side3 A43.out).mono ?_); (case side1 => exact cb HR0_4); (case side2 => exact HC0_4.out); (case side3 => first | exact hT | exact tabs_below hT bel); rintro e w46 ⟨rfl, hb⟩; have n0_ := bb BK548 hb; have n1_ := bes hb; clear BK548; clear HB; have BK548 := n0_; have HB := n1_; clear n0_ n1_; (try clear hb); (try clear hb2); (try clear hk); (try clear hi)))
           go_meet
           case rel => exact ⟨_, H', ⟨by have := HJ7.out; first | omega | exact Nat.le_refl _⟩, ⟨bt⟩, ⟨bel⟩⟩
          ·replace c44 := Bool.eq_false_iff.mpr c44
           subst c44
           have H1 : (some false) = some r := by rw [if_neg (show ¬ (false = true) by decide)] at H; exact H
           clear H
           have H := H1
           clear H1
           obtain rfl := Option.some.inj H
           have hcz47_0 : wc.cell? ⟨gb548, 0, none⟩ = some (.int .i64 a0_0) := (blk_cell BK548.out 0).trans rfl
           have hcz47_1 : wc.cell? ⟨gb548, 1, none⟩ = some (.float .f64 a0_1) := (blk_cell BK548.out 1).trans rfl
           have hcz47_2 : wc.cell? ⟨gb548, 2, none⟩ = some (.string a0_2) := (blk_cell BK548.out 2).trans rfl
           have hcz47_3 : wc.cell? ⟨gb548, 3, none⟩ = some (.slice A0_3 l0_3.length c0_3) := (blk_cell BK548.out 3).trans rfl
           have hcz47_4 : wc.cell? ⟨gb548, 4, none⟩ = some (.slice A0_4 l0_4.length c0_4) := (blk_cell BK548.out 4).trans rfl
           have hfz47_0 := blk_frozen BK548.out 0
           have hfz47_1 := blk_frozen BK548.out 1
           have hfz47_2 := blk_frozen BK548.out 2
           have hfz47_3 := blk_frozen BK548.out 3
           have hfz47_4 := blk_frozen BK548.out 4
           go_wp2_with (first | (go_at_call 103; (with_reducible refine (value_apart.calls _ _ l0_4 false _ ?side1 ?side2 ?side3 A43.out).mono ?_); (case side1 => exact cb HR0_4); (case side2 => exact HC0_4.out); (case side3 => first | exact hT | exact tabs_below hT bel); rintro e w48 ⟨rfl, hb⟩; have n0_ := bb BK548 hb; have n1_ := bes hb; clear BK548; clear HB; have BK548 := n0_; have HB := n1_; clear n0_ n1_; (try clear hb); (try clear hb2); (try clear hk); (try clear hi)))
           go_ret
           exact fn
         ·rw [if_neg c42] at H
          have c42b0 : ((l0_4.length : Int) == (l0_3.length : Int)) = false := beq_eq_false_iff_ne.mpr c42
          have c42b1 : ((l0_4.length : Int) != (l0_3.length : Int)) = true := bne_iff_ne.mpr c42
          have c42b2 : (l0_4.length == l0_3.length) = false := by first | simpa using c42 | (simp at c42 ⊢; omega)
          obtain rfl := Option.some.inj H
          have hcz49_0 : wc.cell? ⟨gb548, 0, none⟩ = some (.int .i64 a0_0) := (blk_cell BK548.out 0).trans rfl
          have hcz49_1 : wc.cell? ⟨gb548, 1, none⟩ = some (.float .f64 a0_1) := (blk_cell BK548.out 1).trans rfl
          have hcz49_2 : wc.cell? ⟨gb548, 2, none⟩ = some (.string a0_2) := (blk_cell BK548.out 2).trans rfl
          have hcz49_3 : wc.cell? ⟨gb548, 3, none⟩ = some (.slice A0_3 l0_3.length c0_3) := (blk_cell BK548.out 3).trans rfl
          have hcz49_4 : wc.cell? ⟨gb548, 4, none⟩ = some (.slice A0_4 l0_4.length c0_4) := (blk_cell BK548.out 4).trans rfl
          have hfz49_0 := blk_frozen BK548.out 0
          have hfz49_1 := blk_frozen BK548.out 1
          have hfz49_2 := blk_frozen BK548.out 2
          have hfz49_3 := blk_frozen BK548.out 3
          have hfz49_4 := blk_frozen BK548.out 4
          go_wp2
          go_ret
          exact fn
        ·rw [if_neg c41] at H
         have c41b0 : (a0_0 == 6) = false := beq_eq_false_iff_ne.mpr c41
         have c41b1 : (a0_0 != 6) = true := bne_iff_ne.mpr c41
         by_cases c50 : a0_0 = 5
         ·rw [if_pos c50] at H
          have c50b0 : (a0_0 == 5) = true := beq_iff_eq.mpr c50
          have c50b1 : (a0_0 != 5) = false := bne_eq_false_iff_eq.mpr c50
          clear c50
          have H' := Aside0.mk H
          clear H
          go_wp2
          go_meet
          case rel => exact ⟨_, H', ⟨by have := HJ7.out; first | omega | exact Nat.le_refl _⟩, ⟨bt⟩, ⟨bel⟩⟩
         ·rw [if_neg c50] at H
          have c50b0 : (a0_0 == 5) = false := beq_eq_false_iff_ne.mpr c50
          have c50b1 : (a0_0 != 5) = true := bne_iff_ne.mpr c50
          obtain rfl := Option.some.inj H
          go_wp2
          go_ret
          exact fn
  case rest =>
   clear HC5
   (try clear c1);(try clear c2);(try clear p2);(try clear c3);(try clear c3b0);(try clear c3b1);(try clear c4);(try clear c5);(try clear c9);(try clear c9b0);(try clear c9b1);(try clear c10);(try clear c10b0);(try clear c10b1);(try clear c11);(try clear c13);(try clear c14);(try clear c14b0);(try clear c14b1);(try clear c15);(try clear c15b0);(try clear c15b1);(try clear c15b2);(try clear c20);(try clear c20b0);(try clear c20b1);(try clear c21);(try clear c21b0);(try clear c21b1);(try clear c22);(try clear c22b0);(try clear c22b1);(try clear c22b2);(try clear c26);(try clear c26b0);(try clear c26b1);(try clear c28);(try clear c30);(try clear c31);(try clear c31b0);(try clear c31b1);(try clear c31b2);(try clear c41);(try clear c41b0);(try clear c41b1);(try clear c42);(try clear c42b0);(try clear c42b1);(try clear c42b2);(try clear c44);(try clear c50);(try clear c50b0);(try clear c50b1);(try clear hcz16_0);(try clear hcz16_1);(try clear hcz16_2);(try clear hcz16_3);(try clear hcz16_4);(try clear hcz17_0);(try clear hcz17_1);(try clear hcz17_2);(try clear hcz17_3);(try clear hcz17_4);(try clear hcz18_0);(try clear hcz18_1);(try clear hcz18_2);(try clear hcz18_3);(try clear hcz18_4);(try clear hcz19_0);(try clear hcz19_1);(try clear hcz19_2);(try clear hcz19_3);(try clear hcz19_4);(try clear hcz23_0);(try clear hcz23_1);(try clear hcz23_2);(try clear hcz23_3);(try clear hcz23_4);(try clear hcz24_0);(try clear hcz24_1);(try clear hcz24_2);(try clear hcz24_3);(try clear hcz24_4);(try clear hcz25_0);(try clear hcz25_1);(try clear hcz25_2);(try clear hcz25_3);(try clear hcz25_4);(try clear hcz32_0);(try clear hcz32_1);(try clear hcz32_2);(try clear hcz32_3);(try clear hcz32_4);(try clear hcz34_0);(try clear hcz34_1);(try clear hcz34_2);(try clear hcz34_3);(try clear hcz34_4);(try clear hcz35_0);(try clear hcz35_1);(try clear hcz35_2);(try clear hcz35_3);(try clear hcz35_4);(try clear hcz37_0);(try clear hcz37_1);(try clear hcz37_2);(try clear hcz37_3);(try clear hcz37_4);(try clear hcz38_0);(try clear hcz38_1);(try clear hcz38_2);(try clear hcz38_3);(try clear hcz38_4);(try clear hcz40_0);(try clear hcz40_1);(try clear hcz40_2);(try clear hcz40_3);(try clear hcz40_4);(try clear hcz45_0);(try clear hcz45_1);(try clear hcz45_2);(try clear hcz45_3);(try clear hcz45_4);(try clear hcz47_0);(try clear hcz47_1);(try clear hcz47_2);(try clear hcz47_3);(try clear hcz47_4);(try clear hcz49_0);(try clear hcz49_1);(try clear hcz49_2);(try clear hcz49_3);(try clear hcz49_4);(try clear hcz7_0);(try clear hcz7_1);(try clear hcz7_2);(try clear hcz7_3);(try clear hcz7_4);(try clear hfz16_0);(try clear hfz16_1);(try clear hfz16_2);(try clear hfz16_3);(try clear hfz16_4);(try clear hfz17_0);(try clear hfz17_1);(try clear hfz17_2);(try clear hfz17_3);(try clear hfz17_4);(try clear hfz18_0);(try clear hfz18_1);(try clear hfz18_2);(try clear hfz18_3);(try clear hfz18_4);(try clear hfz19_0);(try clear hfz19_1);(try clear hfz19_2);(try clear hfz19_3);(try clear hfz19_4);(try clear hfz23_0);(try clear hfz23_1);(try clear hfz23_2);(try clear hfz23_3);(try clear hfz23_4);(try clear hfz24_0);(try clear hfz24_1);(try clear hfz24_2);(try clear hfz24_3);(try clear hfz24_4);(try clear hfz25_0);(try clear hfz25_1);(try clear hfz25_2);(try clear hfz25_3);(try clear hfz25_4);(try clear hfz32_0);(try clear hfz32_1);(try clear hfz32_2);(try clear hfz32_3);(try clear hfz32_4);(try clear hfz34_0);(try clear hfz34_1);(try clear hfz34_2);(try clear hfz34_3);(try clear hfz34_4);(try clear hfz35_0);(try clear hfz35_1);(try clear hfz35_2);(try clear hfz35_3);(try clear hfz35_4);(try clear hfz37_0);(try clear hfz37_1);(try clear hfz37_2);(try clear hfz37_3);(try clear hfz37_4);(try clear hfz38_0);(try clear hfz38_1);(try clear hfz38_2);(try clear hfz38_3);(try clear hfz38_4);(try clear hfz40_0);(try clear hfz40_1);(try clear hfz40_2);(try clear hfz40_3);(try clear hfz40_4);(try clear hfz45_0);(try clear hfz45_1);(try clear hfz45_2);(try clear hfz45_3);(try clear hfz45_4);(try clear hfz47_0);(try clear hfz47_1);(try clear hfz47_2);(try clear hfz47_3);(try clear hfz47_4);(try clear hfz49_0);(try clear hfz49_1);(try clear hfz49_2);(try clear hfz49_3);(try clear hfz49_4);(try clear hfz7_0);(try clear hfz7_1);(try clear hfz7_2);(try clear hfz7_3);(try clear hfz7_4);(try clear p2)
   obtain ⟨kq, HA, HJ4, BK548, HB⟩ := hcut
   cases kq with
   | zero => exact absurd HA.out (by simp [value_right.j1])
   | succ kj4 =>
    have H := HA.out
    clear HA
    simp only [value_right.j1] at H
    have HC51 := Aside0.mk H
    clear H
    go_upto_region 16 with (fail)
    go_cut [110] (fun v110 wc => ∃ (kq : Nat) (x110_50 : Bool), v110 = .bool x110_50 ∧ Aside0 (value_right.j2 kq a1 x110_50 a0_0 a0_1 a0_2 l0_3 l0_4 = some r) ∧ Aside0 (kq ≤ kj4) ∧ Aside0 (wc.heap[gb548]? = some (.cells #[.int .i64 a0_0, .float .f64 a0_1, .string a0_2, (.slice A0_3 l0_3.length c0_3), (.slice A0_4 l0_4.length c0_4)] 27 (0, 0))) ∧ Aside0 (Below w.heap.size w wc))
    case first =>
     have H := HC51.out
     clear HC51
     by_cases c52 : a0_0 = 5
     ·rw [if_pos c52] at H
      have c52b0 : (a0_0 == 5) = true := beq_iff_eq.mpr c52
      have c52b1 : (a0_0 != 5) = false := bne_eq_false_iff_eq.mpr c52
      clear c52
      (first | rw [c52b0] | (simp only [i64_w, i32_w]; rw [c52b0]) | skip)
      by_cases c53 : (l0_4.length : Int) > 0
      ·rw [if_pos c53] at H
       have c53b0 : decide (0 < (l0_4.length : Int)) = true := decide_eq_true c53
       have c53b1 : decide (0 < l0_4.length) = true := decide_eq_true (by omega)
       clear c53
       have H' := Aside0.mk H
       clear H
       have hcz54_0 : wc.cell? ⟨gb548, 0, none⟩ = some (.int .i64 a0_0) := (blk_cell BK548.out 0).trans rfl
       have hcz54_1 : wc.cell? ⟨gb548, 1, none⟩ = some (.float .f64 a0_1) := (blk_cell BK548.out 1).trans rfl
       have hcz54_2 : wc.cell? ⟨gb548, 2, none⟩ = some (.string a0_2) := (blk_cell BK548.out 2).trans rfl
       have hcz54_3 : wc.cell? ⟨gb548, 3, none⟩ = some (.slice A0_3 l0_3.length c0_3) := (blk_cell BK548.out 3).trans rfl
       have hcz54_4 : wc.cell? ⟨gb548, 4, none⟩ = some (.slice A0_4 l0_4.length c0_4) := (blk_cell BK548.out 4).trans rfl
       have hfz54_0 := blk_frozen BK548.out 0
       have hfz54_1 := blk_frozen BK548.out 1
       have hfz54_2 := blk_frozen BK548.out 2
       have hfz54_3 := blk_frozen BK548.out 3
       have hfz54_4 := blk_frozen BK548.out 4
       go_wp2
       go_meet
       case rel => exact ⟨_, (true), pv, H', ⟨by have := HJ4.out; first | omega | exact Nat.le_refl _⟩, ⟨bt⟩, ⟨bel⟩⟩
      ·rw [if_neg c53] at H
       have c53b0 : decide (0 < (l0_4.length : Int)) = false := decide_eq_false c53
       have c53b1 : decide (0 < l0_4.length) = false := decide_eq_false (by omega)
       clear c53
       replace H := Option.bind_eq_some_iff.mp H
       obtain ⟨t553, A550, H⟩ := H
       replace H : (if t553 = true then (value_right.j2 kj4 a1 (a0_2.toList != ([] : List UInt8)) a0_0 a0_1 a0_2 l0_3 l0_4) else (value_right.j2 kj4 a1 true a0_0 a0_1 a0_2 l0_3 l0_4)) = some r := H
       have A55 := Aside0.mk A550
       clear A550
       by_cases c56 : t553 = true
       ·subst c56
        have H1 : (value_right.j2 kj4 a1 (a0_2.toList != ([] : List UInt8)) a0_0 a0_1 a0_2 l0_3 l0_4) = some r := by rw [if_pos rfl] at H; exact H
        clear H
        have H := H1
        clear H1
        have H' := Aside0.mk H
        clear H
        have hcz57_0 : wc.cell? ⟨gb548, 0, none⟩ = some (.int .i64 a0_0) := (blk_cell BK548.out 0).trans rfl
        have hcz57_1 : wc.cell? ⟨gb548, 1, none⟩ = some (.float .f64 a0_1) := (blk_cell BK548.out 1).trans rfl
        have hcz57_2 : wc.cell? ⟨gb548, 2, none⟩ = some (.string a0_2) := (blk_cell BK548.out 2).trans rfl
        have hcz57_3 : wc.cell? ⟨gb548, 3, none⟩ = some (.slice A0_3 l0_3.length c0_3) := (blk_cell BK548.out 3).trans rfl
        have hcz57_4 : wc.cell? ⟨gb548, 4, none⟩ = some (.slice A0_4 l0_4.length c0_4) := (blk_cell BK548.out 4).trans rfl
        have hfz57_0 := blk_frozen BK548.out 0
        have hfz57_1 := blk_frozen BK548.out 1
        have hfz57_2 := blk_frozen BK548.out 2
        have hfz57_3 := blk_frozen BK548.out 3
        have hfz57_4 := blk_frozen BK548.out 4
        go_wp2_with (first | (go_at_call 101; (with_reducible refine (value_bare.calls a0_1 true _ A55.out).mono ?_); rintro e w' ⟨rfl, ⟨nd, rfl⟩⟩))
        go_meet
        case rel => exact ⟨_, ((a0_2.toList != ([] : List UInt8))), pv, H', ⟨by have := HJ4.out; first | omega | exact Nat.le_refl _⟩, ⟨bt⟩, ⟨bel⟩⟩
       ·replace c56 := Bool.eq_false_iff.mpr c56
        subst c56
        have H1 : (value_right.j2 kj4 a1 true a0_0 a0_1 a0_2 l0_3 l0_4) = some r := by rw [if_neg (show ¬ (false = true) by decide)] at H; exact H
        clear H
        have H := H1
        clear H1
        have H' := Aside0.mk H
        clear H
        have hcz58_0 : wc.cell? ⟨gb548, 0, none⟩ = some (.int .i64 a0_0) := (blk_cell BK548.out 0).trans rfl
        have hcz58_1 : wc.cell? ⟨gb548, 1, none⟩ = some (.float .f64 a0_1) := (blk_cell BK548.out 1).trans rfl
        have hcz58_2 : wc.cell? ⟨gb548, 2, none⟩ = some (.string a0_2) := (blk_cell BK548.out 2).trans rfl
        have hcz58_3 : wc.cell? ⟨gb548, 3, none⟩ = some (.slice A0_3 l0_3.length c0_3) := (blk_cell BK548.out 3).trans rfl
        have hcz58_4 : wc.cell? ⟨gb548, 4, none⟩ = some (.slice A0_4 l0_4.length c0_4) := (blk_cell BK548.out 4).trans rfl
        have hfz58_0 := blk_frozen BK548.out 0
        have hfz58_1 := blk_frozen BK548.out 1
        have hfz58_2 := blk_frozen BK548.out 2
        have hfz58_3 := blk_frozen BK548.out 3
        have hfz58_4 := blk_frozen BK548.out 4
        go_wp2_with (first | (go_at_call 101; (with_reducible refine (value_bare.calls a0_1 false _ A55.out).mono ?_); rintro e w' ⟨rfl, ⟨nd, rfl⟩⟩))
        go_meet
        case rel => exact ⟨_, (true), pv, H', ⟨by have := HJ4.out; first | omega | exact Nat.le_refl _⟩, ⟨bt⟩, ⟨bel⟩⟩
     ·rw [if_neg c52] at H
      have c52b0 : (a0_0 == 5) = false := beq_eq_false_iff_ne.mpr c52
      have c52b1 : (a0_0 != 5) = true := bne_iff_ne.mpr c52
      (first | rw [c52b0] | (simp only [i64_w, i32_w]; rw [c52b0]) | skip)
      replace H := Option.bind_eq_some_iff.mp H
      obtain ⟨t554, A590, H⟩ := H
      replace H : (if t554 = true then (value_right.j2 kj4 a1 (a0_2.toList != ([] : List UInt8)) a0_0 a0_1 a0_2 l0_3 l0_4) else (value_right.j2 kj4 a1 true a0_0 a0_1 a0_2 l0_3 l0_4)) = some r := H
      have A59 := Aside0.mk A590
      clear A590
      by_cases c60 : t554 = true
      ·subst c60
       have H1 : (value_right.j2 kj4 a1 (a0_2.toList != ([] : List UInt8)) a0_0 a0_1 a0_2 l0_3 l0_4) = some r := by rw [if_pos rfl] at H; exact H
       clear H
       have H := H1
       clear H1
       have H' := Aside0.mk H
       clear H
       have hcz61_0 : wc.cell? ⟨gb548, 0, none⟩ = some (.int .i64 a0_0) := (blk_cell BK548.out 0).trans rfl
       have hcz61_1 : wc.cell? ⟨gb548, 1, none⟩ = some (.float .f64 a0_1) := (blk_cell BK548.out 1).trans rfl
       have hcz61_2 : wc.cell? ⟨gb548, 2, none⟩ = some (.string a0_2) := (blk_cell BK548.out 2).trans rfl
       have hcz61_3 : wc.cell? ⟨gb548, 3, none⟩ = some (.slice A0_3 l0_3.length c0_3) := (blk_cell BK548.out 3).trans rfl
       have hcz61_4 : wc.cell? ⟨gb548, 4, none⟩ = some (.slice A0_4 l0_4.length c0_4) := (blk_cell BK548.out 4).trans rfl
       have hfz61_0 := blk_frozen BK548.out 0
       have hfz61_1 := blk_frozen BK548.out 1
       have hfz61_2 := blk_frozen BK548.out 2
       have hfz61_3 := blk_frozen BK548.out 3
       have hfz61_4 := blk_frozen BK548.out 4
       go_wp2_with (first | (go_at_call 101; (with_reducible refine (value_bare.calls a0_1 true _ A59.out).mono ?_); rintro e w' ⟨rfl, ⟨nd, rfl⟩⟩))
       go_meet
       case rel => exact ⟨_, ((a0_2.toList != ([] : List UInt8))), pv, H', ⟨by have := HJ4.out; first | omega | exact Nat.le_refl _⟩, ⟨bt⟩, ⟨bel⟩⟩
      ·replace c60 := Bool.eq_false_iff.mpr c60
       subst c60
       have H1 : (value_right.j2 kj4 a1 true a0_0 a0_1 a0_2 l0_3 l0_4) = some r := by rw [if_neg (show ¬ (false = true) by decide)] at H; exact H
       clear H
       have H := H1
       clear H1
       have H' := Aside0.mk H
       clear H
       have hcz62_0 : wc.cell? ⟨gb548, 0, none⟩ = some (.int .i64 a0_0) := (blk_cell BK548.out 0).trans rfl
       have hcz62_1 : wc.cell? ⟨gb548, 1, none⟩ = some (.float .f64 a0_1) := (blk_cell BK548.out 1).trans rfl
       have hcz62_2 : wc.cell? ⟨gb548, 2, none⟩ = some (.string a0_2) := (blk_cell BK548.out 2).trans rfl
       have hcz62_3 : wc.cell? ⟨gb548, 3, none⟩ = some (.slice A0_3 l0_3.length c0_3) := (blk_cell BK548.out 3).trans rfl
       have hcz62_4 : wc.cell? ⟨gb548, 4, none⟩ = some (.slice A0_4 l0_4.length c0_4) := (blk_cell BK548.out 4).trans rfl
       have hfz62_0 := blk_frozen BK548.out 0
       have hfz62_1 := blk_frozen BK548.out 1
       have hfz62_2 := blk_frozen BK548.out 2
       have hfz62_3 := blk_frozen BK548.out 3
       have hfz62_4 := blk_frozen BK548.out 4
       go_wp2_with (first | (go_at_call 101; (with_reducible refine (value_bare.calls a0_1 false _ A59.out).mono ?_); rintro e w' ⟨rfl, ⟨nd, rfl⟩⟩))
       go_meet
       case rel => exact ⟨_, (true), pv, H', ⟨by have := HJ4.out; first | omega | exact Nat.le_refl _⟩, ⟨bt⟩, ⟨bel⟩⟩
    case rest =>
     clear HC51
     (try clear c1);(try clear c2);(try clear p2);(try clear c3);(try clear c3b0);(try clear c3b1);(try clear c4);(try clear c5);(try clear c6);(try clear c9);(try clear c9b0);(try clear c9b1);(try clear c10);(try clear c10b0);(try clear c10b1);(try clear c11);(try clear c13);(try clear c14);(try clear c14b0);(try clear c14b1);(try clear c15);(try clear c15b0);(try clear c15b1);(try clear c15b2);(try clear c20);(try clear c20b0);(try clear c20b1);(try clear c21);(try clear c21b0);(try clear c21b1);(try clear c22);(try clear c22b0);(try clear c22b1);(try clear c22b2);(try clear c26);(try clear c26b0);(try clear c26b1);(try clear c28);(try clear c30);(try clear c31);(try clear c31b0);(try clear c31b1);(try clear c31b2);(try clear c41);(try clear c41b0);(try clear c41b1);(try clear c42);(try clear c42b0);(try clear c42b1);(try clear c42b2);(try clear c44);(try clear c50);(try clear c50b0);(try clear c50b1);(try clear c52);(try clear c52b0);(try clear c52b1);(try clear c53);(try clear c53b0);(try clear c53b1);(try clear c56);(try clear c60);(try clear hcz16_0);(try clear hcz16_1);(try clear hcz16_2);(try clear hcz16_3);(try clear hcz16_4);(try clear hcz17_0);(try clear hcz17_1);(try clear hcz17_2);(try clear hcz17_3);(try clear hcz17_4);(try clear hcz18_0);(try clear hcz18_1);(try clear hcz18_2);(try clear hcz18_3);(try clear hcz18_4);(try clear hcz19_0);(try clear hcz19_1);(try clear hcz19_2);(try clear hcz19_3);(try clear hcz19_4);(try clear hcz23_0);(try clear hcz23_1);(try clear hcz23_2);(try clear hcz23_3);(try clear hcz23_4);(try clear hcz24_0);(try clear hcz24_1);(try clear hcz24_2);(try clear hcz24_3);(try clear hcz24_4);(try clear hcz25_0);(try clear hcz25_1);(try clear hcz25_2);(try clear hcz25_3);(try clear hcz25_4);(try clear hcz32_0);(try clear hcz32_1);(try clear hcz32_2);(try clear hcz32_3);(try clear hcz32_4);(try clear hcz34_0);(try clear hcz34_1);(try clear hcz34_2);(try clear hcz34_3);(try clear hcz34_4);(try clear hcz35_0);(try clear hcz35_1);(try clear hcz35_2);(try clear hcz35_3);(try clear hcz35_4);(try clear hcz37_0);(try clear hcz37_1);(try clear hcz37_2);(try clear hcz37_3);(try clear hcz37_4);(try clear hcz38_0);(try clear hcz38_1);(try clear hcz38_2);(try clear hcz38_3);(try clear hcz38_4);(try clear hcz40_0);(try clear hcz40_1);(try clear hcz40_2);(try clear hcz40_3);(try clear hcz40_4);(try clear hcz45_0);(try clear hcz45_1);(try clear hcz45_2);(try clear hcz45_3);(try clear hcz45_4);(try clear hcz47_0);(try clear hcz47_1);(try clear hcz47_2);(try clear hcz47_3);(try clear hcz47_4);(try clear hcz49_0);(try clear hcz49_1);(try clear hcz49_2);(try clear hcz49_3);(try clear hcz49_4);(try clear hcz54_0);(try clear hcz54_1);(try clear hcz54_2);(try clear hcz54_3);(try clear hcz54_4);(try clear hcz57_0);(try clear hcz57_1);(try clear hcz57_2);(try clear hcz57_3);(try clear hcz57_4);(try clear hcz58_0);(try clear hcz58_1);(try clear hcz58_2);(try clear hcz58_3);(try clear hcz58_4);(try clear hcz61_0);(try clear hcz61_1);(try clear hcz61_2);(try clear hcz61_3);(try clear hcz61_4);(try clear hcz62_0);(try clear hcz62_1);(try clear hcz62_2);(try clear hcz62_3);(try clear hcz62_4);(try clear hcz7_0);(try clear hcz7_1);(try clear hcz7_2);(try clear hcz7_3);(try clear hcz7_4);(try clear hfz16_0);(try clear hfz16_1);(try clear hfz16_2);(try clear hfz16_3);(try clear hfz16_4);(try clear hfz17_0);(try clear hfz17_1);(try clear hfz17_2);(try clear hfz17_3);(try clear hfz17_4);(try clear hfz18_0);(try clear hfz18_1);(try clear hfz18_2);(try clear hfz18_3);(try clear hfz18_4);(try clear hfz19_0);(try clear hfz19_1);(try clear hfz19_2);(try clear hfz19_3);(try clear hfz19_4);(try clear hfz23_0);(try clear hfz23_1);(try clear hfz23_2);(try clear hfz23_3);(try clear hfz23_4);(try clear hfz24_0);(try clear hfz24_1);(try clear hfz24_2);(try clear hfz24_3);(try clear hfz24_4);(try clear hfz25_0);(try clear hfz25_1);(try clear hfz25_2);(try clear hfz25_3);(try clear hfz25_4);(try clear hfz32_0);(try clear hfz32_1);(try clear hfz32_2);(try clear hfz32_3);(try clear hfz32_4);(try clear hfz34_0);(try clear hfz34_1);(try clear hfz34_2);(try clear hfz34_3);(try clear hfz34_4);(try clear hfz35_0);(try clear hfz35_1);(try clear hfz35_2);(try clear hfz35_3);(try clear hfz35_4);(try clear hfz37_0);(try clear hfz37_1);(try clear hfz37_2);(try clear hfz37_3);(try clear hfz37_4);(try clear hfz38_0);(try clear hfz38_1);(try clear hfz38_2);(try clear hfz38_3);(try clear hfz38_4);(try clear hfz40_0);(try clear hfz40_1);(try clear hfz40_2);(try clear hfz40_3);(try clear hfz40_4);(try clear hfz45_0);(try clear hfz45_1);(try clear hfz45_2);(try clear hfz45_3);(try clear hfz45_4);(try clear hfz47_0);(try clear hfz47_1);(try clear hfz47_2);(try clear hfz47_3);(try clear hfz47_4);(try clear hfz49_0);(try clear hfz49_1);(try clear hfz49_2);(try clear hfz49_3);(try clear hfz49_4);(try clear hfz54_0);(try clear hfz54_1);(try clear hfz54_2);(try clear hfz54_3);(try clear hfz54_4);(try clear hfz57_0);(try clear hfz57_1);(try clear hfz57_2);(try clear hfz57_3);(try clear hfz57_4);(try clear hfz58_0);(try clear hfz58_1);(try clear hfz58_2);(try clear hfz58_3);(try clear hfz58_4);(try clear hfz61_0);(try clear hfz61_1);(try clear hfz61_2);(try clear hfz61_3);(try clear hfz61_4);(try clear hfz62_0);(try clear hfz62_1);(try clear hfz62_2);(try clear hfz62_3);(try clear hfz62_4);(try clear hfz7_0);(try clear hfz7_1);(try clear hfz7_2);(try clear hfz7_3);(try clear hfz7_4);(try clear p2)
     obtain ⟨kq, x110_50, rfl, HA, HJ50, BK548, HB⟩ := hcut
     cases kq with
     | zero => exact absurd HA.out (by simp [value_right.j2])
     | succ kj50 =>
      have H := HA.out
      clear HA
      simp only [value_right.j2] at H
      by_cases c63 : x110_50 = true
      ·subst c63
       have H1 : (some false) = some r := by rw [if_pos rfl] at H; exact H
       clear H
       have H := H1
       clear H1
       obtain rfl := Option.some.inj H
       go_wp2
       go_ret
       exact fn
      ·replace c63 := Bool.eq_false_iff.mpr c63
       subst c63
       have H1 : (value_right.l0 kj50 a1 l0_3 (l0_3.length : Int) 0) = some r := by rw [if_neg (show ¬ (false = true) by decide)] at H; exact H
       clear H
       have H := H1
       clear H1
       have H' := Aside0.mk H
       clear H
       have hcz64_0 : wc.cell? ⟨gb548, 0, none⟩ = some (.int .i64 a0_0) := (blk_cell BK548.out 0).trans rfl
       have hcz64_1 : wc.cell? ⟨gb548, 1, none⟩ = some (.float .f64 a0_1) := (blk_cell BK548.out 1).trans rfl
       have hcz64_2 : wc.cell? ⟨gb548, 2, none⟩ = some (.string a0_2) := (blk_cell BK548.out 2).trans rfl
       have hcz64_3 : wc.cell? ⟨gb548, 3, none⟩ = some (.slice A0_3 l0_3.length c0_3) := (blk_cell BK548.out 3).trans rfl
       have hcz64_4 : wc.cell? ⟨gb548, 4, none⟩ = some (.slice A0_4 l0_4.length c0_4) := (blk_cell BK548.out 4).trans rfl
       have hfz64_0 := blk_frozen BK548.out 0
       have hfz64_1 := blk_frozen BK548.out 1
       have hfz64_2 := blk_frozen BK548.out 2
       have hfz64_3 := blk_frozen BK548.out 3
       have hfz64_4 := blk_frozen BK548.out 4
       go_wp2
       go_loopg [114] kj50 (fun kq v114 w' => ∃ (x114_3 : Int), v114 = .int .i64 x114_3 ∧ Aside0 (value_right.l0 kq a1 l0_3 (l0_3.length : Int) x114_3 = some r) ∧ Aside0 (kq ≤ kj50) ∧ Aside0 (w'.heap[gb548]? = some (.cells #[.int .i64 a0_0, .float .f64 a0_1, .string a0_2, (.slice A0_3 l0_3.length c0_3), (.slice A0_4 l0_4.length c0_4)] 27 (0, 0))) ∧ Aside0 (Below w.heap.size w w'))
       case atStart => exact ⟨(0), pv, H', ⟨Nat.le_refl _⟩, ⟨bt⟩, ⟨bel⟩⟩
       case round =>
        clear H'
        (try clear c1);(try clear c2);(try clear p2);(try clear c3);(try clear c3b0);(try clear c3b1);(try clear c4);(try clear c5);(try clear c6);(try clear c9);(try clear c9b0);(try clear c9b1);(try clear c10);(try clear c10b0);(try clear c10b1);(try clear c11);(try clear c13);(try clear c14);(try clear c14b0);(try clear c14b1);(try clear c15);(try clear c15b0);(try clear c15b1);(try clear c15b2);(try clear c20);(try clear c20b0);(try clear c20b1);(try clear c21);(try clear c21b0);(try clear c21b1);(try clear c22);(try clear c22b0);(try clear c22b1);(try clear c22b2);(try clear c26);(try clear c26b0);(try clear c26b1);(try clear c28);(try clear c30);(try clear c31);(try clear c31b0);(try clear c31b1);(try clear c31b2);(try clear c41);(try clear c41b0);(try clear c41b1);(try clear c42);(try clear c42b0);(try clear c42b1);(try clear c42b2);(try clear c44);(try clear c50);(try clear c50b0);(try clear c50b1);(try clear c52);(try clear c52b0);(try clear c52b1);(try clear c53);(try clear c53b0);(try clear c53b1);(try clear c56);(try clear c60);(try clear c63);(try clear hcz16_0);(try clear hcz16_1);(try clear hcz16_2);(try clear hcz16_3);(try clear hcz16_4);(try clear hcz17_0);(try clear hcz17_1);(try clear hcz17_2);(try clear hcz17_3);(try clear hcz17_4);(try clear hcz18_0);(try clear hcz18_1);(try clear hcz18_2);(try clear hcz18_3);(try clear hcz18_4);(try clear hcz19_0);(try clear hcz19_1);(try clear hcz19_2);(try clear hcz19_3);(try clear hcz19_4);(try clear hcz23_0);(try clear hcz23_1);(try clear hcz23_2);(try clear hcz23_3);(try clear hcz23_4);(try clear hcz24_0);(try clear hcz24_1);(try clear hcz24_2);(try clear hcz24_3);(try clear hcz24_4);(try clear hcz25_0);(try clear hcz25_1);(try clear hcz25_2);(try clear hcz25_3);(try clear hcz25_4);(try clear hcz32_0);(try clear hcz32_1);(try clear hcz32_2);(try clear hcz32_3);(try clear hcz32_4);(try clear hcz34_0);(try clear hcz34_1);(try clear hcz34_2);(try clear hcz34_3);(try clear hcz34_4);(try clear hcz35_0);(try clear hcz35_1);(try clear hcz35_2);(try clear hcz35_3);(try clear hcz35_4);(try clear hcz37_0);(try clear hcz37_1);(try clear hcz37_2);(try clear hcz37_3);(try clear hcz37_4);(try clear hcz38_0);(try clear hcz38_1);(try clear hcz38_2);(try clear hcz38_3);(try clear hcz38_4);(try clear hcz40_0);(try clear hcz40_1);(try clear hcz40_2);(try clear hcz40_3);(try clear hcz40_4);(try clear hcz45_0);(try clear hcz45_1);(try clear hcz45_2);(try clear hcz45_3);(try clear hcz45_4);(try clear hcz47_0);(try clear hcz47_1);(try clear hcz47_2);(try clear hcz47_3);(try clear hcz47_4);(try clear hcz49_0);(try clear hcz49_1);(try clear hcz49_2);(try clear hcz49_3);(try clear hcz49_4);(try clear hcz54_0);(try clear hcz54_1);(try clear hcz54_2);(try clear hcz54_3);(try clear hcz54_4);(try clear hcz57_0);(try clear hcz57_1);(try clear hcz57_2);(try clear hcz57_3);(try clear hcz57_4);(try clear hcz58_0);(try clear hcz58_1);(try clear hcz58_2);(try clear hcz58_3);(try clear hcz58_4);(try clear hcz61_0);(try clear hcz61_1);(try clear hcz61_2);(try clear hcz61_3);(try clear hcz61_4);(try clear hcz62_0);(try clear hcz62_1);(try clear hcz62_2);(try clear hcz62_3);(try clear hcz62_4);(try clear hcz64_0);(try clear hcz64_1);(try clear hcz64_2);(try clear hcz64_3);(try clear hcz64_4);(try clear hcz7_0);(try clear hcz7_1);(try clear hcz7_2);(try clear hcz7_3);(try clear hcz7_4);(try clear hfz16_0);(try clear hfz16_1);(try clear hfz16_2);(try clear hfz16_3);(try clear hfz16_4);(try clear hfz17_0);(try clear hfz17_1);(try clear hfz17_2);(try clear hfz17_3);(try clear hfz17_4);(try clear hfz18_0);(try clear hfz18_1);(try clear hfz18_2);(try clear hfz18_3);(try clear hfz18_4);(try clear hfz19_0);(try clear hfz19_1);(try clear hfz19_2);(try clear hfz19_3);(try clear hfz19_4);(try clear hfz23_0);(try clear hfz23_1);(try clear hfz23_2);(try clear hfz23_3);(try clear hfz23_4);(try clear hfz24_0);(try clear hfz24_1);(try clear hfz24_2);(try clear hfz24_3);(try clear hfz24_4);(try clear hfz25_0);(try clear hfz25_1);(try clear hfz25_2);(try clear hfz25_3);(try clear hfz25_4);(try clear hfz32_0);(try clear hfz32_1);(try clear hfz32_2);(try clear hfz32_3);(try clear hfz32_4);(try clear hfz34_0);(try clear hfz34_1);(try clear hfz34_2);(try clear hfz34_3);(try clear hfz34_4);(try clear hfz35_0);(try clear hfz35_1);(try clear hfz35_2);(try clear hfz35_3);(try clear hfz35_4);(try clear hfz37_0);(try clear hfz37_1);(try clear hfz37_2);(try clear hfz37_3);(try clear hfz37_4);(try clear hfz38_0);(try clear hfz38_1);(try clear hfz38_2);(try clear hfz38_3);(try clear hfz38_4);(try clear hfz40_0);(try clear hfz40_1);(try clear hfz40_2);(try clear hfz40_3);(try clear hfz40_4);(try clear hfz45_0);(try clear hfz45_1);(try clear hfz45_2);(try clear hfz45_3);(try clear hfz45_4);(try clear hfz47_0);(try clear hfz47_1);(try clear hfz47_2);(try clear hfz47_3);(try clear hfz47_4);(try clear hfz49_0);(try clear hfz49_1);(try clear hfz49_2);(try clear hfz49_3);(try clear hfz49_4);(try clear hfz54_0);(try clear hfz54_1);(try clear hfz54_2);(try clear hfz54_3);(try clear hfz54_4);(try clear hfz57_0);(try clear hfz57_1);(try clear hfz57_2);(try clear hfz57_3);(try clear hfz57_4);(try clear hfz58_0);(try clear hfz58_1);(try clear hfz58_2);(try clear hfz58_3);(try clear hfz58_4);(try clear hfz61_0);(try clear hfz61_1);(try clear hfz61_2);(try clear hfz61_3);(try clear hfz61_4);(try clear hfz62_0);(try clear hfz62_1);(try clear hfz62_2);(try clear hfz62_3);(try clear hfz62_4);(try clear hfz64_0);(try clear hfz64_1);(try clear hfz64_2);(try clear hfz64_3);(try clear hfz64_4);(try clear hfz7_0);(try clear hfz7_1);(try clear hfz7_2);(try clear hfz7_3);(try clear hfz7_4);(try clear p2)
        obtain ⟨x114_3, rfl, HA, HK3, BK548, HB⟩ := hrel
        cases gk with
        | zero => exact absurd HA.out (by simp [value_right.l0])
        | succ k3 =>
         have H := HA.out
         clear HA
         simp only [value_right.l0] at H
         by_cases c65 : x114_3 < (l0_3.length : Int)
         ·rw [if_pos c65] at H
          have c65b0 : decide (x114_3 < (l0_3.length : Int)) = true := decide_eq_true c65
          clear c65
          by_cases c66 : 0 ≤ x114_3
          ·rw [if_pos c66] at H
           have c66b0 : decide (0 ≤ x114_3) = true := decide_eq_true c66
           clear c66
           by_cases c67 : x114_3 < (l0_3.length : Int)
           ·rw [if_pos c67] at H
            have c67b0 : decide (x114_3 < (l0_3.length : Int)) = true := decide_eq_true c67
            clear c67
            replace H := Option.bind_eq_some_iff.mp H
            obtain ⟨t557, A680, H⟩ := H
            replace H : (if t557 = true then (value_right.l0 k3 a1 l0_3 (l0_3.length : Int) (wrap64 (x114_3 + 1))) else (some false)) = some r := H
            have A68 := Aside0.mk A680
            clear A680
            by_cases c69 : t557 = true
            ·subst c69
             have H1 : (value_right.l0 k3 a1 l0_3 (l0_3.length : Int) (wrap64 (x114_3 + 1))) = some r := by rw [if_pos rfl] at H; exact H
             clear H
             have H := H1
             clear H1
             have H' := Aside0.mk H
             clear H
             have p555 : 0 ≤ (x114_3 : Int) := of_decide_eq_true ass
             have q555 : x114_3 < (l0_3.length : Int) := of_decide_eq_true ass
             obtain ⟨ad555, A555_3, c555_3, A555_4, c555_4, e555, hx555_0, hx555_1, hx555_2, hx555_3, hx555_4, hl555_3, hi555_3, hl555_4, hi555_4⟩ := at_T27 HR0_3.out x114_3 p555 q555
             cases e555
             replace hx555_0 := cq HB hx555_0
             replace hx555_1 := cq HB hx555_1
             replace hx555_2 := cq HB hx555_2
             replace hx555_3 := cq HB hx555_3
             replace hx555_4 := cq HB hx555_4
             have HR555_3 := Aside0.mk hi555_3
             have HC555_3 := Aside0.mk hl555_3
             clear hi555_3 hl555_3
             have HR555_4 := Aside0.mk hi555_4
             have HC555_4 := Aside0.mk hl555_4
             clear hi555_4 hl555_4
             replace p555 := eq_true p555
             replace q555 := eq_true q555
             go_wp2_with (first | ((with_reducible refine gate_dst (N := 6) rfl ?_); (try (refine gate_guard (by rfl) ?_; dsimp only)); refine box_event ?hg (N := 6) ?hd (cs := #[.int .i64 0, .float .f64 0, .string (⟨#[]⟩ : ByteArray), .slice none 0 0, .slice none 0 0]) (t := 27) ?hr ?_; (case hd => rfl); (case hg => rfl); (case hr => first | (go_simp; done) | (go_simp; rfl)); intro gb556 hg w70 hbox hb; have n0_ := bb BK548 hb; have n1_ := bes hb; have n2_ := Aside0.mk (hbox); have n3_ := Aside0.mk ((bez hg : w.heap.size ≤ gb556)); have n4_ := Aside0.mk ((bez hg : w.heap.size ≤ gb556)); have n5_ := Aside0.mk ((by rw [hg]; exact Nat.ne_of_lt (blk_lt (g := gb548) (o := .cells #[.int .i64 a0_0, .float .f64 a0_1, .string a0_2, .slice (some ad555) l0_3.length c0_3, .slice A0_4 l0_4.length c0_4] 27 (0, 0)) bt) : gb548 ≠ gb556)); have n6_ := Aside0.mk ((by rw [hg]; exact Nat.ne_of_gt (blk_lt (g := gb548) (o := .cells #[.int .i64 a0_0, .float .f64 a0_1, .string a0_2, .slice (some ad555) l0_3.length c0_3, .slice A0_4 l0_4.length c0_4] 27 (0, 0)) bt) : gb556 ≠ gb548)); clear BK548; clear HB; have BK548 := n0_; have HB := n1_; have BK556 := n2_; have GW556 := n3_; have GE556 := n4_; have NB548_556 := n5_; have NB556_548 := n6_; clear n0_ n1_ n2_ n3_ n4_ n5_ n6_; clear hb hbox hg; have hnb71 := NB556_548.out; have hnc71 := NB548_556.out; have hcz72_0 : w70.cell? ⟨gb556, 0, none⟩ = some (.int .i64 0) := (blk_cell BK556.out 0).trans rfl; have hcz72_1 : w70.cell? ⟨gb556, 1, none⟩ = some (.float .f64 0) := (blk_cell BK556.out 1).trans rfl; have hcz72_2 : w70.cell? ⟨gb556, 2, none⟩ = some (.string (⟨#[]⟩ : ByteArray)) := (blk_cell BK556.out 2).trans rfl; have hcz72_3 : w70.cell? ⟨gb556, 3, none⟩ = some (.slice none 0 0) := (blk_cell BK556.out 3).trans rfl; have hcz72_4 : w70.cell? ⟨gb556, 4, none⟩ = some (.slice none 0 0) := (blk_cell BK556.out 4).trans rfl; have hfz72_0 := blk_frozen BK556.out 0; have hfz72_1 := blk_frozen BK556.out 1; have hfz72_2 := blk_frozen BK556.out 2; have hfz72_3 := blk_frozen BK556.out 3; have hfz72_4 := blk_frozen BK556.out 4) | ((with_reducible refine gate_callee (f := 59) rfl ?_); refine goesL_ (some 121) rfl rfl Tryz.func59 (by kernel_rfl) rfl #[.agg #[.int .i64 ((rd_T27 l0_3 x114_3).f0), .float .f64 ((rd_T27 l0_3 x114_3).f1), .string ((rd_T27 l0_3 x114_3).f2), .slice A555_3 ((rd_T27 l0_3 x114_3).f3).length c555_3, .slice A555_4 ((rd_T27 l0_3 x114_3).f4).length c555_4], .int .i64 (wrap64 (a1 - 1))] rfl am ?_; (with_reducible refine (ih k3 (by have := HJ4.out; have := HJ50.out; have := HK3.out; omega) ((rd_T27 l0_3 x114_3).f0) ((rd_T27 l0_3 x114_3).f1) ((rd_T27 l0_3 x114_3).f2) _ _ ((rd_T27 l0_3 x114_3).f3) _ _ ((rd_T27 l0_3 x114_3).f4) (wrap64 (a1 - 1)) true _ ?side1 ?side2 ?side3 ?side4 ?side5 A68.out).mono ?_); (case side1 => exact Kd.C_below HR555_3.out bel); (case side2 => exact HC555_3.out); (case side3 => exact Kd.C_below HR555_4.out bel); (case side4 => exact HC555_4.out); (case side5 => first | exact hT | exact tabs_below hT bel); rintro e w73 ⟨rfl, hb⟩; refine ⟨_, rfl, ?_⟩; have n0_ := bb BK548 hb; have n1_ := Aside0.mk (blk_below (g := gb556) (o := .cells #[.int .i64 ((rd_T27 l0_3 x114_3).f0), .float .f64 ((rd_T27 l0_3 x114_3).f1), .string ((rd_T27 l0_3 x114_3).f2), .slice A555_3 ((rd_T27 l0_3 x114_3).f3).length c555_3, .slice A555_4 ((rd_T27 l0_3 x114_3).f4).length c555_4] 27 (0, 0)) bt hb); have n2_ := bes hb; clear BK548; clear BK556; clear HB; have BK548 := n0_; have BK556 := n1_; have HB := n2_; clear n0_ n1_ n2_; (try clear hb); (try clear hb2); (try clear hk); (try clear hi)))
             go_roundg k3
             case measure => have := HJ4.out; have := HJ50.out; have := HK3.out; omega
             case rel => exact ⟨(wrap64 (x114_3 + 1)), pv, H', ⟨by have := HJ4.out; have := HJ50.out; have := HK3.out; omega⟩, ⟨bt⟩, ⟨bel⟩⟩
            ·replace c69 := Bool.eq_false_iff.mpr c69
             subst c69
             have H1 : (some false) = some r := by rw [if_neg (show ¬ (false = true) by decide)] at H; exact H
             clear H
             have H := H1
             clear H1
             obtain rfl := Option.some.inj H
             have p555 : 0 ≤ (x114_3 : Int) := of_decide_eq_true ass
             have q555 : x114_3 < (l0_3.length : Int) := of_decide_eq_true ass
             obtain ⟨ad555, A555_3, c555_3, A555_4, c555_4, e555, hx555_0, hx555_1, hx555_2, hx555_3, hx555_4, hl555_3, hi555_3, hl555_4, hi555_4⟩ := at_T27 HR0_3.out x114_3 p555 q555
             cases e555
             replace hx555_0 := cq HB hx555_0
             replace hx555_1 := cq HB hx555_1
             replace hx555_2 := cq HB hx555_2
             replace hx555_3 := cq HB hx555_3
             replace hx555_4 := cq HB hx555_4
             have HR555_3 := Aside0.mk hi555_3
             have HC555_3 := Aside0.mk hl555_3
             clear hi555_3 hl555_3
             have HR555_4 := Aside0.mk hi555_4
             have HC555_4 := Aside0.mk hl555_4
             clear hi555_4 hl555_4
             replace p555 := eq_true p555
             replace q555 := eq_true q555
             go_wp2_with (first | ((with_reducible refine gate_dst (N := 6) rfl ?_); (try (refine gate_guard (by rfl) ?_; dsimp only)); refine box_event ?hg (N := 6) ?hd (cs := #[.int .i64 0, .float .f64 0, .string (⟨#[]⟩ : ByteArray), .slice none 0 0, .slice none 0 0]) (t := 27) ?hr ?_; (case hd => rfl); (case hg => rfl); (case hr => first | (go_simp; done) | (go_simp; rfl)); intro gb556 hg w74 hbox hb; have n0_ := bb BK548 hb; have n1_ := bes hb; have n2_ := Aside0.mk (hbox); have n3_ := Aside0.mk ((bez hg : w.heap.size ≤ gb556)); have n4_ := Aside0.mk ((bez hg : w.heap.size ≤ gb556)); have n5_ := Aside0.mk ((by rw [hg]; exact Nat.ne_of_lt (blk_lt (g := gb548) (o := .cells #[.int .i64 a0_0, .float .f64 a0_1, .string a0_2, .slice (some ad555) l0_3.length c0_3, .slice A0_4 l0_4.length c0_4] 27 (0, 0)) bt) : gb548 ≠ gb556)); have n6_ := Aside0.mk ((by rw [hg]; exact Nat.ne_of_gt (blk_lt (g := gb548) (o := .cells #[.int .i64 a0_0, .float .f64 a0_1, .string a0_2, .slice (some ad555) l0_3.length c0_3, .slice A0_4 l0_4.length c0_4] 27 (0, 0)) bt) : gb556 ≠ gb548)); clear BK548; clear HB; have BK548 := n0_; have HB := n1_; have BK556 := n2_; have GW556 := n3_; have GE556 := n4_; have NB548_556 := n5_; have NB556_548 := n6_; clear n0_ n1_ n2_ n3_ n4_ n5_ n6_; clear hb hbox hg; have hnb75 := NB556_548.out; have hnc75 := NB548_556.out; have hcz76_0 : w74.cell? ⟨gb556, 0, none⟩ = some (.int .i64 0) := (blk_cell BK556.out 0).trans rfl; have hcz76_1 : w74.cell? ⟨gb556, 1, none⟩ = some (.float .f64 0) := (blk_cell BK556.out 1).trans rfl; have hcz76_2 : w74.cell? ⟨gb556, 2, none⟩ = some (.string (⟨#[]⟩ : ByteArray)) := (blk_cell BK556.out 2).trans rfl; have hcz76_3 : w74.cell? ⟨gb556, 3, none⟩ = some (.slice none 0 0) := (blk_cell BK556.out 3).trans rfl; have hcz76_4 : w74.cell? ⟨gb556, 4, none⟩ = some (.slice none 0 0) := (blk_cell BK556.out 4).trans rfl; have hfz76_0 := blk_frozen BK556.out 0; have hfz76_1 := blk_frozen BK556.out 1; have hfz76_2 := blk_frozen BK556.out 2; have hfz76_3 := blk_frozen BK556.out 3; have hfz76_4 := blk_frozen BK556.out 4) | ((with_reducible refine gate_callee (f := 59) rfl ?_); refine goesL_ (some 121) rfl rfl Tryz.func59 (by kernel_rfl) rfl #[.agg #[.int .i64 ((rd_T27 l0_3 x114_3).f0), .float .f64 ((rd_T27 l0_3 x114_3).f1), .string ((rd_T27 l0_3 x114_3).f2), .slice A555_3 ((rd_T27 l0_3 x114_3).f3).length c555_3, .slice A555_4 ((rd_T27 l0_3 x114_3).f4).length c555_4], .int .i64 (wrap64 (a1 - 1))] rfl am ?_; (with_reducible refine (ih k3 (by have := HJ4.out; have := HJ50.out; have := HK3.out; omega) ((rd_T27 l0_3 x114_3).f0) ((rd_T27 l0_3 x114_3).f1) ((rd_T27 l0_3 x114_3).f2) _ _ ((rd_T27 l0_3 x114_3).f3) _ _ ((rd_T27 l0_3 x114_3).f4) (wrap64 (a1 - 1)) false _ ?side1 ?side2 ?side3 ?side4 ?side5 A68.out).mono ?_); (case side1 => exact Kd.C_below HR555_3.out bel); (case side2 => exact HC555_3.out); (case side3 => exact Kd.C_below HR555_4.out bel); (case side4 => exact HC555_4.out); (case side5 => first | exact hT | exact tabs_below hT bel); rintro e w77 ⟨rfl, hb⟩; refine ⟨_, rfl, ?_⟩; have n0_ := bb BK548 hb; have n1_ := Aside0.mk (blk_below (g := gb556) (o := .cells #[.int .i64 ((rd_T27 l0_3 x114_3).f0), .float .f64 ((rd_T27 l0_3 x114_3).f1), .string ((rd_T27 l0_3 x114_3).f2), .slice A555_3 ((rd_T27 l0_3 x114_3).f3).length c555_3, .slice A555_4 ((rd_T27 l0_3 x114_3).f4).length c555_4] 27 (0, 0)) bt hb); have n2_ := bes hb; clear BK548; clear BK556; clear HB; have BK548 := n0_; have BK556 := n1_; have HB := n2_; clear n0_ n1_ n2_; (try clear hb); (try clear hb2); (try clear hk); (try clear hi)))
             go_ret
             exact fn
           ·rw [if_neg c67] at H
            exact absurd H (by simp)
          ·rw [if_neg c66] at H
           exact absurd H (by simp)
         ·rw [if_neg c65] at H
          have c65b0 : decide (x114_3 < (l0_3.length : Int)) = false := decide_eq_false c65
          clear c65
          obtain rfl := Option.some.inj H
          go_wp2
          go_ret
          exact fn
end Go.Proofs.YtmpmbnmldmpmiaaGreatDoor.A
