/- Texts of this claim, put together. -/
import Derived.Test.YtmpmbnmldmpmiaaGreatDoorShort
import Derived.Test.YtmpmbnmldmpmiaaGreatDoorA0
namespace Go.Proofs.YtmpmbnmldmpmiaaGreatDoor.A
open Go.RowKit Go.Proofs.YtmpmbnmldmpmiaaGreatDoorW.PrintWords Go.Proofs.YtmpmbnmldmpmiaaGreatDoorW.PrintLast Go.Proofs.YtmpmbnmldmpmiaaGreatDoorW.PrintMore Go.Proofs.YtmpmbnmldmpmiaaGreatDoorW.Short
attribute [local go_sem] max2_int min2_int max_two min_two max_three min_three max_four min_four   -- for this text's walks alone
set_option linter.unusedVariables false
set_option linter.unusedSimpArgs false
def colanderref01_more.f (a0 : Int) : Option (Bool) := some ((Go.bits .and .u8 a0 192) == 128)
set_option maxHeartbeats 8000000 in
set_option maxRecDepth 100000 in
theorem colanderref01_more.calls (a0 : Int) (r : Bool) (w : World) (h : colanderref01_more.f a0 = some r) :
  Calls Tryz.prog 117 #[.int .u8 a0] w fun e w' => e = .returned (.bool r) ∧ Drawn0 w w' := by
 have H : (some ((Go.bits .and .u8 a0 192) == 128)) = some r := h
 clear h
 obtain rfl := Option.some.inj H
 go_enter Tryz.func117, Tryz.ntmps117
 go_wp2
 go_ret
 exact ⟨by first | rfl | (simp; done) | (simp [*]; done), by repeat (first | exact Drawn0.refl _ | apply Drawn0.step)⟩
def colanderref01_Right.f (a0 : Int) : Option (Bool) := if a0 ≥ 0 then (if a0 ≤ 1114111 then (if a0 < 55296 then (some true) else (some (decide (a0 > 57343)))) else (some false)) else (some false)
set_option maxHeartbeats 8000000 in
set_option maxRecDepth 100000 in
theorem colanderref01_Right.calls (a0 : Int) (r : Bool) (w : World) (h : colanderref01_Right.f a0 = some r) :
  Calls Tryz.prog 118 #[.int .i64 a0] w fun e w' => e = .returned (.bool r) ∧ Drawn0 w w' := by
 have H : (if a0 ≥ 0 then (if a0 ≤ 1114111 then (if a0 < 55296 then (some true) else (some (decide (a0 > 57343)))) else (some false)) else (some false)) = some r := h
 clear h
 by_cases c2 : a0 ≥ 0
 ·rw [if_pos c2] at H
  have c2b0 : decide (0 ≤ a0) = true := decide_eq_true c2
  clear c2
  by_cases c3 : a0 ≤ 1114111
  ·rw [if_pos c3] at H
   have c3b0 : decide (a0 ≤ 1114111) = true := decide_eq_true c3
   clear c3
   by_cases c4 : a0 < 55296
   ·rw [if_pos c4] at H
    have c4b0 : decide (a0 < 55296) = true := decide_eq_true c4
    clear c4
    obtain rfl := Option.some.inj H
    go_enter Tryz.func118, Tryz.ntmps118
    go_wp2
    go_ret
    exact ⟨by first | rfl | (simp; done) | (simp [*]; done), by repeat (first | exact Drawn0.refl _ | apply Drawn0.step)⟩
   ·rw [if_neg c4] at H
    have c4b0 : decide (a0 < 55296) = false := decide_eq_false c4
    clear c4
    obtain rfl := Option.some.inj H
    go_enter Tryz.func118, Tryz.ntmps118
    go_wp2
    go_ret
    exact ⟨by first | rfl | (simp; done) | (simp [*]; done), by repeat (first | exact Drawn0.refl _ | apply Drawn0.step)⟩
  ·rw [if_neg c3] at H
   have c3b0 : decide (a0 ≤ 1114111) = false := decide_eq_false c3
   clear c3
   obtain rfl := Option.some.inj H
   go_enter Tryz.func118, Tryz.ntmps118
   go_wp2
   go_ret
   exact ⟨by first | rfl | (simp; done) | (simp [*]; done), by repeat (first | exact Drawn0.refl _ | apply Drawn0.step)⟩
 ·rw [if_neg c2] at H
  have c2b0 : decide (0 ≤ a0) = false := decide_eq_false c2
  clear c2
  obtain rfl := Option.some.inj H
  go_enter Tryz.func118, Tryz.ntmps118
  go_wp2
  go_ret
  exact ⟨by first | rfl | (simp; done) | (simp [*]; done), by repeat (first | exact Drawn0.refl _ | apply Drawn0.step)⟩
end Go.Proofs.YtmpmbnmldmpmiaaGreatDoor.A
namespace Go.Proofs.YtmpmbnmldmpmiaaGreatDoor.A
open Go.RowKit Go.Proofs.YtmpmbnmldmpmiaaGreatDoorW.PrintWords Go.Proofs.YtmpmbnmldmpmiaaGreatDoorW.PrintLast Go.Proofs.YtmpmbnmldmpmiaaGreatDoorW.PrintMore Go.Proofs.YtmpmbnmldmpmiaaGreatDoorW.Short
attribute [local go_sem] max2_int min2_int max_two min_two max_three min_three max_four min_four   -- for this text's walks alone
set_option linter.unusedVariables false
set_option linter.unusedSimpArgs false
mutual
def colanderref01_piece.j0 : Nat → ByteArray → Int → Int → Int → Int → Option (Int × Int × Bool)
 | 0, _, _, _, _, _ => none
 | k + 1, x0, x1, x8, x9, x10 => if x8 > (wrap64 ((x0.size : Int) - x1)) then (some (65533, 1, false)) else (colanderref01_piece.l0 k x0 x1 x8 x9 x10 1)
def colanderref01_piece.l0 : Nat → ByteArray → Int → Int → Int → Int → Int → Option (Int × Int × Bool)
 | 0, _, _, _, _, _, _ => none
 | k + 1, x0, x1, x8, x9, x10, x11 => if x11 < x8 then (if 0 ≤ (wrap64 (x1 + x11)) then (if (wrap64 (x1 + x11)) < (x0.size : Int) then ((colanderref01_more.f (bt x0 (wrap64 (x1 + x11)))).bind fun t101 => (if t101 = true then (colanderref01_piece.l0 k x0 x1 x8 (Go.bits .or .i64 (wrap64 (x9 * 64)) (wrap64 (Go.bits .and .u8 (bt x0 (wrap64 (x1 + x11))) 63))) x10 (wrap64 (x11 + 1))) else (some (65533, 1, false)))) else (none)) else (none)) else (if x9 < x10 then (some (65533, 1, false)) else ((colanderref01_Right.f x9).bind fun t102 => (if t102 = true then (some (x9, x8, true)) else (some (65533, 1, false)))))
end
def colanderref01_piece.f (k : Nat) (a0 : ByteArray) (a1 : Int) : Option (Int × Int × Bool) := if 0 ≤ a1 then (if a1 < (a0.size : Int) then (if (bt a0 a1) < 128 then (some (wrap64 (bt a0 a1), 1, true)) else (if (Go.bits .and .u8 (bt a0 a1) 224) = 192 then (colanderref01_piece.j0 k a0 a1 2 (wrap64 (Go.bits .and .u8 (bt a0 a1) 31)) 128) else (if (Go.bits .and .u8 (bt a0 a1) 240) = 224 then (colanderref01_piece.j0 k a0 a1 3 (wrap64 (Go.bits .and .u8 (bt a0 a1) 15)) 2048) else (if (Go.bits .and .u8 (bt a0 a1) 248) = 240 then (colanderref01_piece.j0 k a0 a1 4 (wrap64 (Go.bits .and .u8 (bt a0 a1) 7)) 65536) else (some (65533, 1, false)))))) else (none)) else (none)
set_option maxHeartbeats 8000000 in
set_option maxRecDepth 100000 in
theorem colanderref01_piece.calls (k : Nat) (a0 : ByteArray) (a1 : Int) (r1 : Int) (r2 : Int) (r3 : Bool) (w : World) (h : colanderref01_piece.f k a0 a1 = some (r1, r2, r3)) :
  Calls Tryz.prog 84 #[.string a0, .int .i64 a1] w fun e w' => e = .returned (.tuple #[.int .i64 r1, .int .i64 r2, .bool r3]) ∧ Drawn0 w w' := by
 have H : (if 0 ≤ a1 then (if a1 < (a0.size : Int) then (if (bt a0 a1) < 128 then (some (wrap64 (bt a0 a1), 1, true)) else (if (Go.bits .and .u8 (bt a0 a1) 224) = 192 then (colanderref01_piece.j0 k a0 a1 2 (wrap64 (Go.bits .and .u8 (bt a0 a1) 31)) 128) else (if (Go.bits .and .u8 (bt a0 a1) 240) = 224 then (colanderref01_piece.j0 k a0 a1 3 (wrap64 (Go.bits .and .u8 (bt a0 a1) 15)) 2048) else (if (Go.bits .and .u8 (bt a0 a1) 248) = 240 then (colanderref01_piece.j0 k a0 a1 4 (wrap64 (Go.bits .and .u8 (bt a0 a1) 7)) 65536) else (some (65533, 1, false)))))) else (none)) else (none)) = some (r1, r2, r3) := h
 clear h
 by_cases c3 : 0 ≤ a1
 ·rw [if_pos c3] at H
  have c3b0 : decide (0 ≤ a1) = true := decide_eq_true c3
  clear c3
  by_cases c4 : a1 < (a0.size : Int)
  ·rw [if_pos c4] at H
   have c4b0 : decide (a1 < (a0.size : Int)) = true := decide_eq_true c4
   clear c4
   have HC6 := Aside0.mk H
   clear H
   have p5 : 0 ≤ (a1 : Int) := of_decide_eq_true ass
   have q5 : a1 < (a0.size : Int) := of_decide_eq_true ass
   have hx5 := bt_at a0 a1
   replace p5 := eq_true p5
   replace q5 := eq_true q5
   go_enter Tryz.func84, Tryz.ntmps84
   go_upto_block 0 with (fail)
   go_cut [8, 9, 10] (fun v8 v9 v10 wc => ∃ (kq : Nat) (x8_5 : Int) (x9_5 : Int) (x10_5 : Int), v8 = .int .i64 x8_5 ∧ v9 = .int .i64 x9_5 ∧ v10 = .int .i64 x10_5 ∧ Aside0 (colanderref01_piece.j0 kq a0 a1 x8_5 x9_5 x10_5 = some (r1, r2, r3)) ∧ Aside0 (kq ≤ k) ∧ Drawn0 w wc)
   case first =>
    have H := HC6.out
    clear HC6
    by_cases c7 : (bt a0 a1) < 128
    ·rw [if_pos c7] at H
     have c7b0 : decide ((bt a0 a1) < 128) = true := decide_eq_true c7
     clear c7
     (first | rw [c7b0] | (simp only [i64_w, i32_w]; rw [c7b0]) | skip)
     simp only [Option.some.injEq, Prod.mk.injEq] at H
     obtain ⟨rfl, rfl, rfl⟩ := H
     go_wp2
     go_ret3
     exact ⟨by first | rfl | (simp; done) | (simp [*]; done), by repeat (first | exact Drawn0.refl _ | apply Drawn0.step)⟩
    ·rw [if_neg c7] at H
     have c7b0 : decide ((bt a0 a1) < 128) = false := decide_eq_false c7
     clear c7
     (first | rw [c7b0] | (simp only [i64_w, i32_w]; rw [c7b0]) | skip)
     by_cases c8 : (Go.bits .and .u8 (bt a0 a1) 224) = 192
     ·rw [if_pos c8] at H
      have c8b0 : ((Go.bits .and .u8 (bt a0 a1) 224) == 192) = true := beq_iff_eq.mpr c8
      have c8b1 : ((Go.bits .and .u8 (bt a0 a1) 224) != 192) = false := bne_eq_false_iff_eq.mpr c8
      clear c8
      have H' := Aside0.mk H
      clear H
      go_wp2
      go_meet
      case rel => exact ⟨_, (2), (wrap64 (Go.bits .and .u8 (bt a0 a1) 31)), (128), pv, pv, pv, H', ⟨by first | omega | exact Nat.le_refl _⟩, by repeat (first | exact Drawn0.refl _ | apply Drawn0.step)⟩
     ·rw [if_neg c8] at H
      have c8b0 : ((Go.bits .and .u8 (bt a0 a1) 224) == 192) = false := beq_eq_false_iff_ne.mpr c8
      have c8b1 : ((Go.bits .and .u8 (bt a0 a1) 224) != 192) = true := bne_iff_ne.mpr c8
      by_cases c9 : (Go.bits .and .u8 (bt a0 a1) 240) = 224
      ·rw [if_pos c9] at H
       have c9b0 : ((Go.bits .and .u8 (bt a0 a1) 240) == 224) = true := beq_iff_eq.mpr c9
       have c9b1 : ((Go.bits .and .u8 (bt a0 a1) 240) != 224) = false := bne_eq_false_iff_eq.mpr c9
       clear c9
       have H' := Aside0.mk H
       clear H
       go_wp2
       go_meet
       case rel => exact ⟨_, (3), (wrap64 (Go.bits .and .u8 (bt a0 a1) 15)), (2048), pv, pv, pv, H', ⟨by first | omega | exact Nat.le_refl _⟩, by repeat (first | exact Drawn0.refl _ | apply Drawn0.step)⟩
      ·rw [if_neg c9] at H
       have c9b0 : ((Go.bits .and .u8 (bt a0 a1) 240) == 224) = false := beq_eq_false_iff_ne.mpr c9
       have c9b1 : ((Go.bits .and .u8 (bt a0 a1) 240) != 224) = true := bne_iff_ne.mpr c9
       by_cases c10 : (Go.bits .and .u8 (bt a0 a1) 248) = 240
       ·rw [if_pos c10] at H
        have c10b0 : ((Go.bits .and .u8 (bt a0 a1) 248) == 240) = true := beq_iff_eq.mpr c10
        have c10b1 : ((Go.bits .and .u8 (bt a0 a1) 248) != 240) = false := bne_eq_false_iff_eq.mpr c10
        clear c10
        have H' := Aside0.mk H
        clear H
        go_wp2
        go_meet
        case rel => exact ⟨_, (4), (wrap64 (Go.bits .and .u8 (bt a0 a1) 7)), (65536), pv, pv, pv, H', ⟨by first | omega | exact Nat.le_refl _⟩, by repeat (first | exact Drawn0.refl _ | apply Drawn0.step)⟩
       ·rw [if_neg c10] at H
        have c10b0 : ((Go.bits .and .u8 (bt a0 a1) 248) == 240) = false := beq_eq_false_iff_ne.mpr c10
        have c10b1 : ((Go.bits .and .u8 (bt a0 a1) 248) != 240) = true := bne_iff_ne.mpr c10
        simp only [Option.some.injEq, Prod.mk.injEq] at H
        obtain ⟨rfl, rfl, rfl⟩ := H
        go_wp2
        go_ret3
        exact ⟨by first | rfl | (simp; done) | (simp [*]; done), by repeat (first | exact Drawn0.refl _ | apply Drawn0.step)⟩
   case rest =>
    clear HC6
    (try clear c1);(try clear p2);(try clear c3);(try clear c3b0);(try clear c4);(try clear c4b0);(try clear p5);(try clear q5);(try clear hx5);(try clear p6);(try clear c7);(try clear c7b0);(try clear c8);(try clear c8b0);(try clear c8b1);(try clear c9);(try clear c9b0);(try clear c9b1);(try clear c10);(try clear c10b0);(try clear c10b1);(try clear p5);(try clear q5)
    obtain ⟨kq, x8_5, x9_5, x10_5, rfl, rfl, rfl, HA, HJ5, ⟨mc5, rfl⟩⟩ := hcut
    cases kq with
    | zero => exact absurd HA.out (by simp [colanderref01_piece.j0])
    | succ kj5 =>
     have H := HA.out
     clear HA
     simp only [colanderref01_piece.j0] at H
     by_cases c11 : x8_5 > (wrap64 ((a0.size : Int) - a1))
     ·rw [if_pos c11] at H
      have c11b0 : decide ((wrap64 ((a0.size : Int) - a1)) < x8_5) = true := decide_eq_true c11
      clear c11
      simp only [Option.some.injEq, Prod.mk.injEq] at H
      obtain ⟨rfl, rfl, rfl⟩ := H
      go_wp2
      go_ret3
      exact ⟨by first | rfl | (simp; done) | (simp [*]; done), by repeat (first | exact Drawn0.refl _ | apply Drawn0.step)⟩
     ·rw [if_neg c11] at H
      have c11b0 : decide ((wrap64 ((a0.size : Int) - a1)) < x8_5) = false := decide_eq_false c11
      clear c11
      have H' := Aside0.mk H
      clear H
      go_wp2
      go_loopg [9, 11] kj5 (fun kq v9 v11 w' => ∃ (x9_2 : Int) (x11_2 : Int), v9 = .int .i64 x9_2 ∧ v11 = .int .i64 x11_2 ∧ Aside0 (colanderref01_piece.l0 kq a0 a1 x8_5 x9_2 x10_5 x11_2 = some (r1, r2, r3)) ∧ Aside0 (kq ≤ kj5) ∧ Drawn0 w w')
      case atStart => exact ⟨(x9_5), (1), pv, pv, H', ⟨Nat.le_refl _⟩, by repeat (first | exact Drawn0.refl _ | apply Drawn0.step)⟩
      case round =>
       clear H'
       (try clear c1);(try clear p2);(try clear c3);(try clear c3b0);(try clear c4);(try clear c4b0);(try clear c5);(try clear p5);(try clear q5);(try clear hx5);(try clear p6);(try clear c7);(try clear c7b0);(try clear c8);(try clear c8b0);(try clear c8b1);(try clear c9);(try clear c9b0);(try clear c9b1);(try clear c10);(try clear c10b0);(try clear c10b1);(try clear c11);(try clear c11b0);(try clear p2);(try clear p5);(try clear p6);(try clear q5)
       obtain ⟨x9_2, x11_2, rfl, rfl, HA, HK2, ⟨m2, rfl⟩⟩ := hrel
       cases gk with
       | zero => exact absurd HA.out (by simp [colanderref01_piece.l0])
       | succ k2 =>
        have H := HA.out
        clear HA
        simp only [colanderref01_piece.l0] at H
        by_cases c12 : x11_2 < x8_5
        ·rw [if_pos c12] at H
         have c12b0 : decide (x11_2 < x8_5) = true := decide_eq_true c12
         clear c12
         obtain ⟨ji13, hji13⟩ : ∃ j_ : Int, (wrap64 (a1 + x11_2)) = j_ := ⟨_, rfl⟩
         replace H : (if 0 ≤ (ji13) then (if (ji13) < (a0.size : Int) then ((colanderref01_more.f (bt a0 (ji13))).bind fun t101 => (if t101 = true then (colanderref01_piece.l0 k2 a0 a1 x8_5 (Go.bits .or .i64 (wrap64 (x9_2 * 64)) (wrap64 (Go.bits .and .u8 (bt a0 (ji13)) 63))) x10_5 (wrap64 (x11_2 + 1))) else (some (65533, 1, false)))) else (none)) else (none)) = some (r1, r2, r3) := by first | (rw [hji13] at H; exact H) | (simp only [hji13] at H ⊢; exact H)
         have hji13w : (IntKind.i64.wrap (a1 + x11_2)) = ji13 := (i64_w _).trans hji13
         by_cases c14 : 0 ≤ (ji13)
         ·rw [if_pos c14] at H
          have c14b0 : decide (0 ≤ (ji13)) = true := decide_eq_true c14
          clear c14
          by_cases c15 : (ji13) < (a0.size : Int)
          ·rw [if_pos c15] at H
           have c15b0 : decide ((ji13) < (a0.size : Int)) = true := decide_eq_true c15
           clear c15
           replace H := Option.bind_eq_some_iff.mp H
           obtain ⟨t101, A170, H⟩ := H
           replace H : (if t101 = true then (colanderref01_piece.l0 k2 a0 a1 x8_5 (Go.bits .or .i64 (wrap64 (x9_2 * 64)) (wrap64 (Go.bits .and .u8 (bt a0 (ji13)) 63))) x10_5 (wrap64 (x11_2 + 1))) else (some (65533, 1, false))) = some (r1, r2, r3) := H
           have A17 := Aside0.mk A170
           clear A170
           by_cases c18 : t101 = true
           ·subst c18
            have H1 : (colanderref01_piece.l0 k2 a0 a1 x8_5 (Go.bits .or .i64 (wrap64 (x9_2 * 64)) (wrap64 (Go.bits .and .u8 (bt a0 (ji13)) 63))) x10_5 (wrap64 (x11_2 + 1))) = some (r1, r2, r3) := by rw [if_pos rfl] at H; exact H
            clear H
            have H := H1
            clear H1
            have H' := Aside0.mk H
            clear H
            have p16 : 0 ≤ ((ji13) : Int) := of_decide_eq_true ass
            have q16 : (ji13) < (a0.size : Int) := of_decide_eq_true ass
            have hx16 := bt_at a0 (ji13)
            replace p16 := eq_true p16
            replace q16 := eq_true q16
            go_wp2_with (first | ((with_reducible refine gate_callee (f := 117) rfl ?_); refine goesL_ (some 57) rfl rfl Tryz.func117 (by kernel_rfl) rfl #[.int .u8 (bt a0 (ji13))] rfl (by (try simp only [List.map_toArray, List.map_cons, List.map_nil]); first | done | (simp only [hji13]; rfl) | rfl | (simp only [List.length_drop, List.length_take]; rfl)) ?_; (with_reducible refine (colanderref01_more.calls (bt a0 (ji13)) true _ A17.out).mono ?_); rintro e w' ⟨rfl, ⟨nd, rfl⟩⟩; refine ⟨_, rfl, ?_⟩; have p19 : 0 ≤ ((ji13) : Int) := of_decide_eq_true ass; have q19 : (ji13) < (a0.size : Int) := of_decide_eq_true ass; have hx19 := bt_at a0 (ji13); replace p19 := eq_true p19; replace q19 := eq_true q19))
            go_roundg k2
            case measure => have := HJ5.out; have := HK2.out; omega
            case rel => exact ⟨(Go.bits .or .i64 (wrap64 (x9_2 * 64)) (wrap64 (Go.bits .and .u8 (bt a0 (ji13)) 63))), (wrap64 (x11_2 + 1)), (by first | rfl | (simp; done) | (simp only [← hji13] <;> (first | rfl | simp)) | (simp [*]; done)), pv, H', ⟨by have := HJ5.out; have := HK2.out; omega⟩, by repeat (first | exact Drawn0.refl _ | apply Drawn0.step)⟩
           ·replace c18 := Bool.eq_false_iff.mpr c18
            subst c18
            have H1 : (some (65533, 1, false)) = some (r1, r2, r3) := by rw [if_neg (show ¬ (false = true) by decide)] at H; exact H
            clear H
            have H := H1
            clear H1
            simp only [Option.some.injEq, Prod.mk.injEq] at H
            obtain ⟨rfl, rfl, rfl⟩ := H
            have p16 : 0 ≤ ((ji13) : Int) := of_decide_eq_true ass
            have q16 : (ji13) < (a0.size : Int) := of_decide_eq_true ass
            have hx16 := bt_at a0 (ji13)
            replace p16 := eq_true p16
            replace q16 := eq_true q16
            go_wp2_with (first | ((with_reducible refine gate_callee (f := 117) rfl ?_); refine goesL_ (some 57) rfl rfl Tryz.func117 (by kernel_rfl) rfl #[.int .u8 (bt a0 (ji13))] rfl (by (try simp only [List.map_toArray, List.map_cons, List.map_nil]); first | done | (simp only [hji13]; rfl) | rfl | (simp only [List.length_drop, List.length_take]; rfl)) ?_; (with_reducible refine (colanderref01_more.calls (bt a0 (ji13)) false _ A17.out).mono ?_); rintro e w' ⟨rfl, ⟨nd, rfl⟩⟩; refine ⟨_, rfl, ?_⟩))
            go_ret3
            exact ⟨by first | rfl | (simp; done) | (simp only [← hji13] <;> (first | rfl | simp)) | (simp [*]; done), by repeat (first | exact Drawn0.refl _ | apply Drawn0.step)⟩
          ·rw [if_neg c15] at H
           exact absurd H (by simp)
         ·rw [if_neg c14] at H
          exact absurd H (by simp)
        ·rw [if_neg c12] at H
         have c12b0 : decide (x11_2 < x8_5) = false := decide_eq_false c12
         clear c12
         by_cases c20 : x9_2 < x10_5
         ·rw [if_pos c20] at H
          have c20b0 : decide (x9_2 < x10_5) = true := decide_eq_true c20
          clear c20
          simp only [Option.some.injEq, Prod.mk.injEq] at H
          obtain ⟨rfl, rfl, rfl⟩ := H
          go_wp2
          go_ret3
          exact ⟨by first | rfl | (simp; done) | (simp [*]; done), by repeat (first | exact Drawn0.refl _ | apply Drawn0.step)⟩
         ·rw [if_neg c20] at H
          have c20b0 : decide (x9_2 < x10_5) = false := decide_eq_false c20
          clear c20
          replace H := Option.bind_eq_some_iff.mp H
          obtain ⟨t102, A210, H⟩ := H
          replace H : (if t102 = true then (some (x9_2, x8_5, true)) else (some (65533, 1, false))) = some (r1, r2, r3) := H
          have A21 := Aside0.mk A210
          clear A210
          by_cases c22 : t102 = true
          ·subst c22
           have H1 : (some (x9_2, x8_5, true)) = some (r1, r2, r3) := by rw [if_pos rfl] at H; exact H
           clear H
           have H := H1
           clear H1
           simp only [Option.some.injEq, Prod.mk.injEq] at H
           obtain ⟨rfl, rfl, rfl⟩ := H
           go_wp2_with (first | (go_at_call 118; (with_reducible refine (colanderref01_Right.calls x9_2 true _ A21.out).mono ?_); rintro e w' ⟨rfl, ⟨nd, rfl⟩⟩))
           go_ret3
           exact ⟨by first | rfl | (simp; done) | (simp [*]; done), by repeat (first | exact Drawn0.refl _ | apply Drawn0.step)⟩
          ·replace c22 := Bool.eq_false_iff.mpr c22
           subst c22
           have H1 : (some (65533, 1, false)) = some (r1, r2, r3) := by rw [if_neg (show ¬ (false = true) by decide)] at H; exact H
           clear H
           have H := H1
           clear H1
           simp only [Option.some.injEq, Prod.mk.injEq] at H
           obtain ⟨rfl, rfl, rfl⟩ := H
           go_wp2_with (first | (go_at_call 118; (with_reducible refine (colanderref01_Right.calls x9_2 false _ A21.out).mono ?_); rintro e w' ⟨rfl, ⟨nd, rfl⟩⟩))
           go_ret3
           exact ⟨by first | rfl | (simp; done) | (simp [*]; done), by repeat (first | exact Drawn0.refl _ | apply Drawn0.step)⟩
  ·rw [if_neg c4] at H
   exact absurd H (by simp)
 ·rw [if_neg c3] at H
  exact absurd H (by simp)
end Go.Proofs.YtmpmbnmldmpmiaaGreatDoor.A
namespace Go.Proofs.YtmpmbnmldmpmiaaGreatDoor.A
open Go.RowKit Go.Proofs.YtmpmbnmldmpmiaaGreatDoorW.PrintWords Go.Proofs.YtmpmbnmldmpmiaaGreatDoorW.PrintLast Go.Proofs.YtmpmbnmldmpmiaaGreatDoorW.PrintMore Go.Proofs.YtmpmbnmldmpmiaaGreatDoorW.Short
attribute [local go_sem] max2_int min2_int max_two min_two max_three min_three max_four min_four   -- for this text's walks alone
set_option linter.unusedVariables false
set_option linter.unusedSimpArgs false
def colanderref01_Valid.l0 : Nat → ByteArray → Int → Option (Bool)
 | 0, _, _ => none
 | k + 1, x0, x3 => if x3 < (x0.size : Int) then ((colanderref01_piece.f k x0 x3).bind fun bt103 => (if bt103.2.2 = true then (colanderref01_Valid.l0 k x0 (wrap64 (x3 + bt103.2.1))) else (some false))) else (some true)
def colanderref01_Valid.f (k : Nat) (a0 : ByteArray) : Option (Bool) := colanderref01_Valid.l0 k a0 0
set_option maxHeartbeats 8000000 in
set_option maxRecDepth 100000 in
theorem colanderref01_Valid.calls (k : Nat) (a0 : ByteArray) (r : Bool) (w : World) (h : colanderref01_Valid.f k a0 = some r) :
  Calls Tryz.prog 35 #[.string a0] w fun e w' => e = .returned (.bool r) ∧ Drawn0 w w' := by
 have H : (colanderref01_Valid.l0 k a0 0) = some r := h
 clear h
 have H' := Aside0.mk H
 clear H
 go_enter Tryz.func35, Tryz.ntmps35
 go_wp2
 go_loopg [3] k (fun kq v3 w' => ∃ (x3_1 : Int), v3 = .int .i64 x3_1 ∧ Aside0 (colanderref01_Valid.l0 kq a0 x3_1 = some r) ∧ Aside0 (kq ≤ k) ∧ Drawn0 w w')
 case atStart => exact ⟨(0), pv, H', ⟨Nat.le_refl _⟩, by repeat (first | exact Drawn0.refl _ | apply Drawn0.step)⟩
 case round =>
  clear H'
  obtain ⟨x3_1, rfl, HA, HK1, ⟨m1, rfl⟩⟩ := hrel
  cases gk with
  | zero => exact absurd HA.out (by simp [colanderref01_Valid.l0])
  | succ k1 =>
   have H := HA.out
   clear HA
   simp only [colanderref01_Valid.l0] at H
   by_cases c2 : x3_1 < (a0.size : Int)
   ·rw [if_pos c2] at H
    have c2b0 : decide (x3_1 < (a0.size : Int)) = true := decide_eq_true c2
    clear c2
    replace H := Option.bind_eq_some_iff.mp H
    obtain ⟨⟨t103, t104, t105⟩, A30, H⟩ := H
    replace H : (if t105 = true then (colanderref01_Valid.l0 k1 a0 (wrap64 (x3_1 + t104))) else (some false)) = some r := H
    have A3 := Aside0.mk A30
    clear A30
    by_cases c4 : t105 = true
    ·subst c4
     have H1 : (colanderref01_Valid.l0 k1 a0 (wrap64 (x3_1 + t104))) = some r := by rw [if_pos rfl] at H; exact H
     clear H
     have H := H1
     clear H1
     have H' := Aside0.mk H
     clear H
     go_wp2_with (first | ((with_reducible refine gate_callee (f := 84) rfl ?_); refine goesL_ (some 14) rfl rfl Tryz.func84 (by kernel_rfl) rfl #[.string a0, .int .i64 x3_1] rfl am ?_; (with_reducible refine (colanderref01_piece.calls k1 a0 x3_1 t103 t104 true _ A3.out).mono ?_); rintro e w' ⟨rfl, ⟨nd, rfl⟩⟩; refine ⟨_, rfl, ?_⟩))
     go_roundg k1
     case measure => have := HK1.out; omega
     case rel => exact ⟨(wrap64 (x3_1 + t104)), pv, H', ⟨by have := HK1.out; omega⟩, by repeat (first | exact Drawn0.refl _ | apply Drawn0.step)⟩
    ·replace c4 := Bool.eq_false_iff.mpr c4
     subst c4
     have H1 : (some false) = some r := by rw [if_neg (show ¬ (false = true) by decide)] at H; exact H
     clear H
     have H := H1
     clear H1
     obtain rfl := Option.some.inj H
     go_wp2_with (first | ((with_reducible refine gate_callee (f := 84) rfl ?_); refine goesL_ (some 14) rfl rfl Tryz.func84 (by kernel_rfl) rfl #[.string a0, .int .i64 x3_1] rfl am ?_; (with_reducible refine (colanderref01_piece.calls k1 a0 x3_1 t103 t104 false _ A3.out).mono ?_); rintro e w' ⟨rfl, ⟨nd, rfl⟩⟩; refine ⟨_, rfl, ?_⟩))
     go_ret
     exact ⟨by first | rfl | (simp; done) | (simp [*]; done), by repeat (first | exact Drawn0.refl _ | apply Drawn0.step)⟩
   ·rw [if_neg c2] at H
    have c2b0 : decide (x3_1 < (a0.size : Int)) = false := decide_eq_false c2
    clear c2
    obtain rfl := Option.some.inj H
    go_wp2
    go_ret
    exact ⟨by first | rfl | (simp; done) | (simp [*]; done), by repeat (first | exact Drawn0.refl _ | apply Drawn0.step)⟩
end Go.Proofs.YtmpmbnmldmpmiaaGreatDoor.A
