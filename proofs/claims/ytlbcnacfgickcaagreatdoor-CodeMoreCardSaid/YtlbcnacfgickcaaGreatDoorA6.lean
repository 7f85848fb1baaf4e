/- Printed by this session's own copy of the printer (wip/tools/mkprint.py): functions, and that the Go code answers as they do. -/
import Derived.Test.YtlbcnacfgickcaaGreatDoorShort
import Derived.Test.YtlbcnacfgickcaaGreatDoorA0
import Derived.Test.YtlbcnacfgickcaaGreatDoorA1
import Derived.Test.YtlbcnacfgickcaaGreatDoorHandFields
namespace Go.Proofs.YtlbcnacfgickcaaGreatDoor.A
open Go.RowKit Go.Proofs.YtlbcnacfgickcaaGreatDoorW.PrintWords Go.Proofs.YtlbcnacfgickcaaGreatDoorW.PrintLast Go.Proofs.YtlbcnacfgickcaaGreatDoorW.PrintMore Go.Proofs.YtlbcnacfgickcaaGreatDoorW.Short
attribute [local go_sem] max2_int min2_int max_two min_two max_three min_three max_four min_four
set_option linter.unusedVariables false
set_option linter.unusedSimpArgs false
def code_Worlds.f  : Option (List ByteArray) := (strings_Fields.f (⟨#[105, 110, 112, 117, 116, 32, 100, 101, 98, 117, 103, 32, 115, 116, 100, 101, 114, 114, 32, 104, 97, 108, 116, 32, 104, 97, 108, 116, 95, 101, 114, 114, 111, 114, 32, 101, 110, 118, 32, 110, 111, 119, 32, 105, 110, 112, 117, 116, 95, 102, 105, 108, 101, 110, 97, 109, 101, 32, 103, 101, 116, 95, 115, 101, 97, 114, 99, 104, 95, 108, 105, 115, 116, 32, 105, 110, 112, 117, 116, 95, 108, 105, 110, 101, 95, 110, 117, 109, 98, 101, 114]⟩ : ByteArray)).bind fun t114 => (some t114)
set_option maxHeartbeats 8000000 in
set_option maxRecDepth 100000 in
theorem code_Worlds.calls  (r : List ByteArray) (w : World) (hT : Tabs w) (h : code_Worlds.f  = some r) :
  Calls Tryz.prog 16 #[] w fun e w' => ∃ v0_ : Value, e = .returned (v0_) ∧ Kd.R Kd.string 9 w' w.heap.size (fun _ => True) v0_ r ∧ Below w.heap.size w w' := by
 have HB := Ae.mk (Below.refl w.heap.size w)
 have H : ((strings_Fields.f (⟨#[105, 110, 112, 117, 116, 32, 100, 101, 98, 117, 103, 32, 115, 116, 100, 101, 114, 114, 32, 104, 97, 108, 116, 32, 104, 97, 108, 116, 95, 101, 114, 114, 111, 114, 32, 101, 110, 118, 32, 110, 111, 119, 32, 105, 110, 112, 117, 116, 95, 102, 105, 108, 101, 110, 97, 109, 101, 32, 103, 101, 116, 95, 115, 101, 97, 114, 99, 104, 95, 108, 105, 115, 116, 32, 105, 110, 112, 117, 116, 95, 108, 105, 110, 101, 95, 110, 117, 109, 98, 101, 114]⟩ : ByteArray)).bind fun t114 => (some t114)) = some r := h
 clear h
 replace H := Option.bind_eq_some_iff.mp H
 obtain ⟨t114, A10, H⟩ := H
 replace H : (some t114) = some r := H
 have A1 := Ae.mk A10
 clear A10
 obtain rfl := Option.some.inj H
 go_enter Tryz.func16, Tryz.ntmps16
 go_wp2_with (first | ((with_reducible refine gate_callee (f := 31) rfl ?_); refine goesL_ (some 1) rfl rfl Tryz.func31 (by kernel_rfl) rfl #[.string (⟨#[105, 110, 112, 117, 116, 32, 100, 101, 98, 117, 103, 32, 115, 116, 100, 101, 114, 114, 32, 104, 97, 108, 116, 32, 104, 97, 108, 116, 95, 101, 114, 114, 111, 114, 32, 101, 110, 118, 32, 110, 111, 119, 32, 105, 110, 112, 117, 116, 95, 102, 105, 108, 101, 110, 97, 109, 101, 32, 103, 101, 116, 95, 115, 101, 97, 114, 99, 104, 95, 108, 105, 115, 116, 32, 105, 110, 112, 117, 116, 95, 108, 105, 110, 101, 95, 110, 117, 109, 98, 101, 114]⟩ : ByteArray)] rfl am ?_; (with_reducible refine (strings_Fields.calls (⟨#[105, 110, 112, 117, 116, 32, 100, 101, 98, 117, 103, 32, 115, 116, 100, 101, 114, 114, 32, 104, 97, 108, 116, 32, 104, 97, 108, 116, 95, 101, 114, 114, 111, 114, 32, 101, 110, 118, 32, 110, 111, 119, 32, 105, 110, 112, 117, 116, 95, 102, 105, 108, 101, 110, 97, 109, 101, 32, 103, 101, 116, 95, 115, 101, 97, 114, 99, 104, 95, 108, 105, 115, 116, 32, 105, 110, 112, 117, 116, 95, 108, 105, 110, 101, 95, 110, 117, 109, 98, 101, 114]⟩ : ByteArray) t114 _ ?side1 A1.out).mono ?_); (case side1 => first | exact hT | exact tabs_below hT bel); rintro e w2 ⟨v115, rfl, ho0, hb⟩; refine ⟨_, rfl, ?_⟩; have n0_ := Ae.mk (Kd.R_lower ho0 (below_size bel)); have n1_ := bes hb; clear HB; have HO116 := n0_; have HB := n1_; clear n0_ n1_; (try clear hb); (try clear hb2); (try clear hk); (try clear hi); (try clear ho0)))
 go_ret
 exact ⟨_, by first | rfl | (simp [errW_none, errW_some] <;> rfl) | (simp [*, errW_none, errW_some] <;> rfl), rt HO116, bel⟩
mutual
def code_names.j0 : Nat → Int → Bool → Option (Bool × Bool × Bool × Bool)
 | 0, _, _ => none
 | k + 1, x3, x4 => if x4 = true then (some (true, false, false, false)) else (if x3 = 8 then (code_names.j1 k x3 (x3 == 8)) else (if x3 = 28 then (code_names.j1 k x3 (x3 == 28)) else (code_names.j1 k x3 (x3 == 20))))
def code_names.j1 : Nat → Int → Bool → Option (Bool × Bool × Bool × Bool)
 | 0, _, _ => none
 | k + 1, x3, x20 => if x20 = true then (some (true, true, false, false)) else (if x3 = 19 then (some (true, true, false, true)) else (if x3 = 22 then (some (true, false, true, false)) else (if x3 = 29 then (some (false, false, true, false)) else (if x3 = 31 then (some (false, false, true, false)) else (if x3 = 35 then (some (false, false, true, false)) else (some (false, false, false, false)))))))
end
def code_names.f (k : Nat) (a0 : Int) : Option (Bool × Bool × Bool × Bool) := if a0 = 1 then (code_names.j0 k a0 (a0 == 1)) else (if a0 = 2 then (code_names.j0 k a0 (a0 == 2)) else (if a0 = 9 then (code_names.j0 k a0 (a0 == 9)) else (if a0 = 10 then (code_names.j0 k a0 (a0 == 10)) else (if a0 = 11 then (code_names.j0 k a0 (a0 == 11)) else (if a0 = 27 then (code_names.j0 k a0 (a0 == 27)) else (if a0 = 36 then (code_names.j0 k a0 (a0 == 36)) else (if a0 = 37 then (code_names.j0 k a0 (a0 == 37)) else (if a0 = 15 then (code_names.j0 k a0 (a0 == 15)) else (if a0 = 17 then (code_names.j0 k a0 (a0 == 17)) else (if a0 = 18 then (code_names.j0 k a0 (a0 == 18)) else (if a0 = 25 then (code_names.j0 k a0 (a0 == 25)) else (if a0 = 32 then (code_names.j0 k a0 (a0 == 32)) else (code_names.j0 k a0 (a0 == 34))))))))))))))
set_option maxHeartbeats 8000000 in
set_option maxRecDepth 100000 in
theorem code_names.calls (k : Nat) (a0 : Int) (r1 : Bool) (r2 : Bool) (r3 : Bool) (r4 : Bool) (w : World) (h : code_names.f k a0 = some (r1, r2, r3, r4)) :
  Calls Tryz.prog 42 #[.int .i64 a0] w fun e w' => e = .returned (.agg #[.bool r1, .bool r2, .bool r3, .bool r4]) ∧ Below w.heap.size w w' := by
 have hu84 := Tryz.underlying84
 have HB := Ae.mk (Below.refl w.heap.size w)
 have H : (if a0 = 1 then (code_names.j0 k a0 (a0 == 1)) else (if a0 = 2 then (code_names.j0 k a0 (a0 == 2)) else (if a0 = 9 then (code_names.j0 k a0 (a0 == 9)) else (if a0 = 10 then (code_names.j0 k a0 (a0 == 10)) else (if a0 = 11 then (code_names.j0 k a0 (a0 == 11)) else (if a0 = 27 then (code_names.j0 k a0 (a0 == 27)) else (if a0 = 36 then (code_names.j0 k a0 (a0 == 36)) else (if a0 = 37 then (code_names.j0 k a0 (a0 == 37)) else (if a0 = 15 then (code_names.j0 k a0 (a0 == 15)) else (if a0 = 17 then (code_names.j0 k a0 (a0 == 17)) else (if a0 = 18 then (code_names.j0 k a0 (a0 == 18)) else (if a0 = 25 then (code_names.j0 k a0 (a0 == 25)) else (if a0 = 32 then (code_names.j0 k a0 (a0 == 32)) else (code_names.j0 k a0 (a0 == 34))))))))))))))) = some (r1, r2, r3, r4) := h
 clear h
 have HC2 := Ae.mk H
 clear H
 go_enter Tryz.func42, Tryz.ntmps42
 go_upto_if 4 with (first | ((with_reducible refine gD (N := 2) rfl ?_); refine bE ?hg (N := 2) ?hd (cs := #[.bool false, .bool false, .bool false, .bool false]) (t := 84) ?hr ?_; (case hd => rfl); (case hg => rfl); (case hr => first | (go_simp; done) | (go_simp; rfl)); intro gb117 hg w3 hbox hb; have n0_ := bes hb; have n1_ := Ae.mk (hbox); have n2_ := Ae.mk ((bez hg : w.heap.size ≤ gb117)); have n3_ := Ae.mk ((bez hg : w.heap.size ≤ gb117)); clear HB; have HB := n0_; have BK117 := n1_; have GW117 := n2_; have GE117 := n3_; clear n0_ n1_ n2_ n3_; clear hb hbox hg))
 (try simp only [Act.put, List.setIfInBounds_toArray, List.set_cons_zero, List.set_cons_succ])
 go_cut [4] (fun v4 wc => ∃ (kq : Nat) (x4_1 : Bool), v4 = .bool x4_1 ∧ Ae (code_names.j0 kq a0 x4_1 = some (r1, r2, r3, r4)) ∧ Ae (kq ≤ k) ∧ Ae (wc.heap[gb117]? = some (.cells #[.bool false, .bool false, .bool false, .bool false] 84 (0, 0))) ∧ Ae (Below w.heap.size w wc))
 case first =>
  have H := HC2.out
  clear HC2
  by_cases c4 : a0 = 1
  ·rw [if_pos c4] at H
   have c4b0 : (a0 == 1) = true := beq_iff_eq.mpr c4
   have c4b1 : (a0 != 1) = false := bne_eq_false_iff_eq.mpr c4
   clear c4
   (first | rw [c4b0] | (simp only [i64_w, i32_w]; rw [c4b0]) | skip)
   have H' := Ae.mk H
   clear H
   go_wp2
   go_meet
   case rel => exact ⟨_, ((a0 == 1)), pv, H', ⟨by first | omega | exact Nat.le_refl _⟩, ⟨bt⟩, ⟨bel⟩⟩
  ·rw [if_neg c4] at H
   have c4b0 : (a0 == 1) = false := beq_eq_false_iff_ne.mpr c4
   have c4b1 : (a0 != 1) = true := bne_iff_ne.mpr c4
   (first | rw [c4b0] | (simp only [i64_w, i32_w]; rw [c4b0]) | skip)
   by_cases c5 : a0 = 2
   ·rw [if_pos c5] at H
    have c5b0 : (a0 == 2) = true := beq_iff_eq.mpr c5
    have c5b1 : (a0 != 2) = false := bne_eq_false_iff_eq.mpr c5
    clear c5
    have H' := Ae.mk H
    clear H
    go_wp2
    go_meet
    case rel => exact ⟨_, ((a0 == 2)), pv, H', ⟨by first | omega | exact Nat.le_refl _⟩, ⟨bt⟩, ⟨bel⟩⟩
   ·rw [if_neg c5] at H
    have c5b0 : (a0 == 2) = false := beq_eq_false_iff_ne.mpr c5
    have c5b1 : (a0 != 2) = true := bne_iff_ne.mpr c5
    by_cases c6 : a0 = 9
    ·rw [if_pos c6] at H
     have c6b0 : (a0 == 9) = true := beq_iff_eq.mpr c6
     have c6b1 : (a0 != 9) = false := bne_eq_false_iff_eq.mpr c6
     clear c6
     have H' := Ae.mk H
     clear H
     go_wp2
     go_meet
     case rel => exact ⟨_, ((a0 == 9)), pv, H', ⟨by first | omega | exact Nat.le_refl _⟩, ⟨bt⟩, ⟨bel⟩⟩
    ·rw [if_neg c6] at H
     have c6b0 : (a0 == 9) = false := beq_eq_false_iff_ne.mpr c6
     have c6b1 : (a0 != 9) = true := bne_iff_ne.mpr c6
     by_cases c7 : a0 = 10
     ·rw [if_pos c7] at H
      have c7b0 : (a0 == 10) = true := beq_iff_eq.mpr c7
      have c7b1 : (a0 != 10) = false := bne_eq_false_iff_eq.mpr c7
      clear c7
      have H' := Ae.mk H
      clear H
      go_wp2
      go_meet
      case rel => exact ⟨_, ((a0 == 10)), pv, H', ⟨by first | omega | exact Nat.le_refl _⟩, ⟨bt⟩, ⟨bel⟩⟩
     ·rw [if_neg c7] at H
      have c7b0 : (a0 == 10) = false := beq_eq_false_iff_ne.mpr c7
      have c7b1 : (a0 != 10) = true := bne_iff_ne.mpr c7
      by_cases c8 : a0 = 11
      ·rw [if_pos c8] at H
       have c8b0 : (a0 == 11) = true := beq_iff_eq.mpr c8
       have c8b1 : (a0 != 11) = false := bne_eq_false_iff_eq.mpr c8
       clear c8
       have H' := Ae.mk H
       clear H
       go_wp2
       go_meet
       case rel => exact ⟨_, ((a0 == 11)), pv, H', ⟨by first | omega | exact Nat.le_refl _⟩, ⟨bt⟩, ⟨bel⟩⟩
      ·rw [if_neg c8] at H
       have c8b0 : (a0 == 11) = false := beq_eq_false_iff_ne.mpr c8
       have c8b1 : (a0 != 11) = true := bne_iff_ne.mpr c8
       by_cases c9 : a0 = 27
       ·rw [if_pos c9] at H
        have c9b0 : (a0 == 27) = true := beq_iff_eq.mpr c9
        have c9b1 : (a0 != 27) = false := bne_eq_false_iff_eq.mpr c9
        clear c9
        have H' := Ae.mk H
        clear H
        go_wp2
        go_meet
        case rel => exact ⟨_, ((a0 == 27)), pv, H', ⟨by first | omega | exact Nat.le_refl _⟩, ⟨bt⟩, ⟨bel⟩⟩
       ·rw [if_neg c9] at H
        have c9b0 : (a0 == 27) = false := beq_eq_false_iff_ne.mpr c9
        have c9b1 : (a0 != 27) = true := bne_iff_ne.mpr c9
        by_cases c10 : a0 = 36
        ·rw [if_pos c10] at H
         have c10b0 : (a0 == 36) = true := beq_iff_eq.mpr c10
         have c10b1 : (a0 != 36) = false := bne_eq_false_iff_eq.mpr c10
         clear c10
         have H' := Ae.mk H
         clear H
         go_wp2
         go_meet
         case rel => exact ⟨_, ((a0 == 36)), pv, H', ⟨by first | omega | exact Nat.le_refl _⟩, ⟨bt⟩, ⟨bel⟩⟩
        ·rw [if_neg c10] at H
         have c10b0 : (a0 == 36) = false := beq_eq_false_iff_ne.mpr c10
         have c10b1 : (a0 != 36) = true := bne_iff_ne.mpr c10
         by_cases c11 : a0 = 37
         ·rw [if_pos c11] at H
          have c11b0 : (a0 == 37) = true := beq_iff_eq.mpr c11
          have c11b1 : (a0 != 37) = false := bne_eq_false_iff_eq.mpr c11
          clear c11
          have H' := Ae.mk H
          clear H
          go_wp2
          go_meet
          case rel => exact ⟨_, ((a0 == 37)), pv, H', ⟨by first | omega | exact Nat.le_refl _⟩, ⟨bt⟩, ⟨bel⟩⟩
         ·rw [if_neg c11] at H
          have c11b0 : (a0 == 37) = false := beq_eq_false_iff_ne.mpr c11
          have c11b1 : (a0 != 37) = true := bne_iff_ne.mpr c11
          by_cases c12 : a0 = 15
          ·rw [if_pos c12] at H
           have c12b0 : (a0 == 15) = true := beq_iff_eq.mpr c12
           have c12b1 : (a0 != 15) = false := bne_eq_false_iff_eq.mpr c12
           clear c12
           have H' := Ae.mk H
           clear H
           go_wp2
           go_meet
           case rel => exact ⟨_, ((a0 == 15)), pv, H', ⟨by first | omega | exact Nat.le_refl _⟩, ⟨bt⟩, ⟨bel⟩⟩
          ·rw [if_neg c12] at H
           have c12b0 : (a0 == 15) = false := beq_eq_false_iff_ne.mpr c12
           have c12b1 : (a0 != 15) = true := bne_iff_ne.mpr c12
           by_cases c13 : a0 = 17
           ·rw [if_pos c13] at H
            have c13b0 : (a0 == 17) = true := beq_iff_eq.mpr c13
            have c13b1 : (a0 != 17) = false := bne_eq_false_iff_eq.mpr c13
            clear c13
            have H' := Ae.mk H
            clear H
            go_wp2
            go_meet
            case rel => exact ⟨_, ((a0 == 17)), pv, H', ⟨by first | omega | exact Nat.le_refl _⟩, ⟨bt⟩, ⟨bel⟩⟩
           ·rw [if_neg c13] at H
            have c13b0 : (a0 == 17) = false := beq_eq_false_iff_ne.mpr c13
            have c13b1 : (a0 != 17) = true := bne_iff_ne.mpr c13
            by_cases c14 : a0 = 18
            ·rw [if_pos c14] at H
             have c14b0 : (a0 == 18) = true := beq_iff_eq.mpr c14
             have c14b1 : (a0 != 18) = false := bne_eq_false_iff_eq.mpr c14
             clear c14
             have H' := Ae.mk H
             clear H
             go_wp2
             go_meet
             case rel => exact ⟨_, ((a0 == 18)), pv, H', ⟨by first | omega | exact Nat.le_refl _⟩, ⟨bt⟩, ⟨bel⟩⟩
            ·rw [if_neg c14] at H
             have c14b0 : (a0 == 18) = false := beq_eq_false_iff_ne.mpr c14
             have c14b1 : (a0 != 18) = true := bne_iff_ne.mpr c14
             by_cases c15 : a0 = 25
             ·rw [if_pos c15] at H
              have c15b0 : (a0 == 25) = true := beq_iff_eq.mpr c15
              have c15b1 : (a0 != 25) = false := bne_eq_false_iff_eq.mpr c15
              clear c15
              have H' := Ae.mk H
              clear H
              go_wp2
              go_meet
              case rel => exact ⟨_, ((a0 == 25)), pv, H', ⟨by first | omega | exact Nat.le_refl _⟩, ⟨bt⟩, ⟨bel⟩⟩
             ·rw [if_neg c15] at H
              have c15b0 : (a0 == 25) = false := beq_eq_false_iff_ne.mpr c15
              have c15b1 : (a0 != 25) = true := bne_iff_ne.mpr c15
              by_cases c16 : a0 = 32
              ·rw [if_pos c16] at H
               have c16b0 : (a0 == 32) = true := beq_iff_eq.mpr c16
               have c16b1 : (a0 != 32) = false := bne_eq_false_iff_eq.mpr c16
               clear c16
               have H' := Ae.mk H
               clear H
               go_wp2
               go_meet
               case rel => exact ⟨_, ((a0 == 32)), pv, H', ⟨by first | omega | exact Nat.le_refl _⟩, ⟨bt⟩, ⟨bel⟩⟩
              ·rw [if_neg c16] at H
               have c16b0 : (a0 == 32) = false := beq_eq_false_iff_ne.mpr c16
               have c16b1 : (a0 != 32) = true := bne_iff_ne.mpr c16
               have H' := Ae.mk H
               clear H
               go_wp2
               go_meet
               case rel => exact ⟨_, ((a0 == 34)), pv, H', ⟨by first | omega | exact Nat.le_refl _⟩, ⟨bt⟩, ⟨bel⟩⟩
 case rest =>
  clear HC2
  obtain ⟨kq, x4_1, rfl, HA, HJ1, BK117, HB⟩ := hcut
  cases kq with
  | zero => exact absurd HA.out (by simp [code_names.j0])
  | succ kj1 =>
   have H := HA.out
   clear HA
   simp only [code_names.j0] at H
   by_cases c17 : x4_1 = true
   ·subst c17
    have H1 : (some (true, false, false, false)) = some (r1, r2, r3, r4) := by rw [if_pos rfl] at H; exact H
    clear H
    have H := H1
    clear H1
    simp only [Option.some.injEq, Prod.mk.injEq] at H
    obtain ⟨rfl, rfl, rfl, rfl⟩ := H
    have hcz18_0 : wc.cell? ⟨gb117, 0, none⟩ = some (.bool false) := (bC BK117.out 0).trans rfl
    have hcz18_1 : wc.cell? ⟨gb117, 1, none⟩ = some (.bool false) := (bC BK117.out 1).trans rfl
    have hcz18_2 : wc.cell? ⟨gb117, 2, none⟩ = some (.bool false) := (bC BK117.out 2).trans rfl
    have hcz18_3 : wc.cell? ⟨gb117, 3, none⟩ = some (.bool false) := (bC BK117.out 3).trans rfl
    have hfz18_0 := bF BK117.out 0
    have hfz18_1 := bF BK117.out 1
    have hfz18_2 := bF BK117.out 2
    have hfz18_3 := bF BK117.out 3
    go_wp2
    refine bodyPost_ret (results_cell_row rfl _ _ gb117 84 #[.bool true, .bool false, .bool false, .bool false] (0, 0) _ rfl bt Tryz.underlying84 rfl (by kernel_rfl)) rfl ?_
    exact fn
   ·replace c17 := Bool.eq_false_iff.mpr c17
    subst c17
    have H1 : (if a0 = 8 then (code_names.j1 kj1 a0 (a0 == 8)) else (if a0 = 28 then (code_names.j1 kj1 a0 (a0 == 28)) else (code_names.j1 kj1 a0 (a0 == 20)))) = some (r1, r2, r3, r4) := by rw [if_neg (show ¬ (false = true) by decide)] at H; exact H
    clear H
    have H := H1
    clear H1
    have HC19 := Ae.mk H
    clear H
    go_upto_if 20 with (fail)
    go_cut [20] (fun v20 wc => ∃ (kq : Nat) (x20_18 : Bool), v20 = .bool x20_18 ∧ Ae (code_names.j1 kq a0 x20_18 = some (r1, r2, r3, r4)) ∧ Ae (kq ≤ kj1) ∧ Ae (wc.heap[gb117]? = some (.cells #[.bool false, .bool false, .bool false, .bool false] 84 (0, 0))) ∧ Ae (Below w.heap.size w wc))
    case first =>
     have H := HC19.out
     clear HC19
     by_cases c20 : a0 = 8
     ·rw [if_pos c20] at H
      have c20b0 : (a0 == 8) = true := beq_iff_eq.mpr c20
      have c20b1 : (a0 != 8) = false := bne_eq_false_iff_eq.mpr c20
      clear c20
      (first | rw [c20b0] | (simp only [i64_w, i32_w]; rw [c20b0]) | skip)
      have H' := Ae.mk H
      clear H
      go_wp2
      go_meet
      case rel => exact ⟨_, ((a0 == 8)), pv, H', ⟨by have := HJ1.out; first | omega | exact Nat.le_refl _⟩, ⟨bt⟩, ⟨bel⟩⟩
     ·rw [if_neg c20] at H
      have c20b0 : (a0 == 8) = false := beq_eq_false_iff_ne.mpr c20
      have c20b1 : (a0 != 8) = true := bne_iff_ne.mpr c20
      (first | rw [c20b0] | (simp only [i64_w, i32_w]; rw [c20b0]) | skip)
      by_cases c21 : a0 = 28
      ·rw [if_pos c21] at H
       have c21b0 : (a0 == 28) = true := beq_iff_eq.mpr c21
       have c21b1 : (a0 != 28) = false := bne_eq_false_iff_eq.mpr c21
       clear c21
       have H' := Ae.mk H
       clear H
       go_wp2
       go_meet
       case rel => exact ⟨_, ((a0 == 28)), pv, H', ⟨by have := HJ1.out; first | omega | exact Nat.le_refl _⟩, ⟨bt⟩, ⟨bel⟩⟩
      ·rw [if_neg c21] at H
       have c21b0 : (a0 == 28) = false := beq_eq_false_iff_ne.mpr c21
       have c21b1 : (a0 != 28) = true := bne_iff_ne.mpr c21
       have H' := Ae.mk H
       clear H
       go_wp2
       go_meet
       case rel => exact ⟨_, ((a0 == 20)), pv, H', ⟨by have := HJ1.out; first | omega | exact Nat.le_refl _⟩, ⟨bt⟩, ⟨bel⟩⟩
    case rest =>
     clear HC19
     obtain ⟨kq, x20_18, rfl, HA, HJ18, BK117, HB⟩ := hcut
     cases kq with
     | zero => exact absurd HA.out (by simp [code_names.j1])
     | succ kj18 =>
      have H := HA.out
      clear HA
      simp only [code_names.j1] at H
      by_cases c22 : x20_18 = true
      ·subst c22
       have H1 : (some (true, true, false, false)) = some (r1, r2, r3, r4) := by rw [if_pos rfl] at H; exact H
       clear H
       have H := H1
       clear H1
       simp only [Option.some.injEq, Prod.mk.injEq] at H
       obtain ⟨rfl, rfl, rfl, rfl⟩ := H
       have hcz23_0 : wc.cell? ⟨gb117, 0, none⟩ = some (.bool false) := (bC BK117.out 0).trans rfl
       have hcz23_1 : wc.cell? ⟨gb117, 1, none⟩ = some (.bool false) := (bC BK117.out 1).trans rfl
       have hcz23_2 : wc.cell? ⟨gb117, 2, none⟩ = some (.bool false) := (bC BK117.out 2).trans rfl
       have hcz23_3 : wc.cell? ⟨gb117, 3, none⟩ = some (.bool false) := (bC BK117.out 3).trans rfl
       have hfz23_0 := bF BK117.out 0
       have hfz23_1 := bF BK117.out 1
       have hfz23_2 := bF BK117.out 2
       have hfz23_3 := bF BK117.out 3
       go_wp2
       refine bodyPost_ret (results_cell_row rfl _ _ gb117 84 #[.bool true, .bool true, .bool false, .bool false] (0, 0) _ rfl bt Tryz.underlying84 rfl (by kernel_rfl)) rfl ?_
       exact fn
      ·replace c22 := Bool.eq_false_iff.mpr c22
       subst c22
       have H1 : (if a0 = 19 then (some (true, true, false, true)) else (if a0 = 22 then (some (true, false, true, false)) else (if a0 = 29 then (some (false, false, true, false)) else (if a0 = 31 then (some (false, false, true, false)) else (if a0 = 35 then (some (false, false, true, false)) else (some (false, false, false, false))))))) = some (r1, r2, r3, r4) := by rw [if_neg (show ¬ (false = true) by decide)] at H; exact H
       clear H
       have H := H1
       clear H1
       by_cases c24 : a0 = 19
       ·rw [if_pos c24] at H
        have c24b0 : (a0 == 19) = true := beq_iff_eq.mpr c24
        have c24b1 : (a0 != 19) = false := bne_eq_false_iff_eq.mpr c24
        clear c24
        simp only [Option.some.injEq, Prod.mk.injEq] at H
        obtain ⟨rfl, rfl, rfl, rfl⟩ := H
        have hcz25_0 : wc.cell? ⟨gb117, 0, none⟩ = some (.bool false) := (bC BK117.out 0).trans rfl
        have hcz25_1 : wc.cell? ⟨gb117, 1, none⟩ = some (.bool false) := (bC BK117.out 1).trans rfl
        have hcz25_2 : wc.cell? ⟨gb117, 2, none⟩ = some (.bool false) := (bC BK117.out 2).trans rfl
        have hcz25_3 : wc.cell? ⟨gb117, 3, none⟩ = some (.bool false) := (bC BK117.out 3).trans rfl
        have hfz25_0 := bF BK117.out 0
        have hfz25_1 := bF BK117.out 1
        have hfz25_2 := bF BK117.out 2
        have hfz25_3 := bF BK117.out 3
        go_wp2
        refine bodyPost_ret (results_cell_row rfl _ _ gb117 84 #[.bool true, .bool true, .bool false, .bool true] (0, 0) _ rfl bt Tryz.underlying84 rfl (by kernel_rfl)) rfl ?_
        exact fn
       ·rw [if_neg c24] at H
        have c24b0 : (a0 == 19) = false := beq_eq_false_iff_ne.mpr c24
        have c24b1 : (a0 != 19) = true := bne_iff_ne.mpr c24
        by_cases c26 : a0 = 22
        ·rw [if_pos c26] at H
         have c26b0 : (a0 == 22) = true := beq_iff_eq.mpr c26
         have c26b1 : (a0 != 22) = false := bne_eq_false_iff_eq.mpr c26
         clear c26
         simp only [Option.some.injEq, Prod.mk.injEq] at H
         obtain ⟨rfl, rfl, rfl, rfl⟩ := H
         have hcz27_0 : wc.cell? ⟨gb117, 0, none⟩ = some (.bool false) := (bC BK117.out 0).trans rfl
         have hcz27_1 : wc.cell? ⟨gb117, 1, none⟩ = some (.bool false) := (bC BK117.out 1).trans rfl
         have hcz27_2 : wc.cell? ⟨gb117, 2, none⟩ = some (.bool false) := (bC BK117.out 2).trans rfl
         have hcz27_3 : wc.cell? ⟨gb117, 3, none⟩ = some (.bool false) := (bC BK117.out 3).trans rfl
         have hfz27_0 := bF BK117.out 0
         have hfz27_1 := bF BK117.out 1
         have hfz27_2 := bF BK117.out 2
         have hfz27_3 := bF BK117.out 3
         go_wp2
         refine bodyPost_ret (results_cell_row rfl _ _ gb117 84 #[.bool true, .bool false, .bool true, .bool false] (0, 0) _ rfl bt Tryz.underlying84 rfl (by kernel_rfl)) rfl ?_
         exact fn
        ·rw [if_neg c26] at H
         have c26b0 : (a0 == 22) = false := beq_eq_false_iff_ne.mpr c26
         have c26b1 : (a0 != 22) = true := bne_iff_ne.mpr c26
         by_cases c28 : a0 = 29
         ·rw [if_pos c28] at H
          have c28b0 : (a0 == 29) = true := beq_iff_eq.mpr c28
          have c28b1 : (a0 != 29) = false := bne_eq_false_iff_eq.mpr c28
          clear c28
          simp only [Option.some.injEq, Prod.mk.injEq] at H
          obtain ⟨rfl, rfl, rfl, rfl⟩ := H
          have hcz29_0 : wc.cell? ⟨gb117, 0, none⟩ = some (.bool false) := (bC BK117.out 0).trans rfl
          have hcz29_1 : wc.cell? ⟨gb117, 1, none⟩ = some (.bool false) := (bC BK117.out 1).trans rfl
          have hcz29_2 : wc.cell? ⟨gb117, 2, none⟩ = some (.bool false) := (bC BK117.out 2).trans rfl
          have hcz29_3 : wc.cell? ⟨gb117, 3, none⟩ = some (.bool false) := (bC BK117.out 3).trans rfl
          have hfz29_0 := bF BK117.out 0
          have hfz29_1 := bF BK117.out 1
          have hfz29_2 := bF BK117.out 2
          have hfz29_3 := bF BK117.out 3
          go_wp2
          refine bodyPost_ret (results_cell_row rfl _ _ gb117 84 #[.bool false, .bool false, .bool true, .bool false] (0, 0) _ rfl bt Tryz.underlying84 rfl (by kernel_rfl)) rfl ?_
          exact fn
         ·rw [if_neg c28] at H
          have c28b0 : (a0 == 29) = false := beq_eq_false_iff_ne.mpr c28
          have c28b1 : (a0 != 29) = true := bne_iff_ne.mpr c28
          by_cases c30 : a0 = 31
          ·rw [if_pos c30] at H
           have c30b0 : (a0 == 31) = true := beq_iff_eq.mpr c30
           have c30b1 : (a0 != 31) = false := bne_eq_false_iff_eq.mpr c30
           clear c30
           simp only [Option.some.injEq, Prod.mk.injEq] at H
           obtain ⟨rfl, rfl, rfl, rfl⟩ := H
           have hcz31_0 : wc.cell? ⟨gb117, 0, none⟩ = some (.bool false) := (bC BK117.out 0).trans rfl
           have hcz31_1 : wc.cell? ⟨gb117, 1, none⟩ = some (.bool false) := (bC BK117.out 1).trans rfl
           have hcz31_2 : wc.cell? ⟨gb117, 2, none⟩ = some (.bool false) := (bC BK117.out 2).trans rfl
           have hcz31_3 : wc.cell? ⟨gb117, 3, none⟩ = some (.bool false) := (bC BK117.out 3).trans rfl
           have hfz31_0 := bF BK117.out 0
           have hfz31_1 := bF BK117.out 1
           have hfz31_2 := bF BK117.out 2
           have hfz31_3 := bF BK117.out 3
           go_wp2
           refine bodyPost_ret (results_cell_row rfl _ _ gb117 84 #[.bool false, .bool false, .bool true, .bool false] (0, 0) _ rfl bt Tryz.underlying84 rfl (by kernel_rfl)) rfl ?_
           exact fn
          ·rw [if_neg c30] at H
           have c30b0 : (a0 == 31) = false := beq_eq_false_iff_ne.mpr c30
           have c30b1 : (a0 != 31) = true := bne_iff_ne.mpr c30
           by_cases c32 : a0 = 35
           ·rw [if_pos c32] at H
            have c32b0 : (a0 == 35) = true := beq_iff_eq.mpr c32
            have c32b1 : (a0 != 35) = false := bne_eq_false_iff_eq.mpr c32
            clear c32
            simp only [Option.some.injEq, Prod.mk.injEq] at H
            obtain ⟨rfl, rfl, rfl, rfl⟩ := H
            have hcz33_0 : wc.cell? ⟨gb117, 0, none⟩ = some (.bool false) := (bC BK117.out 0).trans rfl
            have hcz33_1 : wc.cell? ⟨gb117, 1, none⟩ = some (.bool false) := (bC BK117.out 1).trans rfl
            have hcz33_2 : wc.cell? ⟨gb117, 2, none⟩ = some (.bool false) := (bC BK117.out 2).trans rfl
            have hcz33_3 : wc.cell? ⟨gb117, 3, none⟩ = some (.bool false) := (bC BK117.out 3).trans rfl
            have hfz33_0 := bF BK117.out 0
            have hfz33_1 := bF BK117.out 1
            have hfz33_2 := bF BK117.out 2
            have hfz33_3 := bF BK117.out 3
            go_wp2
            refine bodyPost_ret (results_cell_row rfl _ _ gb117 84 #[.bool false, .bool false, .bool true, .bool false] (0, 0) _ rfl bt Tryz.underlying84 rfl (by kernel_rfl)) rfl ?_
            exact fn
           ·rw [if_neg c32] at H
            have c32b0 : (a0 == 35) = false := beq_eq_false_iff_ne.mpr c32
            have c32b1 : (a0 != 35) = true := bne_iff_ne.mpr c32
            simp only [Option.some.injEq, Prod.mk.injEq] at H
            obtain ⟨rfl, rfl, rfl, rfl⟩ := H
            have hcz34_0 : wc.cell? ⟨gb117, 0, none⟩ = some (.bool false) := (bC BK117.out 0).trans rfl
            have hcz34_1 : wc.cell? ⟨gb117, 1, none⟩ = some (.bool false) := (bC BK117.out 1).trans rfl
            have hcz34_2 : wc.cell? ⟨gb117, 2, none⟩ = some (.bool false) := (bC BK117.out 2).trans rfl
            have hcz34_3 : wc.cell? ⟨gb117, 3, none⟩ = some (.bool false) := (bC BK117.out 3).trans rfl
            have hfz34_0 := bF BK117.out 0
            have hfz34_1 := bF BK117.out 1
            have hfz34_2 := bF BK117.out 2
            have hfz34_3 := bF BK117.out 3
            go_wp2
            refine bodyPost_ret (results_cell_row rfl _ _ gb117 84 #[.bool false, .bool false, .bool false, .bool false] (0, 0) _ rfl bt Tryz.underlying84 rfl (by kernel_rfl)) rfl ?_
            exact fn
def code_program_home.f (lA : List (S30)) (lB : List (S36)) (a1 : Int) : Option (Int) := if 0 ≤ a1 then (if a1 < (lA.length : Int) then (if ((R3 lA a1).f1) ≥ 0 then (some ((R3 lA a1).f1)) else (some a1)) else (none)) else (none)
set_option maxHeartbeats 8000000 in
set_option maxRecDepth 100000 in
theorem code_program_home.calls (A0_0 : Option Addr) (c0_0 : Nat) (lA : List (S30)) (A0_1 : Option Addr) (c0_1 : Nat) (lB : List (S36)) (a1 : Int) (r : Int) (w : World) (hr0_0 : Kd.C k30 w A0_0 lA.length lA) (hc0_0 : lA.length ≤ c0_0) (hr0_1 : Kd.C k36 w A0_1 lB.length lB) (hc0_1 : lB.length ≤ c0_1) (h : code_program_home.f lA lB a1 = some r) :
  Calls Tryz.prog 94 #[.agg #[.slice A0_0 lA.length c0_0, .slice A0_1 lB.length c0_1], .int .i64 a1] w fun e w' => e = .returned (.int .i64 r) ∧ Below w.heap.size w w' := by
 have hu58 := Tryz.underlying58
 have HR0_0 := Ae.mk hr0_0
 have HC0_0 := Ae.mk hc0_0
 clear hr0_0 hc0_0
 have HR0_1 := Ae.mk hr0_1
 have HC0_1 := Ae.mk hc0_1
 clear hr0_1 hc0_1
 have HB := Ae.mk (Below.refl w.heap.size w)
 have H : (if 0 ≤ a1 then (if a1 < (lA.length : Int) then (if ((R3 lA a1).f1) ≥ 0 then (some ((R3 lA a1).f1)) else (some a1)) else (none)) else (none)) = some r := h
 clear h
 by_cases c3 : 0 ≤ a1
 ·rw [if_pos c3] at H
  have c3b0 : decide (0 ≤ a1) = true := decide_eq_true c3
  clear c3
  by_cases c4 : a1 < (lA.length : Int)
  ·rw [if_pos c4] at H
   have c4b0 : decide (a1 < (lA.length : Int)) = true := decide_eq_true c4
   clear c4
   by_cases c5 : ((R3 lA a1).f1) ≥ 0
   ·rw [if_pos c5] at H
    have c5b0 : decide (0 ≤ ((R3 lA a1).f1)) = true := decide_eq_true c5
    clear c5
    obtain rfl := Option.some.inj H
    go_enter Tryz.func94, Tryz.ntmps94
    go_wp2_with (first | ((with_reducible refine gD (N := 2) rfl ?_); refine bE ?hg (N := 2) ?hd (cs := #[.slice A0_0 lA.length c0_0, .slice A0_1 lB.length c0_1]) (t := 58) ?hr ?_; (case hd => rfl); (case hg => rfl); (case hr => first | (go_simp; done) | (go_simp; rfl)); intro gb118 hg w6 hbox hb; have n0_ := bes hb; have n1_ := Ae.mk (hbox); have n2_ := Ae.mk ((bez hg : w.heap.size ≤ gb118)); have n3_ := Ae.mk ((bez hg : w.heap.size ≤ gb118)); clear HB; have HB := n0_; have BK118 := n1_; have GW118 := n2_; have GE118 := n3_; clear n0_ n1_ n2_ n3_; clear hb hbox hg; have hcz7_0 : w6.cell? ⟨gb118, 0, none⟩ = some (.slice A0_0 lA.length c0_0) := (bC BK118.out 0).trans rfl; have hcz7_1 : w6.cell? ⟨gb118, 1, none⟩ = some (.slice A0_1 lB.length c0_1) := (bC BK118.out 1).trans rfl; have hfz7_0 := bF BK118.out 0; have hfz7_1 := bF BK118.out 1; have p119 : 0 ≤ (a1 : Int) := of_decide_eq_true ass; have q119 : a1 < (lA.length : Int) := of_decide_eq_true ass; obtain ⟨ad119, A119_5, c119_5, e119, hx119_0, hx119_1, hx119_2, hx119_3, hx119_4, hx119_5, hl119_5, hi119_5⟩ := at_T30 HR0_0.out a1 p119 q119; cases e119; replace hx119_0 := cq HB hx119_0; replace hx119_1 := cq HB hx119_1; replace hx119_2 := cq HB hx119_2; replace hx119_3 := cq HB hx119_3; replace hx119_4 := cq HB hx119_4; replace hx119_5 := cq HB hx119_5; have HR119_5 := Ae.mk hi119_5; have HC119_5 := Ae.mk hl119_5; clear hi119_5 hl119_5; replace p119 := eq_true p119; replace q119 := eq_true q119))
    go_ret
    exact fn
   ·rw [if_neg c5] at H
    have c5b0 : decide (0 ≤ ((R3 lA a1).f1)) = false := decide_eq_false c5
    clear c5
    obtain rfl := Option.some.inj H
    go_enter Tryz.func94, Tryz.ntmps94
    go_wp2_with (first | ((with_reducible refine gD (N := 2) rfl ?_); refine bE ?hg (N := 2) ?hd (cs := #[.slice A0_0 lA.length c0_0, .slice A0_1 lB.length c0_1]) (t := 58) ?hr ?_; (case hd => rfl); (case hg => rfl); (case hr => first | (go_simp; done) | (go_simp; rfl)); intro gb118 hg w8 hbox hb; have n0_ := bes hb; have n1_ := Ae.mk (hbox); have n2_ := Ae.mk ((bez hg : w.heap.size ≤ gb118)); have n3_ := Ae.mk ((bez hg : w.heap.size ≤ gb118)); clear HB; have HB := n0_; have BK118 := n1_; have GW118 := n2_; have GE118 := n3_; clear n0_ n1_ n2_ n3_; clear hb hbox hg; have hcz9_0 : w8.cell? ⟨gb118, 0, none⟩ = some (.slice A0_0 lA.length c0_0) := (bC BK118.out 0).trans rfl; have hcz9_1 : w8.cell? ⟨gb118, 1, none⟩ = some (.slice A0_1 lB.length c0_1) := (bC BK118.out 1).trans rfl; have hfz9_0 := bF BK118.out 0; have hfz9_1 := bF BK118.out 1; have p119 : 0 ≤ (a1 : Int) := of_decide_eq_true ass; have q119 : a1 < (lA.length : Int) := of_decide_eq_true ass; obtain ⟨ad119, A119_5, c119_5, e119, hx119_0, hx119_1, hx119_2, hx119_3, hx119_4, hx119_5, hl119_5, hi119_5⟩ := at_T30 HR0_0.out a1 p119 q119; cases e119; replace hx119_0 := cq HB hx119_0; replace hx119_1 := cq HB hx119_1; replace hx119_2 := cq HB hx119_2; replace hx119_3 := cq HB hx119_3; replace hx119_4 := cq HB hx119_4; replace hx119_5 := cq HB hx119_5; have HR119_5 := Ae.mk hi119_5; have HC119_5 := Ae.mk hl119_5; clear hi119_5 hl119_5; replace p119 := eq_true p119; replace q119 := eq_true q119))
    go_ret
    exact fn
  ·rw [if_neg c4] at H
   exact absurd H (by simp)
 ·rw [if_neg c3] at H
  exact absurd H (by simp)
def oU.l0 : Nat → Int → Int → List (S30) → List (S36) → Option (Int)
 | 0, _, _, _, _ => none
 | k + 1, x1, x2, x121000, x121001 => if x2 > 0 then (if x1 ≥ 0 then (if 0 ≤ x1 then (if x1 < (x121000.length : Int) then (oU.l0 k ((R3 x121000 x1).f2) (wrap64 (x2 - 1)) x121000 x121001) else (none)) else (none)) else (if x2 < 0 then (some (-1)) else (some x1))) else (if x2 < 0 then (some (-1)) else (some x1))
def oU.f (k : Nat) (lA : List (S30)) (lB : List (S36)) (a1 : Int) (a2 : Int) : Option (Int) := (code_program_home.f lA lB a1).bind fun t121 => (oU.l0 k t121 a2 lA lB)
set_option maxHeartbeats 8000000 in
set_option maxRecDepth 100000 in
theorem oU.calls (k : Nat) (A0_0 : Option Addr) (c0_0 : Nat) (lA : List (S30)) (A0_1 : Option Addr) (c0_1 : Nat) (lB : List (S36)) (a1 : Int) (a2 : Int) (r : Int) (w : World) (hr0_0 : Kd.C k30 w A0_0 lA.length lA) (hc0_0 : lA.length ≤ c0_0) (hr0_1 : Kd.C k36 w A0_1 lB.length lB) (hc0_1 : lB.length ≤ c0_1) (h : oU.f k lA lB a1 a2 = some r) :
  Calls Tryz.prog 72 #[.agg #[.slice A0_0 lA.length c0_0, .slice A0_1 lB.length c0_1], .int .i64 a1, .int .i64 a2] w fun e w' => e = .returned (.int .i64 r) ∧ Below w.heap.size w w' := by
 have hu58 := Tryz.underlying58
 have HR0_0 := Ae.mk hr0_0
 have HC0_0 := Ae.mk hc0_0
 clear hr0_0 hc0_0
 have HR0_1 := Ae.mk hr0_1
 have HC0_1 := Ae.mk hc0_1
 clear hr0_1 hc0_1
 have HB := Ae.mk (Below.refl w.heap.size w)
 have H : ((code_program_home.f lA lB a1).bind fun t121 => (oU.l0 k t121 a2 lA lB)) = some r := h
 clear h
 replace H := Option.bind_eq_some_iff.mp H
 obtain ⟨t121, A40, H⟩ := H
 replace H : (oU.l0 k t121 a2 lA lB) = some r := H
 have A4 := Ae.mk A40
 clear A40
 have H' := Ae.mk H
 clear H
 go_enter Tryz.func72, Tryz.ntmps72
 go_wp2_with (first | ((with_reducible refine gD (N := 3) rfl ?_); refine bE ?hg (N := 3) ?hd (cs := #[.slice A0_0 lA.length c0_0, .slice A0_1 lB.length c0_1]) (t := 58) ?hr ?_; (case hd => rfl); (case hg => rfl); (case hr => first | (go_simp; done) | (go_simp; rfl)); intro gb120 hg w5 hbox hb; have n0_ := bes hb; have n1_ := Ae.mk (hbox); have n2_ := Ae.mk ((bez hg : w.heap.size ≤ gb120)); have n3_ := Ae.mk ((bez hg : w.heap.size ≤ gb120)); clear HB; have HB := n0_; have BK120 := n1_; have GW120 := n2_; have GE120 := n3_; clear n0_ n1_ n2_ n3_; clear hb hbox hg; have hcz6_0 : w5.cell? ⟨gb120, 0, none⟩ = some (.slice A0_0 lA.length c0_0) := (bC BK120.out 0).trans rfl; have hcz6_1 : w5.cell? ⟨gb120, 1, none⟩ = some (.slice A0_1 lB.length c0_1) := (bC BK120.out 1).trans rfl; have hfz6_0 := bF BK120.out 0; have hfz6_1 := bF BK120.out 1) | ((with_reducible refine gate_callee (f := 94) rfl ?_); refine goesL_ (some 9) rfl rfl Tryz.func94 (by kernel_rfl) rfl #[.agg #[.slice A0_0 lA.length c0_0, .slice A0_1 lB.length c0_1], .int .i64 a1] rfl am ?_; (with_reducible refine (code_program_home.calls _ _ lA _ _ lB a1 t121 _ ?side1 ?side2 ?side3 ?side4 A4.out).mono ?_); (case side1 => exact cb HR0_0); (case side2 => exact HC0_0.out); (case side3 => exact cb HR0_1); (case side4 => exact HC0_1.out); rintro e w7 ⟨rfl, hb⟩; refine ⟨_, rfl, ?_⟩; have n0_ := bb BK120 hb; have n1_ := bes hb; clear BK120; clear HB; have BK120 := n0_; have HB := n1_; clear n0_ n1_; (try clear hb); (try clear hb2); (try clear hk); (try clear hi)))
 go_loopg [1, 2] k (fun kq v1 v2 w' => ∃ (x1_1 : Int) (x2_1 : Int), v1 = .int .i64 x1_1 ∧ v2 = .int .i64 x2_1 ∧ Ae (oU.l0 kq x1_1 x2_1 lA lB = some r) ∧ Ae (kq ≤ k) ∧ Ae (w'.heap[gb120]? = some (.cells #[(.slice A0_0 lA.length c0_0), (.slice A0_1 lB.length c0_1)] 58 (0, 0))) ∧ Ae (Below w.heap.size w w'))
 case atStart => exact ⟨(t121), (a2), pv, pv, H', ⟨Nat.le_refl _⟩, ⟨bt⟩, ⟨bel⟩⟩
 case round =>
  clear H'
  obtain ⟨x1_1, x2_1, rfl, rfl, HA, HK1, BK120, HB⟩ := hrel
  cases gk with
  | zero => exact absurd HA.out (by simp [oU.l0])
  | succ k1 =>
   have H := HA.out
   clear HA
   simp only [oU.l0] at H
   by_cases c8 : x2_1 > 0
   ·rw [if_pos c8] at H
    have c8b0 : decide (0 < x2_1) = true := decide_eq_true c8
    clear c8
    by_cases c9 : x1_1 ≥ 0
    ·rw [if_pos c9] at H
     have c9b0 : decide (0 ≤ x1_1) = true := decide_eq_true c9
     clear c9
     by_cases c10 : 0 ≤ x1_1
     ·rw [if_pos c10] at H
      have c10b0 : decide (0 ≤ x1_1) = true := decide_eq_true c10
      clear c10
      by_cases c11 : x1_1 < (lA.length : Int)
      ·rw [if_pos c11] at H
       have c11b0 : decide (x1_1 < (lA.length : Int)) = true := decide_eq_true c11
       clear c11
       have H' := Ae.mk H
       clear H
       have hcz12_0 : wr.cell? ⟨gb120, 0, none⟩ = some (.slice A0_0 lA.length c0_0) := (bC BK120.out 0).trans rfl
       have hcz12_1 : wr.cell? ⟨gb120, 1, none⟩ = some (.slice A0_1 lB.length c0_1) := (bC BK120.out 1).trans rfl
       have hfz12_0 := bF BK120.out 0
       have hfz12_1 := bF BK120.out 1
       have p122 : 0 ≤ (x1_1 : Int) := of_decide_eq_true ass
       have q122 : x1_1 < (lA.length : Int) := of_decide_eq_true ass
       obtain ⟨ad122, A122_5, c122_5, e122, hx122_0, hx122_1, hx122_2, hx122_3, hx122_4, hx122_5, hl122_5, hi122_5⟩ := at_T30 HR0_0.out x1_1 p122 q122
       cases e122
       replace hx122_0 := cq HB hx122_0
       replace hx122_1 := cq HB hx122_1
       replace hx122_2 := cq HB hx122_2
       replace hx122_3 := cq HB hx122_3
       replace hx122_4 := cq HB hx122_4
       replace hx122_5 := cq HB hx122_5
       have HR122_5 := Ae.mk hi122_5
       have HC122_5 := Ae.mk hl122_5
       clear hi122_5 hl122_5
       replace p122 := eq_true p122
       replace q122 := eq_true q122
       go_wp2
       go_roundg k1
       case measure => have := HK1.out; omega
       case rel => exact ⟨((R3 lA x1_1).f2), (wrap64 (x2_1 - 1)), pv, pv, H', ⟨by have := HK1.out; omega⟩, ⟨bt⟩, ⟨bel⟩⟩
      ·rw [if_neg c11] at H
       exact absurd H (by simp)
     ·rw [if_neg c10] at H
      exact absurd H (by simp)
    ·rw [if_neg c9] at H
     have c9b0 : decide (0 ≤ x1_1) = false := decide_eq_false c9
     clear c9
     by_cases c13 : x2_1 < 0
     ·rw [if_pos c13] at H
      have c13b0 : decide (x2_1 < 0) = true := decide_eq_true c13
      clear c13
      obtain rfl := Option.some.inj H
      go_wp2
      go_ret
      exact fn
     ·rw [if_neg c13] at H
      have c13b0 : decide (x2_1 < 0) = false := decide_eq_false c13
      clear c13
      obtain rfl := Option.some.inj H
      go_wp2
      go_ret
      exact fn
   ·rw [if_neg c8] at H
    have c8b0 : decide (0 < x2_1) = false := decide_eq_false c8
    clear c8
    by_cases c14 : x2_1 < 0
    ·rw [if_pos c14] at H
     have c14b0 : decide (x2_1 < 0) = true := decide_eq_true c14
     clear c14
     obtain rfl := Option.some.inj H
     go_wp2
     go_ret
     exact fn
    ·rw [if_neg c14] at H
     have c14b0 : decide (x2_1 < 0) = false := decide_eq_false c14
     clear c14
     obtain rfl := Option.some.inj H
     go_wp2
     go_ret
     exact fn
def code_program_variable.f (k : Nat) (lA : List (S30)) (lB : List (S36)) (a1 : Int) (a2 : Int) (a3 : Int) : Option (Bool) := (oU.f k lA lB a1 a2).bind fun t124 => (if t124 ≥ 0 then (if 0 ≤ t124 then (if t124 < (lA.length : Int) then ((code_inside.f a3 (wrap64 (((R3 lA t124).f4) - 1))).bind fun t126 => (some t126)) else (none)) else (none)) else (some false))
set_option maxHeartbeats 8000000 in
set_option maxRecDepth 100000 in
theorem code_program_variable.calls (k : Nat) (A0_0 : Option Addr) (c0_0 : Nat) (lA : List (S30)) (A0_1 : Option Addr) (c0_1 : Nat) (lB : List (S36)) (a1 : Int) (a2 : Int) (a3 : Int) (r : Bool) (w : World) (hr0_0 : Kd.C k30 w A0_0 lA.length lA) (hc0_0 : lA.length ≤ c0_0) (hr0_1 : Kd.C k36 w A0_1 lB.length lB) (hc0_1 : lB.length ≤ c0_1) (h : code_program_variable.f k lA lB a1 a2 a3 = some r) :
  Calls Tryz.prog 43 #[.agg #[.slice A0_0 lA.length c0_0, .slice A0_1 lB.length c0_1], .int .i64 a1, .int .i64 a2, .int .i64 a3] w fun e w' => e = .returned (.bool r) ∧ Below w.heap.size w w' := by
 have hu58 := Tryz.underlying58
 have HR0_0 := Ae.mk hr0_0
 have HC0_0 := Ae.mk hc0_0
 clear hr0_0 hc0_0
 have HR0_1 := Ae.mk hr0_1
 have HC0_1 := Ae.mk hc0_1
 clear hr0_1 hc0_1
 have HB := Ae.mk (Below.refl w.heap.size w)
 have H : ((oU.f k lA lB a1 a2).bind fun t124 => (if t124 ≥ 0 then (if 0 ≤ t124 then (if t124 < (lA.length : Int) then ((code_inside.f a3 (wrap64 (((R3 lA t124).f4) - 1))).bind fun t126 => (some t126)) else (none)) else (none)) else (some false))) = some r := h
 clear h
 replace H := Option.bind_eq_some_iff.mp H
 obtain ⟨t124, A50, H⟩ := H
 replace H : (if t124 ≥ 0 then (if 0 ≤ t124 then (if t124 < (lA.length : Int) then ((code_inside.f a3 (wrap64 (((R3 lA t124).f4) - 1))).bind fun t126 => (some t126)) else (none)) else (none)) else (some false)) = some r := H
 have A5 := Ae.mk A50
 clear A50
 by_cases c6 : t124 ≥ 0
 ·rw [if_pos c6] at H
  have c6b0 : decide (0 ≤ t124) = true := decide_eq_true c6
  clear c6
  by_cases c7 : 0 ≤ t124
  ·rw [if_pos c7] at H
   have c7b0 : decide (0 ≤ t124) = true := decide_eq_true c7
   clear c7
   by_cases c8 : t124 < (lA.length : Int)
   ·rw [if_pos c8] at H
    have c8b0 : decide (t124 < (lA.length : Int)) = true := decide_eq_true c8
    clear c8
    replace H := Option.bind_eq_some_iff.mp H
    obtain ⟨t126, A90, H⟩ := H
    replace H : (some t126) = some r := H
    have A9 := Ae.mk A90
    clear A90
    obtain rfl := Option.some.inj H
    go_enter Tryz.func43, Tryz.ntmps43
    go_wp2_with (first | ((with_reducible refine gD (N := 4) rfl ?_); refine bE ?hg (N := 4) ?hd (cs := #[.slice A0_0 lA.length c0_0, .slice A0_1 lB.length c0_1]) (t := 58) ?hr ?_; (case hd => rfl); (case hg => rfl); (case hr => first | (go_simp; done) | (go_simp; rfl)); intro gb123 hg w10 hbox hb; have n0_ := bes hb; have n1_ := Ae.mk (hbox); have n2_ := Ae.mk ((bez hg : w.heap.size ≤ gb123)); have n3_ := Ae.mk ((bez hg : w.heap.size ≤ gb123)); clear HB; have HB := n0_; have BK123 := n1_; have GW123 := n2_; have GE123 := n3_; clear n0_ n1_ n2_ n3_; clear hb hbox hg; have hcz11_0 : w10.cell? ⟨gb123, 0, none⟩ = some (.slice A0_0 lA.length c0_0) := (bC BK123.out 0).trans rfl; have hcz11_1 : w10.cell? ⟨gb123, 1, none⟩ = some (.slice A0_1 lB.length c0_1) := (bC BK123.out 1).trans rfl; have hfz11_0 := bF BK123.out 0; have hfz11_1 := bF BK123.out 1) | ((with_reducible refine gate_callee (f := 72) rfl ?_); refine goesL_ (some 13) rfl rfl Tryz.func72 (by kernel_rfl) rfl #[.agg #[.slice A0_0 lA.length c0_0, .slice A0_1 lB.length c0_1], .int .i64 a1, .int .i64 a2] rfl am ?_; (with_reducible refine (oU.calls k _ _ lA _ _ lB a1 a2 t124 _ ?side1 ?side2 ?side3 ?side4 A5.out).mono ?_); (case side1 => exact cb HR0_0); (case side2 => exact HC0_0.out); (case side3 => exact cb HR0_1); (case side4 => exact HC0_1.out); rintro e w12 ⟨rfl, hb⟩; refine ⟨_, rfl, ?_⟩; have n0_ := bb BK123 hb; have n1_ := bes hb; clear BK123; clear HB; have BK123 := n0_; have HB := n1_; clear n0_ n1_; (try clear hb); (try clear hb2); (try clear hk); (try clear hi); have hcz13_0 : w12.cell? ⟨gb123, 0, none⟩ = some (.slice A0_0 lA.length c0_0) := (bC BK123.out 0).trans rfl; have hcz13_1 : w12.cell? ⟨gb123, 1, none⟩ = some (.slice A0_1 lB.length c0_1) := (bC BK123.out 1).trans rfl; have hfz13_0 := bF BK123.out 0; have hfz13_1 := bF BK123.out 1; have p125 : 0 ≤ (t124 : Int) := of_decide_eq_true ass; have q125 : t124 < (lA.length : Int) := of_decide_eq_true ass; obtain ⟨ad125, A125_5, c125_5, e125, hx125_0, hx125_1, hx125_2, hx125_3, hx125_4, hx125_5, hl125_5, hi125_5⟩ := at_T30 HR0_0.out t124 p125 q125; cases e125; replace hx125_0 := cq HB hx125_0; replace hx125_1 := cq HB hx125_1; replace hx125_2 := cq HB hx125_2; replace hx125_3 := cq HB hx125_3; replace hx125_4 := cq HB hx125_4; replace hx125_5 := cq HB hx125_5; have HR125_5 := Ae.mk hi125_5; have HC125_5 := Ae.mk hl125_5; clear hi125_5 hl125_5; replace p125 := eq_true p125; replace q125 := eq_true q125) | (go_at_call 25; (with_reducible refine (code_inside.calls a3 (wrap64 (((R3 lA t124).f4) - 1)) t126 _ A9.out).mono ?_); rintro e w' ⟨rfl, ⟨nd, rfl⟩⟩))
    go_ret
    exact fn
   ·rw [if_neg c8] at H
    exact absurd H (by simp)
  ·rw [if_neg c7] at H
   exact absurd H (by simp)
 ·rw [if_neg c6] at H
  have c6b0 : decide (0 ≤ t124) = false := decide_eq_false c6
  clear c6
  obtain rfl := Option.some.inj H
  go_enter Tryz.func43, Tryz.ntmps43
  go_wp2_with (first | ((with_reducible refine gD (N := 4) rfl ?_); refine bE ?hg (N := 4) ?hd (cs := #[.slice A0_0 lA.length c0_0, .slice A0_1 lB.length c0_1]) (t := 58) ?hr ?_; (case hd => rfl); (case hg => rfl); (case hr => first | (go_simp; done) | (go_simp; rfl)); intro gb123 hg w14 hbox hb; have n0_ := bes hb; have n1_ := Ae.mk (hbox); have n2_ := Ae.mk ((bez hg : w.heap.size ≤ gb123)); have n3_ := Ae.mk ((bez hg : w.heap.size ≤ gb123)); clear HB; have HB := n0_; have BK123 := n1_; have GW123 := n2_; have GE123 := n3_; clear n0_ n1_ n2_ n3_; clear hb hbox hg; have hcz15_0 : w14.cell? ⟨gb123, 0, none⟩ = some (.slice A0_0 lA.length c0_0) := (bC BK123.out 0).trans rfl; have hcz15_1 : w14.cell? ⟨gb123, 1, none⟩ = some (.slice A0_1 lB.length c0_1) := (bC BK123.out 1).trans rfl; have hfz15_0 := bF BK123.out 0; have hfz15_1 := bF BK123.out 1) | ((with_reducible refine gate_callee (f := 72) rfl ?_); refine goesL_ (some 13) rfl rfl Tryz.func72 (by kernel_rfl) rfl #[.agg #[.slice A0_0 lA.length c0_0, .slice A0_1 lB.length c0_1], .int .i64 a1, .int .i64 a2] rfl am ?_; (with_reducible refine (oU.calls k _ _ lA _ _ lB a1 a2 t124 _ ?side1 ?side2 ?side3 ?side4 A5.out).mono ?_); (case side1 => exact cb HR0_0); (case side2 => exact HC0_0.out); (case side3 => exact cb HR0_1); (case side4 => exact HC0_1.out); rintro e w16 ⟨rfl, hb⟩; refine ⟨_, rfl, ?_⟩; have n0_ := bb BK123 hb; have n1_ := bes hb; clear BK123; clear HB; have BK123 := n0_; have HB := n1_; clear n0_ n1_; (try clear hb); (try clear hb2); (try clear hk); (try clear hi)))
  go_ret
  exact fn
end Go.Proofs.YtlbcnacfgickcaaGreatDoor.A
