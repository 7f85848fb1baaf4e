/- Printed by this session's own copy of the printer (wip/tools/mkprint.py): functions, and that the Go code answers as they do. -/
import Derived.Test.YtlbcnacfgickcaaGreatDoorShort
import Derived.Test.YtlbcnacfgickcaaGreatDoorA0
import Derived.Test.YtlbcnacfgickcaaGreatDoorHandFields
namespace Go.Proofs.YtlbcnacfgickcaaGreatDoor.A
open Go.RowKit Go.Proofs.YtlbcnacfgickcaaGreatDoorW.PrintWords Go.Proofs.YtlbcnacfgickcaaGreatDoorW.PrintLast Go.Proofs.YtlbcnacfgickcaaGreatDoorW.PrintMore Go.Proofs.YtlbcnacfgickcaaGreatDoorW.Short
attribute [local go_sem] max2_int min2_int max_two min_two max_three min_three max_four min_four
set_option linter.unusedVariables false
set_option linter.unusedSimpArgs false
def code_among.l0 : Nat → ByteArray → List ByteArray → Int → Int → Option (Bool)
 | 0, _, _, _, _ => none
 | k + 1, x0, x7, x8, x9 => if x9 < x8 then (if 0 ≤ x9 then (if x9 < (x7.length : Int) then (if (rdOf ByteArray.empty x7 x9).toList = x0.toList then (some true) else (code_among.l0 k x0 x7 x8 (wrap64 (x9 + 1)))) else (none)) else (none)) else (some false)
def code_among.f (k : Nat) (a0 : ByteArray) (l1 : List ByteArray) : Option (Bool) := code_among.l0 k a0 l1 (l1.length : Int) 0
set_option maxHeartbeats 8000000 in
set_option maxRecDepth 100000 in
theorem code_among.calls (k : Nat) (a0 : ByteArray) (A1 : Option Addr) (c1 : Nat) (l1 : List ByteArray) (r : Bool) (w : World) (hr1 : Kd.C Kd.string w A1 l1.length l1) (hc1 : l1.length ≤ c1) (h : code_among.f k a0 l1 = some r) :
  Calls Tryz.prog 48 #[.string a0, .slice A1 l1.length c1] w fun e w' => e = .returned (.bool r) ∧ Drawn0 w w' := by
 have HR1 := Ae.mk hr1
 have HC1 := Ae.mk hc1
 clear hr1 hc1
 have H : (code_among.l0 k a0 l1 (l1.length : Int) 0) = some r := h
 clear h
 have H' := Ae.mk H
 clear H
 go_enter Tryz.func48, Tryz.ntmps48
 go_wp2
 go_loopg [9] k (fun kq v9 w' => ∃ (x9_1 : Int), v9 = .int .i64 x9_1 ∧ Ae (code_among.l0 kq a0 l1 (l1.length : Int) x9_1 = some r) ∧ Ae (kq ≤ k) ∧ Drawn0 w w')
 case atStart => exact ⟨(0), pv, H', ⟨Nat.le_refl _⟩, by repeat (first | exact Drawn0.refl _ | apply Drawn0.step)⟩
 case round =>
  clear H'
  obtain ⟨x9_1, rfl, HA, HK1, ⟨m1, rfl⟩⟩ := hrel
  cases gk with
  | zero => exact absurd HA.out (by simp [code_among.l0])
  | succ k1 =>
   have H := HA.out
   clear HA
   simp only [code_among.l0] at H
   by_cases c3 : x9_1 < (l1.length : Int)
   ·rw [if_pos c3] at H
    have c3b0 : decide (x9_1 < (l1.length : Int)) = true := decide_eq_true c3
    clear c3
    by_cases c4 : 0 ≤ x9_1
    ·rw [if_pos c4] at H
     have c4b0 : decide (0 ≤ x9_1) = true := decide_eq_true c4
     clear c4
     by_cases c5 : x9_1 < (l1.length : Int)
     ·rw [if_pos c5] at H
      have c5b0 : decide (x9_1 < (l1.length : Int)) = true := decide_eq_true c5
      clear c5
      by_cases c6 : (rdOf ByteArray.empty l1 x9_1).toList = a0.toList
      ·rw [if_pos c6] at H
       have c6b0 : ((rdOf ByteArray.empty l1 x9_1).toList == a0.toList) = true := beq_iff_eq.mpr c6
       have c6b1 : ((rdOf ByteArray.empty l1 x9_1).toList != a0.toList) = false := bne_eq_false_iff_eq.mpr c6
       clear c6
       obtain rfl := Option.some.inj H
       have p154 : 0 ≤ (x9_1 : Int) := of_decide_eq_true ass
       have q154 : x9_1 < (l1.length : Int) := of_decide_eq_true ass
       obtain ⟨ad154, e154, hx154_0⟩ := Kd.at_string HR1.out x9_1 p154 q154
       cases e154
       replace p154 := eq_true p154
       replace q154 := eq_true q154
       go_wp2
       go_ret
       exact ⟨by first | rfl | (simp; done) | (simp [*]; done), by repeat (first | exact Drawn0.refl _ | apply Drawn0.step)⟩
      ·rw [if_neg c6] at H
       have c6b0 : ((rdOf ByteArray.empty l1 x9_1).toList == a0.toList) = false := beq_eq_false_iff_ne.mpr c6
       have c6b1 : ((rdOf ByteArray.empty l1 x9_1).toList != a0.toList) = true := bne_iff_ne.mpr c6
       have H' := Ae.mk H
       clear H
       have p154 : 0 ≤ (x9_1 : Int) := of_decide_eq_true ass
       have q154 : x9_1 < (l1.length : Int) := of_decide_eq_true ass
       obtain ⟨ad154, e154, hx154_0⟩ := Kd.at_string HR1.out x9_1 p154 q154
       cases e154
       replace p154 := eq_true p154
       replace q154 := eq_true q154
       go_wp2
       go_roundg k1
       case measure => have := HK1.out; omega
       case rel => exact ⟨(wrap64 (x9_1 + 1)), pv, H', ⟨by have := HK1.out; omega⟩, by repeat (first | exact Drawn0.refl _ | apply Drawn0.step)⟩
     ·rw [if_neg c5] at H
      exact absurd H (by simp)
    ·rw [if_neg c4] at H
     exact absurd H (by simp)
   ·rw [if_neg c3] at H
    have c3b0 : decide (x9_1 < (l1.length : Int)) = false := decide_eq_false c3
    clear c3
    obtain rfl := Option.some.inj H
    go_wp2
    go_ret
    exact ⟨by first | rfl | (simp; done) | (simp [*]; done), by repeat (first | exact Drawn0.refl _ | apply Drawn0.step)⟩
def code_operators.f  : Option (List ByteArray) := (strings_Fields.f (⟨#[43, 32, 45, 32, 42, 32, 47, 32, 37, 32, 61, 61, 32, 33, 61, 32, 60, 32, 60, 61, 32, 62, 32, 62, 61]⟩ : ByteArray)).bind fun t155 => (some t155)
set_option maxHeartbeats 8000000 in
set_option maxRecDepth 100000 in
theorem code_operators.calls  (r : List ByteArray) (w : World) (hT : Tabs w) (h : code_operators.f  = some r) :
  Calls Tryz.prog 49 #[] w fun e w' => ∃ v0_ : Value, e = .returned (v0_) ∧ Kd.R Kd.string 9 w' w.heap.size (fun _ => True) v0_ r ∧ Below w.heap.size w w' := by
 have HB := Ae.mk (Below.refl w.heap.size w)
 have H : ((strings_Fields.f (⟨#[43, 32, 45, 32, 42, 32, 47, 32, 37, 32, 61, 61, 32, 33, 61, 32, 60, 32, 60, 61, 32, 62, 32, 62, 61]⟩ : ByteArray)).bind fun t155 => (some t155)) = some r := h
 clear h
 replace H := Option.bind_eq_some_iff.mp H
 obtain ⟨t155, A10, H⟩ := H
 replace H : (some t155) = some r := H
 have A1 := Ae.mk A10
 clear A10
 obtain rfl := Option.some.inj H
 go_enter Tryz.func49, Tryz.ntmps49
 go_wp2_with (first | ((with_reducible refine gate_callee (f := 31) rfl ?_); refine goesL_ (some 1) rfl rfl Tryz.func31 (by kernel_rfl) rfl #[.string (⟨#[43, 32, 45, 32, 42, 32, 47, 32, 37, 32, 61, 61, 32, 33, 61, 32, 60, 32, 60, 61, 32, 62, 32, 62, 61]⟩ : ByteArray)] rfl am ?_; (with_reducible refine (strings_Fields.calls (⟨#[43, 32, 45, 32, 42, 32, 47, 32, 37, 32, 61, 61, 32, 33, 61, 32, 60, 32, 60, 61, 32, 62, 32, 62, 61]⟩ : ByteArray) t155 _ ?side1 A1.out).mono ?_); (case side1 => first | exact hT | exact tabs_below hT bel); rintro e w2 ⟨v156, rfl, ho0, hb⟩; refine ⟨_, rfl, ?_⟩; have n0_ := Ae.mk (Kd.R_lower ho0 (below_size bel)); have n1_ := bes hb; clear HB; have HO157 := n0_; have HB := n1_; clear n0_ n1_; (try clear hb); (try clear hb2); (try clear hk); (try clear hi); (try clear ho0)))
 go_ret
 exact ⟨_, by first | rfl | (simp [errW_none, errW_some] <;> rfl) | (simp [*, errW_none, errW_some] <;> rfl), rt HO157, bel⟩
end Go.Proofs.YtlbcnacfgickcaaGreatDoor.A
