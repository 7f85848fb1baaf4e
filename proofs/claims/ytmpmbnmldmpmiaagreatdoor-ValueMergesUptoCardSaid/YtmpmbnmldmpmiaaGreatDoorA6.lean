/- Printed by this session's own copy of the printer (wip/tools/mkprint.py): functions, and that the Go code answers as they do. -/
import Derived.Test.YtmpmbnmldmpmiaaGreatDoorShort
import Derived.Test.YtmpmbnmldmpmiaaGreatDoorA0
import Derived.Test.YtmpmbnmldmpmiaaGreatDoorA2
import Derived.Test.YtmpmbnmldmpmiaaGreatDoorA5
namespace Go.Proofs.YtmpmbnmldmpmiaaGreatDoor.A
open Go.RowKit Go.Proofs.YtmpmbnmldmpmiaaGreatDoorW.PrintWords Go.Proofs.YtmpmbnmldmpmiaaGreatDoorW.PrintLast Go.Proofs.YtmpmbnmldmpmiaaGreatDoorW.PrintMore Go.Proofs.YtmpmbnmldmpmiaaGreatDoorW.Short
attribute [local go_sem] max2_int min2_int max_two min_two max_three min_three max_four min_four   -- for this text's walks alone
set_option linter.unusedVariables false
set_option linter.unusedSimpArgs false
def colanderref03_keys.l0 : Nat → List ByteArray → Int → Option (Bool)
 | 0, _, _ => none
 | k + 1, x3, x4 => if x4 < (x3.length : Int) then (if 0 ≤ x4 then ((colanderref01_Valid.f k (rdOf ByteArray.empty x3 x4)).bind fun t142 => (if t142 = true then (if x4 > 0 then (if 0 ≤ (wrap64 (x4 - 1)) then (if (wrap64 (x4 - 1)) < (x3.length : Int) then (if (rdOf ByteArray.empty x3 x4).toList = (rdOf ByteArray.empty x3 (wrap64 (x4 - 1))).toList then (some false) else (colanderref03_keys.l0 k x3 (wrap64 (x4 + 1)))) else (none)) else (none)) else (colanderref03_keys.l0 k x3 (wrap64 (x4 + 1)))) else (some false))) else (none)) else (some true)
def colanderref03_keys.f (k : Nat) (l0 : List ByteArray) : Option (Bool) := (colanderref03_Sorted.f k l0).bind fun t138 => (colanderref03_keys.l0 k t138 0)
set_option maxHeartbeats 8000000 in
set_option maxRecDepth 100000 in
theorem colanderref03_keys.calls (k : Nat) (A0 : Option Addr) (c0 : Nat) (l0 : List ByteArray) (r : Bool) (w : World) (hr0 : Kd.C Kd.string w A0 l0.length l0) (hc0 : l0.length ≤ c0) (h : colanderref03_keys.f k l0 = some r) :
  Calls Tryz.prog 89 #[.slice A0 l0.length c0] w fun e w' => e = .returned (.bool r) ∧ Below w.heap.size w w' := by
 have HR0 := Aside0.mk hr0
 have HC0 := Aside0.mk hc0
 clear hr0 hc0
 have HB := Aside0.mk (Below.refl w.heap.size w)
 have H : ((colanderref03_Sorted.f k l0).bind fun t138 => (colanderref03_keys.l0 k t138 0)) = some r := h
 clear h
 replace H := Option.bind_eq_some_iff.mp H
 obtain ⟨t138, A20, H⟩ := H
 replace H : (colanderref03_keys.l0 k t138 0) = some r := H
 have A2 := Aside0.mk A20
 clear A20
 have H' := Aside0.mk H
 clear H
 go_enter Tryz.func89, Tryz.ntmps89
 go_wp2_with (first | (go_at_call 87; (with_reducible refine (colanderref03_Sorted.calls k _ _ l0 t138 _ ?side1 ?side2 A2.out).mono ?_); (case side1 => repeat (first | exact HR0.out | (with_reducible refine Kd.C_alloc ?_ _) | (with_reducible refine Kd.C_drewN ?_ _) | (with_reducible refine Kd.C_drew ?_))); (case side2 => exact HC0.out); rintro e w3 ⟨v139, rfl, ho0, hb⟩; have n0_ := Aside0.mk (Kd.R_lower ho0 (below_size bel)); have n1_ := bes hb; clear HB; have HO140 := n0_; have HB := n1_; clear n0_ n1_; (try clear hb); (try clear hb2); (try clear hk); (try clear hi); (try clear ho0)))
 repeat (go_quiet (first | (go_at_call 87; (with_reducible refine (colanderref03_Sorted.calls k _ _ l0 t138 _ ?side1 ?side2 A2.out).mono ?_); (case side1 => repeat (first | exact HR0.out | (with_reducible refine Kd.C_alloc ?_ _) | (with_reducible refine Kd.C_drewN ?_ _) | (with_reducible refine Kd.C_drew ?_))); (case side2 => exact HC0.out); rintro e w3 ⟨v139, rfl, ho0, hb⟩; have n0_ := Aside0.mk (Kd.R_lower ho0 (below_size bel)); have n1_ := bes hb; clear HB; have HO140 := n0_; have HB := n1_; clear n0_ n1_; (try clear hb); (try clear hb2); (try clear hk); (try clear hi); (try clear ho0))); try go_wp2_with (first | (go_at_call 87; (with_reducible refine (colanderref03_Sorted.calls k _ _ l0 t138 _ ?side1 ?side2 A2.out).mono ?_); (case side1 => repeat (first | exact HR0.out | (with_reducible refine Kd.C_alloc ?_ _) | (with_reducible refine Kd.C_drewN ?_ _) | (with_reducible refine Kd.C_drew ?_))); (case side2 => exact HC0.out); rintro e w3 ⟨v139, rfl, ho0, hb⟩; have n0_ := Aside0.mk (Kd.R_lower ho0 (below_size bel)); have n1_ := bes hb; clear HB; have HO140 := n0_; have HB := n1_; clear n0_ n1_; (try clear hb); (try clear hb2); (try clear hk); (try clear hi); (try clear ho0))))
 go_loopg [4] k (fun kq v4 w' => ∃ (x4_1 : Int), v4 = .int .i64 x4_1 ∧ Aside0 (colanderref03_keys.l0 kq t138 x4_1 = some r) ∧ Aside0 (kq ≤ k) ∧ Aside0 (Kd.R Kd.string 9 w' w.heap.size (fun _ => True) v139 t138) ∧ Aside0 (Below w.heap.size w w'))
 case atStart => exact ⟨(0), pv, H', ⟨Nat.le_refl _⟩, ⟨rt HO140⟩, ⟨bel⟩⟩
 case round =>
  clear H'
  (try clear p2)
  obtain ⟨x4_1, rfl, HA, HK1, HO_3, HB⟩ := hrel
  cases gk with
  | zero => exact absurd HA.out (by simp [colanderref03_keys.l0])
  | succ k1 =>
   have H := HA.out
   clear HA
   simp only [colanderref03_keys.l0] at H
   by_cases c4 : x4_1 < (t138.length : Int)
   ·rw [if_pos c4] at H
    have c4b0 : decide (x4_1 < (t138.length : Int)) = true := decide_eq_true c4
    clear c4
    by_cases c5 : 0 ≤ x4_1
    ·rw [if_pos c5] at H
     have c5b0 : decide (0 ≤ x4_1) = true := decide_eq_true c5
     clear c5
     replace H := Option.bind_eq_some_iff.mp H
     obtain ⟨t142, A60, H⟩ := H
     replace H : (if t142 = true then (if x4_1 > 0 then (if 0 ≤ (wrap64 (x4_1 - 1)) then (if (wrap64 (x4_1 - 1)) < (t138.length : Int) then (if (rdOf ByteArray.empty t138 x4_1).toList = (rdOf ByteArray.empty t138 (wrap64 (x4_1 - 1))).toList then (some false) else (colanderref03_keys.l0 k1 t138 (wrap64 (x4_1 + 1)))) else (none)) else (none)) else (colanderref03_keys.l0 k1 t138 (wrap64 (x4_1 + 1)))) else (some false)) = some r := H
     have A6 := Aside0.mk A60
     clear A60
     by_cases c7 : t142 = true
     ·subst c7
      have H1 : (if x4_1 > 0 then (if 0 ≤ (wrap64 (x4_1 - 1)) then (if (wrap64 (x4_1 - 1)) < (t138.length : Int) then (if (rdOf ByteArray.empty t138 x4_1).toList = (rdOf ByteArray.empty t138 (wrap64 (x4_1 - 1))).toList then (some false) else (colanderref03_keys.l0 k1 t138 (wrap64 (x4_1 + 1)))) else (none)) else (none)) else (colanderref03_keys.l0 k1 t138 (wrap64 (x4_1 + 1)))) = some r := by rw [if_pos rfl] at H; exact H
      clear H
      have H := H1
      clear H1
      by_cases c8 : x4_1 > 0
      ·rw [if_pos c8] at H
       have c8b0 : decide (0 < x4_1) = true := decide_eq_true c8
       clear c8
       obtain ⟨ji9, hji9⟩ : ∃ j_ : Int, (wrap64 (x4_1 - 1)) = j_ := ⟨_, rfl⟩
       replace H : (if 0 ≤ (ji9) then (if (ji9) < (t138.length : Int) then (if (rdOf ByteArray.empty t138 x4_1).toList = (rdOf ByteArray.empty t138 (ji9)).toList then (some false) else (colanderref03_keys.l0 k1 t138 (wrap64 (x4_1 + 1)))) else (none)) else (none)) = some r := by first | (rw [hji9] at H; exact H) | (simp only [hji9] at H ⊢; exact H)
       (try rw [hji9] at A6)
       have hji9w : (IntKind.i64.wrap (x4_1 - 1)) = ji9 := (i64_w _).trans hji9
       by_cases c10 : 0 ≤ (ji9)
       ·rw [if_pos c10] at H
        have c10b0 : decide (0 ≤ (ji9)) = true := decide_eq_true c10
        clear c10
        by_cases c11 : (ji9) < (t138.length : Int)
        ·rw [if_pos c11] at H
         have c11b0 : decide ((ji9) < (t138.length : Int)) = true := decide_eq_true c11
         clear c11
         by_cases c12 : (rdOf ByteArray.empty t138 x4_1).toList = (rdOf ByteArray.empty t138 (ji9)).toList
         ·rw [if_pos c12] at H
          have c12b0 : ((rdOf ByteArray.empty t138 x4_1).toList == (rdOf ByteArray.empty t138 (ji9)).toList) = true := beq_iff_eq.mpr c12
          have c12b1 : ((rdOf ByteArray.empty t138 x4_1).toList != (rdOf ByteArray.empty t138 (ji9)).toList) = false := bne_eq_false_iff_eq.mpr c12
          clear c12
          obtain rfl := Option.some.inj H
          obtain ⟨Ao13, co13, eo13⟩ := Kd.R_slice HO_3.out
          subst eo13
          have p141 : 0 ≤ (x4_1 : Int) := of_decide_eq_true ass
          have q141 : x4_1 < (t138.length : Int) := of_decide_eq_true ass
          obtain ⟨ad141, e141, hx141_0⟩ := Kd.at_string (Kd.R_reads' HO_3.out).2.2 x4_1 p141 q141
          cases e141
          replace p141 := eq_true p141
          replace q141 := eq_true q141
          go_wp2_with (first | (go_at_call 35; (with_reducible refine (colanderref01_Valid.calls k1 (rdOf ByteArray.empty t138 x4_1) true _ A6.out).mono ?_); rintro e w' ⟨rfl, ⟨nd, rfl⟩⟩; (try first | exact ⟨rfl, _, World.drewN_drewN _ _ _⟩ | exact ⟨rfl, _, Eq.trans (World.drewN_drewN _ _ _) (congrArg (World.drewN _) (Nat.add_assoc _ _ _))⟩); have p143 : 0 ≤ (x4_1 : Int) := of_decide_eq_true ass; have q143 : x4_1 < (t138.length : Int) := of_decide_eq_true ass; obtain ⟨ad143, e143, hx143_0⟩ := Kd.at_string (Kd.R_reads' HO_3.out).2.2 x4_1 p143 q143; obtain rfl : ad141 = ad143 := (by injection e143); replace p143 := eq_true p143; replace q143 := eq_true q143; have p144 : 0 ≤ ((ji9) : Int) := of_decide_eq_true ass; have q144 : (ji9) < (t138.length : Int) := of_decide_eq_true ass; obtain ⟨ad144, e144, hx144_0⟩ := Kd.at_string (Kd.R_reads' HO_3.out).2.2 (ji9) p144 q144; obtain rfl : ad141 = ad144 := (by injection e144); replace p144 := eq_true p144; replace q144 := eq_true q144))
          repeat (go_quiet (first | (go_at_call 35; (with_reducible refine (colanderref01_Valid.calls k1 (rdOf ByteArray.empty t138 x4_1) true _ A6.out).mono ?_); rintro e w' ⟨rfl, ⟨nd, rfl⟩⟩; (try first | exact ⟨rfl, _, World.drewN_drewN _ _ _⟩ | exact ⟨rfl, _, Eq.trans (World.drewN_drewN _ _ _) (congrArg (World.drewN _) (Nat.add_assoc _ _ _))⟩); have p143 : 0 ≤ (x4_1 : Int) := of_decide_eq_true ass; have q143 : x4_1 < (t138.length : Int) := of_decide_eq_true ass; obtain ⟨ad143, e143, hx143_0⟩ := Kd.at_string (Kd.R_reads' HO_3.out).2.2 x4_1 p143 q143; obtain rfl : ad141 = ad143 := (by injection e143); replace p143 := eq_true p143; replace q143 := eq_true q143; have p144 : 0 ≤ ((ji9) : Int) := of_decide_eq_true ass; have q144 : (ji9) < (t138.length : Int) := of_decide_eq_true ass; obtain ⟨ad144, e144, hx144_0⟩ := Kd.at_string (Kd.R_reads' HO_3.out).2.2 (ji9) p144 q144; obtain rfl : ad141 = ad144 := (by injection e144); replace p144 := eq_true p144; replace q144 := eq_true q144)); try go_wp2_with (first | (go_at_call 35; (with_reducible refine (colanderref01_Valid.calls k1 (rdOf ByteArray.empty t138 x4_1) true _ A6.out).mono ?_); rintro e w' ⟨rfl, ⟨nd, rfl⟩⟩; (try first | exact ⟨rfl, _, World.drewN_drewN _ _ _⟩ | exact ⟨rfl, _, Eq.trans (World.drewN_drewN _ _ _) (congrArg (World.drewN _) (Nat.add_assoc _ _ _))⟩); have p143 : 0 ≤ (x4_1 : Int) := of_decide_eq_true ass; have q143 : x4_1 < (t138.length : Int) := of_decide_eq_true ass; obtain ⟨ad143, e143, hx143_0⟩ := Kd.at_string (Kd.R_reads' HO_3.out).2.2 x4_1 p143 q143; obtain rfl : ad141 = ad143 := (by injection e143); replace p143 := eq_true p143; replace q143 := eq_true q143; have p144 : 0 ≤ ((ji9) : Int) := of_decide_eq_true ass; have q144 : (ji9) < (t138.length : Int) := of_decide_eq_true ass; obtain ⟨ad144, e144, hx144_0⟩ := Kd.at_string (Kd.R_reads' HO_3.out).2.2 (ji9) p144 q144; obtain rfl : ad141 = ad144 := (by injection e144); replace p144 := eq_true p144; replace q144 := eq_true q144)))
          go_ret
          exact ⟨by first | rfl | (simp [errW_none, errW_some] <;> rfl) | (simp only [← hji9]; first | rfl | (simp [errW_none, errW_some] <;> rfl)) | (simp [*, errW_none, errW_some] <;> rfl), bel⟩
         ·rw [if_neg c12] at H
          have c12b0 : ((rdOf ByteArray.empty t138 x4_1).toList == (rdOf ByteArray.empty t138 (ji9)).toList) = false := beq_eq_false_iff_ne.mpr c12
          have c12b1 : ((rdOf ByteArray.empty t138 x4_1).toList != (rdOf ByteArray.empty t138 (ji9)).toList) = true := bne_iff_ne.mpr c12
          have H' := Aside0.mk H
          clear H
          obtain ⟨Ao14, co14, eo14⟩ := Kd.R_slice HO_3.out
          subst eo14
          have p141 : 0 ≤ (x4_1 : Int) := of_decide_eq_true ass
          have q141 : x4_1 < (t138.length : Int) := of_decide_eq_true ass
          obtain ⟨ad141, e141, hx141_0⟩ := Kd.at_string (Kd.R_reads' HO_3.out).2.2 x4_1 p141 q141
          cases e141
          replace p141 := eq_true p141
          replace q141 := eq_true q141
          go_wp2_with (first | (go_at_call 35; (with_reducible refine (colanderref01_Valid.calls k1 (rdOf ByteArray.empty t138 x4_1) true _ A6.out).mono ?_); rintro e w' ⟨rfl, ⟨nd, rfl⟩⟩; (try first | exact ⟨rfl, _, World.drewN_drewN _ _ _⟩ | exact ⟨rfl, _, Eq.trans (World.drewN_drewN _ _ _) (congrArg (World.drewN _) (Nat.add_assoc _ _ _))⟩); have p143 : 0 ≤ (x4_1 : Int) := of_decide_eq_true ass; have q143 : x4_1 < (t138.length : Int) := of_decide_eq_true ass; obtain ⟨ad143, e143, hx143_0⟩ := Kd.at_string (Kd.R_reads' HO_3.out).2.2 x4_1 p143 q143; obtain rfl : ad141 = ad143 := (by injection e143); replace p143 := eq_true p143; replace q143 := eq_true q143; have p144 : 0 ≤ ((ji9) : Int) := of_decide_eq_true ass; have q144 : (ji9) < (t138.length : Int) := of_decide_eq_true ass; obtain ⟨ad144, e144, hx144_0⟩ := Kd.at_string (Kd.R_reads' HO_3.out).2.2 (ji9) p144 q144; obtain rfl : ad141 = ad144 := (by injection e144); replace p144 := eq_true p144; replace q144 := eq_true q144))
          repeat (go_quiet (first | (go_at_call 35; (with_reducible refine (colanderref01_Valid.calls k1 (rdOf ByteArray.empty t138 x4_1) true _ A6.out).mono ?_); rintro e w' ⟨rfl, ⟨nd, rfl⟩⟩; (try first | exact ⟨rfl, _, World.drewN_drewN _ _ _⟩ | exact ⟨rfl, _, Eq.trans (World.drewN_drewN _ _ _) (congrArg (World.drewN _) (Nat.add_assoc _ _ _))⟩); have p143 : 0 ≤ (x4_1 : Int) := of_decide_eq_true ass; have q143 : x4_1 < (t138.length : Int) := of_decide_eq_true ass; obtain ⟨ad143, e143, hx143_0⟩ := Kd.at_string (Kd.R_reads' HO_3.out).2.2 x4_1 p143 q143; obtain rfl : ad141 = ad143 := (by injection e143); replace p143 := eq_true p143; replace q143 := eq_true q143; have p144 : 0 ≤ ((ji9) : Int) := of_decide_eq_true ass; have q144 : (ji9) < (t138.length : Int) := of_decide_eq_true ass; obtain ⟨ad144, e144, hx144_0⟩ := Kd.at_string (Kd.R_reads' HO_3.out).2.2 (ji9) p144 q144; obtain rfl : ad141 = ad144 := (by injection e144); replace p144 := eq_true p144; replace q144 := eq_true q144)); try go_wp2_with (first | (go_at_call 35; (with_reducible refine (colanderref01_Valid.calls k1 (rdOf ByteArray.empty t138 x4_1) true _ A6.out).mono ?_); rintro e w' ⟨rfl, ⟨nd, rfl⟩⟩; (try first | exact ⟨rfl, _, World.drewN_drewN _ _ _⟩ | exact ⟨rfl, _, Eq.trans (World.drewN_drewN _ _ _) (congrArg (World.drewN _) (Nat.add_assoc _ _ _))⟩); have p143 : 0 ≤ (x4_1 : Int) := of_decide_eq_true ass; have q143 : x4_1 < (t138.length : Int) := of_decide_eq_true ass; obtain ⟨ad143, e143, hx143_0⟩ := Kd.at_string (Kd.R_reads' HO_3.out).2.2 x4_1 p143 q143; obtain rfl : ad141 = ad143 := (by injection e143); replace p143 := eq_true p143; replace q143 := eq_true q143; have p144 : 0 ≤ ((ji9) : Int) := of_decide_eq_true ass; have q144 : (ji9) < (t138.length : Int) := of_decide_eq_true ass; obtain ⟨ad144, e144, hx144_0⟩ := Kd.at_string (Kd.R_reads' HO_3.out).2.2 (ji9) p144 q144; obtain rfl : ad141 = ad144 := (by injection e144); replace p144 := eq_true p144; replace q144 := eq_true q144)))
          go_roundg k1
          case measure => have := HK1.out; omega
          case rel => exact ⟨(wrap64 (x4_1 + 1)), pv, H', ⟨by have := HK1.out; omega⟩, ⟨rt HO_3⟩, ⟨bel⟩⟩
        ·rw [if_neg c11] at H
         exact absurd H (by simp)
       ·rw [if_neg c10] at H
        exact absurd H (by simp)
      ·rw [if_neg c8] at H
       have c8b0 : decide (0 < x4_1) = false := decide_eq_false c8
       clear c8
       have H' := Aside0.mk H
       clear H
       obtain ⟨Ao15, co15, eo15⟩ := Kd.R_slice HO_3.out
       subst eo15
       have p141 : 0 ≤ (x4_1 : Int) := of_decide_eq_true ass
       have q141 : x4_1 < (t138.length : Int) := of_decide_eq_true ass
       obtain ⟨ad141, e141, hx141_0⟩ := Kd.at_string (Kd.R_reads' HO_3.out).2.2 x4_1 p141 q141
       cases e141
       replace p141 := eq_true p141
       replace q141 := eq_true q141
       go_wp2_with (first | (go_at_call 35; (with_reducible refine (colanderref01_Valid.calls k1 (rdOf ByteArray.empty t138 x4_1) true _ A6.out).mono ?_); rintro e w' ⟨rfl, ⟨nd, rfl⟩⟩; (try first | exact ⟨rfl, _, World.drewN_drewN _ _ _⟩ | exact ⟨rfl, _, Eq.trans (World.drewN_drewN _ _ _) (congrArg (World.drewN _) (Nat.add_assoc _ _ _))⟩)))
       repeat (go_quiet (first | (go_at_call 35; (with_reducible refine (colanderref01_Valid.calls k1 (rdOf ByteArray.empty t138 x4_1) true _ A6.out).mono ?_); rintro e w' ⟨rfl, ⟨nd, rfl⟩⟩; (try first | exact ⟨rfl, _, World.drewN_drewN _ _ _⟩ | exact ⟨rfl, _, Eq.trans (World.drewN_drewN _ _ _) (congrArg (World.drewN _) (Nat.add_assoc _ _ _))⟩))); try go_wp2_with (first | (go_at_call 35; (with_reducible refine (colanderref01_Valid.calls k1 (rdOf ByteArray.empty t138 x4_1) true _ A6.out).mono ?_); rintro e w' ⟨rfl, ⟨nd, rfl⟩⟩; (try first | exact ⟨rfl, _, World.drewN_drewN _ _ _⟩ | exact ⟨rfl, _, Eq.trans (World.drewN_drewN _ _ _) (congrArg (World.drewN _) (Nat.add_assoc _ _ _))⟩))))
       go_roundg k1
       case measure => have := HK1.out; omega
       case rel => exact ⟨(wrap64 (x4_1 + 1)), pv, H', ⟨by have := HK1.out; omega⟩, ⟨rt HO_3⟩, ⟨bel⟩⟩
     ·replace c7 := Bool.eq_false_iff.mpr c7
      subst c7
      have H1 : (some false) = some r := by rw [if_neg (show ¬ (false = true) by decide)] at H; exact H
      clear H
      have H := H1
      clear H1
      obtain rfl := Option.some.inj H
      obtain ⟨Ao16, co16, eo16⟩ := Kd.R_slice HO_3.out
      subst eo16
      have p141 : 0 ≤ (x4_1 : Int) := of_decide_eq_true ass
      have q141 : x4_1 < (t138.length : Int) := of_decide_eq_true ass
      obtain ⟨ad141, e141, hx141_0⟩ := Kd.at_string (Kd.R_reads' HO_3.out).2.2 x4_1 p141 q141
      cases e141
      replace p141 := eq_true p141
      replace q141 := eq_true q141
      go_wp2_with (first | (go_at_call 35; (with_reducible refine (colanderref01_Valid.calls k1 (rdOf ByteArray.empty t138 x4_1) false _ A6.out).mono ?_); rintro e w' ⟨rfl, ⟨nd, rfl⟩⟩; (try first | exact ⟨rfl, _, World.drewN_drewN _ _ _⟩ | exact ⟨rfl, _, Eq.trans (World.drewN_drewN _ _ _) (congrArg (World.drewN _) (Nat.add_assoc _ _ _))⟩)))
      repeat (go_quiet (first | (go_at_call 35; (with_reducible refine (colanderref01_Valid.calls k1 (rdOf ByteArray.empty t138 x4_1) false _ A6.out).mono ?_); rintro e w' ⟨rfl, ⟨nd, rfl⟩⟩; (try first | exact ⟨rfl, _, World.drewN_drewN _ _ _⟩ | exact ⟨rfl, _, Eq.trans (World.drewN_drewN _ _ _) (congrArg (World.drewN _) (Nat.add_assoc _ _ _))⟩))); try go_wp2_with (first | (go_at_call 35; (with_reducible refine (colanderref01_Valid.calls k1 (rdOf ByteArray.empty t138 x4_1) false _ A6.out).mono ?_); rintro e w' ⟨rfl, ⟨nd, rfl⟩⟩; (try first | exact ⟨rfl, _, World.drewN_drewN _ _ _⟩ | exact ⟨rfl, _, Eq.trans (World.drewN_drewN _ _ _) (congrArg (World.drewN _) (Nat.add_assoc _ _ _))⟩))))
      go_ret
      exact fn
    ·rw [if_neg c5] at H
     exact absurd H (by simp)
   ·rw [if_neg c4] at H
    have c4b0 : decide (x4_1 < (t138.length : Int)) = false := decide_eq_false c4
    clear c4
    obtain rfl := Option.some.inj H
    obtain ⟨Ao17, co17, eo17⟩ := Kd.R_slice HO_3.out
    subst eo17
    go_wp2
    repeat (go_quiet (fail); try go_wp2)
    go_ret
    exact fn
end Go.Proofs.YtmpmbnmldmpmiaaGreatDoor.A
