/- Printed by this session's own copy of the printer (wip/tools/mkprint.py): functions, and that the Go code answers as they do. -/
import Derived.Test.YtmpmbnmldmpmiaaGreatDoorShort
import Derived.Test.YtmpmbnmldmpmiaaGreatDoorA0
import Derived.Test.YtmpmbnmldmpmiaaGreatDoorA2
import Derived.Test.YtmpmbnmldmpmiaaGreatDoorA4
import Derived.Test.YtmpmbnmldmpmiaaGreatDoorA6
namespace Go.Proofs.YtmpmbnmldmpmiaaGreatDoor.A
open Go.RowKit Go.Proofs.YtmpmbnmldmpmiaaGreatDoorW.PrintWords Go.Proofs.YtmpmbnmldmpmiaaGreatDoorW.PrintLast Go.Proofs.YtmpmbnmldmpmiaaGreatDoorW.PrintMore Go.Proofs.YtmpmbnmldmpmiaaGreatDoorW.Short
attribute [local go_sem] max2_int min2_int max_two min_two max_three min_three max_four min_four   -- for this text's walks alone
set_option linter.unusedVariables false
set_option linter.unusedSimpArgs false
mutual
def colanderref03_right.j0 : Nat → Int → Bool → Int → Nat → ByteArray → List (S27) → List ByteArray → Option (Bool)
 | 0, _, _, _, _, _, _, _ => none
 | k + 1, x1, x17, x146000, x146001, x146002, x146003, x146004 => if x17 = true then (some false) else (if x146000 = 3 then (if x146000 = 4 then (if x146000 < 5 then (colanderref03_right.j1 k x1 (decide ((x146003.length : Int) > 0)) x146000 x146001 x146002 x146003 x146004) else (colanderref03_right.j1 k x1 false x146000 x146001 x146002 x146003 x146004)) else (if x146002.toList = ([] : List UInt8) then (if x146000 < 5 then (colanderref03_right.j1 k x1 (decide ((x146003.length : Int) > 0)) x146000 x146001 x146002 x146003 x146004) else (colanderref03_right.j1 k x1 false x146000 x146001 x146002 x146003 x146004)) else (colanderref03_right.j1 k x1 true x146000 x146001 x146002 x146003 x146004))) else ((colanderref03_zero.f x146001).bind fun t146 => (if t146 = true then (if x146000 = 4 then (if x146000 < 5 then (colanderref03_right.j1 k x1 (decide ((x146003.length : Int) > 0)) x146000 x146001 x146002 x146003 x146004) else (colanderref03_right.j1 k x1 false x146000 x146001 x146002 x146003 x146004)) else (if x146002.toList = ([] : List UInt8) then (if x146000 < 5 then (colanderref03_right.j1 k x1 (decide ((x146003.length : Int) > 0)) x146000 x146001 x146002 x146003 x146004) else (colanderref03_right.j1 k x1 false x146000 x146001 x146002 x146003 x146004)) else (colanderref03_right.j1 k x1 true x146000 x146001 x146002 x146003 x146004))) else (colanderref03_right.j1 k x1 true x146000 x146001 x146002 x146003 x146004))))
def colanderref03_right.j1 : Nat → Int → Bool → Int → Nat → ByteArray → List (S27) → List ByteArray → Option (Bool)
 | 0, _, _, _, _, _, _, _ => none
 | k + 1, x1, x47, x146000, x146001, x146002, x146003, x146004 => if x47 = true then (some false) else (if x146000 = 6 then (if (x146004.length : Int) = (x146003.length : Int) then (colanderref03_right.j2 k x1 false x146000 x146001 x146002 x146003 x146004) else (colanderref03_right.j2 k x1 true x146000 x146001 x146002 x146003 x146004)) else (colanderref03_right.j2 k x1 (decide ((x146004.length : Int) > 0)) x146000 x146001 x146002 x146003 x146004))
def colanderref03_right.j2 : Nat → Int → Bool → Int → Nat → ByteArray → List (S27) → List ByteArray → Option (Bool)
 | 0, _, _, _, _, _, _, _ => none
 | k + 1, x1, x70, x146000, x146001, x146002, x146003, x146004 => if x70 = true then (some false) else ((colanderref01_Valid.f k x146002).bind fun t147 => (if t147 = true then ((colanderref03_keys.f k x146004).bind fun t148 => (colanderref03_right.j3 k x1 (!t148) x146000 x146001 x146002 x146003 x146004)) else (colanderref03_right.j3 k x1 true x146000 x146001 x146002 x146003 x146004)))
def colanderref03_right.j3 : Nat → Int → Bool → Int → Nat → ByteArray → List (S27) → List ByteArray → Option (Bool)
 | 0, _, _, _, _, _, _, _ => none
 | k + 1, x1, x80, x146000, x146001, x146002, x146003, x146004 => if x80 = true then (some false) else (colanderref03_right.l0 k x1 0 x146000 x146001 x146002 x146003 x146004)
def colanderref03_right.l0 : Nat → Int → Int → Int → Nat → ByteArray → List (S27) → List ByteArray → Option (Bool)
 | 0, _, _, _, _, _, _, _ => none
 | k + 1, x1, x5, x146000, x146001, x146002, x146003, x146004 => if x5 < (x146003.length : Int) then (if 0 ≤ x5 then ((colanderref03_right.f k ((rd_T27 x146003 x5).f0) ((rd_T27 x146003 x5).f1) ((rd_T27 x146003 x5).f2) ((rd_T27 x146003 x5).f3) ((rd_T27 x146003 x5).f4) (wrap64 (x1 - 1))).bind fun t150 => (if t150 = true then (colanderref03_right.l0 k x1 (wrap64 (x5 + 1)) x146000 x146001 x146002 x146003 x146004) else (some false))) else (none)) else (some true)
def colanderref03_right.f : Nat → Int → Nat → ByteArray → List (S27) → List ByteArray → Int → Option (Bool)
 | 0, _, _, _, _, _, _ => none
 | k + 1, a0_0, a0_1, a0_2, l0_3, l0_4, a1 => if a1 < 1 then (colanderref03_right.j0 k a1 true a0_0 a0_1 a0_2 l0_3 l0_4) else (if a0_0 < 0 then (colanderref03_right.j0 k a1 true a0_0 a0_1 a0_2 l0_3 l0_4) else (colanderref03_right.j0 k a1 (decide (a0_0 > 6)) a0_0 a0_1 a0_2 l0_3 l0_4))
end
set_option maxHeartbeats 8000000 in
set_option maxRecDepth 100000 in
theorem colanderref03_right.calls (k : Nat) : ∀ (a0_0 : Int) (a0_1 : Nat) (a0_2 : ByteArray) (A0_3 : Option Addr) (c0_3 : Nat) (l0_3 : List (S27)) (A0_4 : Option Addr) (c0_4 : Nat) (l0_4 : List ByteArray) (a1 : Int) (r : Bool) (w : World) (hr0_3 : Kd.C k27 w A0_3 l0_3.length l0_3) (hc0_3 : l0_3.length ≤ c0_3) (hr0_4 : Kd.C Kd.string w A0_4 l0_4.length l0_4) (hc0_4 : l0_4.length ≤ c0_4) (h : colanderref03_right.f k a0_0 a0_1 a0_2 l0_3 l0_4 a1 = some r),
  Calls Tryz.prog 44 #[.agg #[.int .i64 a0_0, .float .f64 a0_1, .string a0_2, .slice A0_3 l0_3.length c0_3, .slice A0_4 l0_4.length c0_4], .int .i64 a1] w fun e w' => e = .returned (.bool r) ∧ Below w.heap.size w w' := by
 induction k using Nat.strongRecOn with
 | _ k ih =>
 intro a0_0 a0_1 a0_2 A0_3 c0_3 l0_3 A0_4 c0_4 l0_4 a1 r w hr0_3 hc0_3 hr0_4 hc0_4 h
 cases k with
 | zero => exact absurd h (by simp [colanderref03_right.f])
 | succ k =>
 simp only [colanderref03_right.f] at h
 have hu27 := Tryz.underlying27
 have HR0_3 := Aside0.mk hr0_3
 have HC0_3 := Aside0.mk hc0_3
 clear hr0_3 hc0_3
 have HR0_4 := Aside0.mk hr0_4
 have HC0_4 := Aside0.mk hc0_4
 clear hr0_4 hc0_4
 have HB := Aside0.mk (Below.refl w.heap.size w)
 have H : (if a1 < 1 then (colanderref03_right.j0 k a1 true a0_0 a0_1 a0_2 l0_3 l0_4) else (if a0_0 < 0 then (colanderref03_right.j0 k a1 true a0_0 a0_1 a0_2 l0_3 l0_4) else (colanderref03_right.j0 k a1 (decide (a0_0 > 6)) a0_0 a0_1 a0_2 l0_3 l0_4))) = some r := h
 clear h
 have HC3 := Aside0.mk H
 clear H
 go_enter Tryz.func44, Tryz.ntmps44
 go_upto_region 1 with (first | ((with_reducible refine gate_dst (N := 2) rfl ?_); (try (refine gate_guard (by rfl) ?_; dsimp only)); refine box_event ?hg (N := 2) ?hd (cs := #[.int .i64 a0_0, .float .f64 a0_1, .string a0_2, .slice A0_3 l0_3.length c0_3, .slice A0_4 l0_4.length c0_4]) (t := 27) ?hr ?_; (case hd => rfl); (case hg => rfl); (case hr => first | (go_simp; done) | (go_simp; rfl)); intro gb145 hg w4 hbox hb; have n0_ := bes hb; have n1_ := Aside0.mk (hbox); have n2_ := Aside0.mk ((bez hg : w.heap.size ≤ gb145)); have n3_ := Aside0.mk ((bez hg : w.heap.size ≤ gb145)); clear HB; have HB := n0_; have BK145 := n1_; have GW145 := n2_; have GE145 := n3_; clear n0_ n1_ n2_ n3_; clear hb hbox hg))
 (try simp only [Act.put, List.setIfInBounds_toArray, List.set_cons_zero, List.set_cons_succ])
 go_cut [17] (fun v17 wc => ∃ (kq : Nat) (x17_2 : Bool), v17 = .bool x17_2 ∧ Aside0 (colanderref03_right.j0 kq a1 x17_2 a0_0 a0_1 a0_2 l0_3 l0_4 = some r) ∧ Aside0 (kq ≤ k) ∧ Aside0 (wc.heap[gb145]? = some (.cells #[.int .i64 a0_0, .float .f64 a0_1, .string a0_2, (.slice A0_3 l0_3.length c0_3), (.slice A0_4 l0_4.length c0_4)] 27 (0, 0))) ∧ Aside0 (Below w.heap.size w wc))
 case first =>
  have H := HC3.out
  clear HC3
  by_cases c5 : a1 < 1
  ·rw [if_pos c5] at H
   have c5b0 : decide (a1 < 1) = true := decide_eq_true c5
   clear c5
   (first | rw [c5b0] | (simp only [i64_w, i32_w]; rw [c5b0]) | skip)
   have H' := Aside0.mk H
   clear H
   go_wp2
   go_meet
   case rel => exact ⟨_, (true), pv, H', ⟨by first | omega | exact Nat.le_refl _⟩, ⟨bt⟩, ⟨bel⟩⟩
  ·rw [if_neg c5] at H
   have c5b0 : decide (a1 < 1) = false := decide_eq_false c5
   clear c5
   (first | rw [c5b0] | (simp only [i64_w, i32_w]; rw [c5b0]) | skip)
   by_cases c6 : a0_0 < 0
   ·rw [if_pos c6] at H
    have c6b0 : decide (a0_0 < 0) = true := decide_eq_true c6
    clear c6
    have H' := Aside0.mk H
    clear H
    have hcz7_0 : w4.cell? ⟨gb145, 0, none⟩ = some (.int .i64 a0_0) := (blk_cell BK145.out 0).trans rfl
    have hcz7_1 : w4.cell? ⟨gb145, 1, none⟩ = some (.float .f64 a0_1) := (blk_cell BK145.out 1).trans rfl
    have hcz7_2 : w4.cell? ⟨gb145, 2, none⟩ = some (.string a0_2) := (blk_cell BK145.out 2).trans rfl
    have hcz7_3 : w4.cell? ⟨gb145, 3, none⟩ = some (.slice A0_3 l0_3.length c0_3) := (blk_cell BK145.out 3).trans rfl
    have hcz7_4 : w4.cell? ⟨gb145, 4, none⟩ = some (.slice A0_4 l0_4.length c0_4) := (blk_cell BK145.out 4).trans rfl
    have hfz7_0 := blk_frozen BK145.out 0
    have hfz7_1 := blk_frozen BK145.out 1
    have hfz7_2 := blk_frozen BK145.out 2
    have hfz7_3 := blk_frozen BK145.out 3
    have hfz7_4 := blk_frozen BK145.out 4
    go_wp2
    go_meet
    case rel => exact ⟨_, (true), pv, H', ⟨by first | omega | exact Nat.le_refl _⟩, ⟨bt⟩, ⟨bel⟩⟩
   ·rw [if_neg c6] at H
    have c6b0 : decide (a0_0 < 0) = false := decide_eq_false c6
    clear c6
    have H' := Aside0.mk H
    clear H
    have hcz8_0 : w4.cell? ⟨gb145, 0, none⟩ = some (.int .i64 a0_0) := (blk_cell BK145.out 0).trans rfl
    have hcz8_1 : w4.cell? ⟨gb145, 1, none⟩ = some (.float .f64 a0_1) := (blk_cell BK145.out 1).trans rfl
    have hcz8_2 : w4.cell? ⟨gb145, 2, none⟩ = some (.string a0_2) := (blk_cell BK145.out 2).trans rfl
    have hcz8_3 : w4.cell? ⟨gb145, 3, none⟩ = some (.slice A0_3 l0_3.length c0_3) := (blk_cell BK145.out 3).trans rfl
    have hcz8_4 : w4.cell? ⟨gb145, 4, none⟩ = some (.slice A0_4 l0_4.length c0_4) := (blk_cell BK145.out 4).trans rfl
    have hfz8_0 := blk_frozen BK145.out 0
    have hfz8_1 := blk_frozen BK145.out 1
    have hfz8_2 := blk_frozen BK145.out 2
    have hfz8_3 := blk_frozen BK145.out 3
    have hfz8_4 := blk_frozen BK145.out 4
    go_wp2
    go_meet
    case rel => exact ⟨_, (decide (a0_0 > 6)), pv, H', ⟨by first | omega | exact Nat.le_refl _⟩, ⟨bt⟩, ⟨bel⟩⟩
 case rest =>
  clear HC3
  (try clear p2);(try clear c4);(try clear c5);(try clear c5b0);(try clear c6);(try clear c6b0);(try clear hcz7_0);(try clear hcz7_1);(try clear hcz7_2);(try clear hcz7_3);(try clear hcz7_4);(try clear hcz8_0);(try clear hcz8_1);(try clear hcz8_2);(try clear hcz8_3);(try clear hcz8_4);(try clear hfz7_0);(try clear hfz7_1);(try clear hfz7_2);(try clear hfz7_3);(try clear hfz7_4);(try clear hfz8_0);(try clear hfz8_1);(try clear hfz8_2);(try clear hfz8_3);(try clear hfz8_4)
  obtain ⟨kq, x17_2, rfl, HA, HJ2, BK145, HB⟩ := hcut
  cases kq with
  | zero => exact absurd HA.out (by simp [colanderref03_right.j0])
  | succ kj2 =>
   have H := HA.out
   clear HA
   simp only [colanderref03_right.j0] at H
   by_cases c9 : x17_2 = true
   ·subst c9
    have H1 : (some false) = some r := by rw [if_pos rfl] at H; exact H
    clear H
    have H := H1
    clear H1
    obtain rfl := Option.some.inj H
    go_wp2
    go_ret
    exact fn
   ·replace c9 := Bool.eq_false_iff.mpr c9
    subst c9
    have H1 : (if a0_0 = 3 then (if a0_0 = 4 then (if a0_0 < 5 then (colanderref03_right.j1 kj2 a1 (decide ((l0_3.length : Int) > 0)) a0_0 a0_1 a0_2 l0_3 l0_4) else (colanderref03_right.j1 kj2 a1 false a0_0 a0_1 a0_2 l0_3 l0_4)) else (if a0_2.toList = ([] : List UInt8) then (if a0_0 < 5 then (colanderref03_right.j1 kj2 a1 (decide ((l0_3.length : Int) > 0)) a0_0 a0_1 a0_2 l0_3 l0_4) else (colanderref03_right.j1 kj2 a1 false a0_0 a0_1 a0_2 l0_3 l0_4)) else (colanderref03_right.j1 kj2 a1 true a0_0 a0_1 a0_2 l0_3 l0_4))) else ((colanderref03_zero.f a0_1).bind fun t146 => (if t146 = true then (if a0_0 = 4 then (if a0_0 < 5 then (colanderref03_right.j1 kj2 a1 (decide ((l0_3.length : Int) > 0)) a0_0 a0_1 a0_2 l0_3 l0_4) else (colanderref03_right.j1 kj2 a1 false a0_0 a0_1 a0_2 l0_3 l0_4)) else (if a0_2.toList = ([] : List UInt8) then (if a0_0 < 5 then (colanderref03_right.j1 kj2 a1 (decide ((l0_3.length : Int) > 0)) a0_0 a0_1 a0_2 l0_3 l0_4) else (colanderref03_right.j1 kj2 a1 false a0_0 a0_1 a0_2 l0_3 l0_4)) else (colanderref03_right.j1 kj2 a1 true a0_0 a0_1 a0_2 l0_3 l0_4))) else (colanderref03_right.j1 kj2 a1 true a0_0 a0_1 a0_2 l0_3 l0_4)))) = some r := by rw [if_neg (show ¬ (false = true) by decide)] at H; exact H
    clear H
    have H := H1
    clear H1
    have HC10 := Aside0.mk H
    clear H
    go_upto_region 3 with (fail)
    go_cut [47] (fun v47 wc => ∃ (kq : Nat) (x47_9 : Bool), v47 = .bool x47_9 ∧ Aside0 (colanderref03_right.j1 kq a1 x47_9 a0_0 a0_1 a0_2 l0_3 l0_4 = some r) ∧ Aside0 (kq ≤ kj2) ∧ Aside0 (wc.heap[gb145]? = some (.cells #[.int .i64 a0_0, .float .f64 a0_1, .string a0_2, (.slice A0_3 l0_3.length c0_3), (.slice A0_4 l0_4.length c0_4)] 27 (0, 0))) ∧ Aside0 (Below w.heap.size w wc))
    case first =>
     have H := HC10.out
     clear HC10
     by_cases c11 : a0_0 = 3
     ·rw [if_pos c11] at H
      have c11b0 : (a0_0 == 3) = true := beq_iff_eq.mpr c11
      have c11b1 : (a0_0 != 3) = false := bne_eq_false_iff_eq.mpr c11
      clear c11
      (first | rw [c11b0] | (simp only [i64_w, i32_w]; rw [c11b0]) | skip)
      by_cases c12 : a0_0 = 4
      ·rw [if_pos c12] at H
       have c12b0 : (a0_0 == 4) = true := beq_iff_eq.mpr c12
       have c12b1 : (a0_0 != 4) = false := bne_eq_false_iff_eq.mpr c12
       clear c12
       by_cases c13 : a0_0 < 5
       ·rw [if_pos c13] at H
        have c13b0 : decide (a0_0 < 5) = true := decide_eq_true c13
        clear c13
        have H' := Aside0.mk H
        clear H
        have hcz14_0 : wc.cell? ⟨gb145, 0, none⟩ = some (.int .i64 a0_0) := (blk_cell BK145.out 0).trans rfl
        have hcz14_1 : wc.cell? ⟨gb145, 1, none⟩ = some (.float .f64 a0_1) := (blk_cell BK145.out 1).trans rfl
        have hcz14_2 : wc.cell? ⟨gb145, 2, none⟩ = some (.string a0_2) := (blk_cell BK145.out 2).trans rfl
        have hcz14_3 : wc.cell? ⟨gb145, 3, none⟩ = some (.slice A0_3 l0_3.length c0_3) := (blk_cell BK145.out 3).trans rfl
        have hcz14_4 : wc.cell? ⟨gb145, 4, none⟩ = some (.slice A0_4 l0_4.length c0_4) := (blk_cell BK145.out 4).trans rfl
        have hfz14_0 := blk_frozen BK145.out 0
        have hfz14_1 := blk_frozen BK145.out 1
        have hfz14_2 := blk_frozen BK145.out 2
        have hfz14_3 := blk_frozen BK145.out 3
        have hfz14_4 := blk_frozen BK145.out 4
        go_wp2
        go_meet
        case rel => exact ⟨_, (decide ((l0_3.length : Int) > 0)), pv, H', ⟨by have := HJ2.out; first | omega | exact Nat.le_refl _⟩, ⟨bt⟩, ⟨bel⟩⟩
       ·rw [if_neg c13] at H
        have c13b0 : decide (a0_0 < 5) = false := decide_eq_false c13
        clear c13
        have H' := Aside0.mk H
        clear H
        have hcz15_0 : wc.cell? ⟨gb145, 0, none⟩ = some (.int .i64 a0_0) := (blk_cell BK145.out 0).trans rfl
        have hcz15_1 : wc.cell? ⟨gb145, 1, none⟩ = some (.float .f64 a0_1) := (blk_cell BK145.out 1).trans rfl
        have hcz15_2 : wc.cell? ⟨gb145, 2, none⟩ = some (.string a0_2) := (blk_cell BK145.out 2).trans rfl
        have hcz15_3 : wc.cell? ⟨gb145, 3, none⟩ = some (.slice A0_3 l0_3.length c0_3) := (blk_cell BK145.out 3).trans rfl
        have hcz15_4 : wc.cell? ⟨gb145, 4, none⟩ = some (.slice A0_4 l0_4.length c0_4) := (blk_cell BK145.out 4).trans rfl
        have hfz15_0 := blk_frozen BK145.out 0
        have hfz15_1 := blk_frozen BK145.out 1
        have hfz15_2 := blk_frozen BK145.out 2
        have hfz15_3 := blk_frozen BK145.out 3
        have hfz15_4 := blk_frozen BK145.out 4
        go_wp2
        go_meet
        case rel => exact ⟨_, (false), pv, H', ⟨by have := HJ2.out; first | omega | exact Nat.le_refl _⟩, ⟨bt⟩, ⟨bel⟩⟩
      ·rw [if_neg c12] at H
       have c12b0 : (a0_0 == 4) = false := beq_eq_false_iff_ne.mpr c12
       have c12b1 : (a0_0 != 4) = true := bne_iff_ne.mpr c12
       by_cases c16 : a0_2.toList = ([] : List UInt8)
       ·rw [if_pos c16] at H
        have c16b0 : (a0_2.toList == ([] : List UInt8)) = true := beq_iff_eq.mpr c16
        have c16b1 : (a0_2.toList != ([] : List UInt8)) = false := bne_eq_false_iff_eq.mpr c16
        clear c16
        by_cases c17 : a0_0 < 5
        ·rw [if_pos c17] at H
         have c17b0 : decide (a0_0 < 5) = true := decide_eq_true c17
         clear c17
         have H' := Aside0.mk H
         clear H
         have hcz18_0 : wc.cell? ⟨gb145, 0, none⟩ = some (.int .i64 a0_0) := (blk_cell BK145.out 0).trans rfl
         have hcz18_1 : wc.cell? ⟨gb145, 1, none⟩ = some (.float .f64 a0_1) := (blk_cell BK145.out 1).trans rfl
         have hcz18_2 : wc.cell? ⟨gb145, 2, none⟩ = some (.string a0_2) := (blk_cell BK145.out 2).trans rfl
         have hcz18_3 : wc.cell? ⟨gb145, 3, none⟩ = some (.slice A0_3 l0_3.length c0_3) := (blk_cell BK145.out 3).trans rfl
         have hcz18_4 : wc.cell? ⟨gb145, 4, none⟩ = some (.slice A0_4 l0_4.length c0_4) := (blk_cell BK145.out 4).trans rfl
         have hfz18_0 := blk_frozen BK145.out 0
         have hfz18_1 := blk_frozen BK145.out 1
         have hfz18_2 := blk_frozen BK145.out 2
         have hfz18_3 := blk_frozen BK145.out 3
         have hfz18_4 := blk_frozen BK145.out 4
         go_wp2
         go_meet
         case rel => exact ⟨_, (decide ((l0_3.length : Int) > 0)), pv, H', ⟨by have := HJ2.out; first | omega | exact Nat.le_refl _⟩, ⟨bt⟩, ⟨bel⟩⟩
        ·rw [if_neg c17] at H
         have c17b0 : decide (a0_0 < 5) = false := decide_eq_false c17
         clear c17
         have H' := Aside0.mk H
         clear H
         have hcz19_0 : wc.cell? ⟨gb145, 0, none⟩ = some (.int .i64 a0_0) := (blk_cell BK145.out 0).trans rfl
         have hcz19_1 : wc.cell? ⟨gb145, 1, none⟩ = some (.float .f64 a0_1) := (blk_cell BK145.out 1).trans rfl
         have hcz19_2 : wc.cell? ⟨gb145, 2, none⟩ = some (.string a0_2) := (blk_cell BK145.out 2).trans rfl
         have hcz19_3 : wc.cell? ⟨gb145, 3, none⟩ = some (.slice A0_3 l0_3.length c0_3) := (blk_cell BK145.out 3).trans rfl
         have hcz19_4 : wc.cell? ⟨gb145, 4, none⟩ = some (.slice A0_4 l0_4.length c0_4) := (blk_cell BK145.out 4).trans rfl
         have hfz19_0 := blk_frozen BK145.out 0
         have hfz19_1 := blk_frozen BK145.out 1
         have hfz19_2 := blk_frozen BK145.out 2
         have hfz19_3 := blk_frozen BK145.out 3
         have hfz19_4 := blk_frozen BK145.out 4
         go_wp2
         go_meet
         case rel => exact ⟨_, (false), pv, H', ⟨by have := HJ2.out; first | omega | exact Nat.le_refl _⟩, ⟨bt⟩, ⟨bel⟩⟩
       ·rw [if_neg c16] at H
        have c16b0 : (a0_2.toList == ([] : List UInt8)) = false := beq_eq_false_iff_ne.mpr c16
        have c16b1 : (a0_2.toList != ([] : List UInt8)) = true := bne_iff_ne.mpr c16
        have H' := Aside0.mk H
        clear H
        have hcz20_0 : wc.cell? ⟨gb145, 0, none⟩ = some (.int .i64 a0_0) := (blk_cell BK145.out 0).trans rfl
        have hcz20_1 : wc.cell? ⟨gb145, 1, none⟩ = some (.float .f64 a0_1) := (blk_cell BK145.out 1).trans rfl
        have hcz20_2 : wc.cell? ⟨gb145, 2, none⟩ = some (.string a0_2) := (blk_cell BK145.out 2).trans rfl
        have hcz20_3 : wc.cell? ⟨gb145, 3, none⟩ = some (.slice A0_3 l0_3.length c0_3) := (blk_cell BK145.out 3).trans rfl
        have hcz20_4 : wc.cell? ⟨gb145, 4, none⟩ = some (.slice A0_4 l0_4.length c0_4) := (blk_cell BK145.out 4).trans rfl
        have hfz20_0 := blk_frozen BK145.out 0
        have hfz20_1 := blk_frozen BK145.out 1
        have hfz20_2 := blk_frozen BK145.out 2
        have hfz20_3 := blk_frozen BK145.out 3
        have hfz20_4 := blk_frozen BK145.out 4
        go_wp2
        go_meet
        case rel => exact ⟨_, (true), pv, H', ⟨by have := HJ2.out; first | omega | exact Nat.le_refl _⟩, ⟨bt⟩, ⟨bel⟩⟩
     ·rw [if_neg c11] at H
      have c11b0 : (a0_0 == 3) = false := beq_eq_false_iff_ne.mpr c11
      have c11b1 : (a0_0 != 3) = true := bne_iff_ne.mpr c11
      (first | rw [c11b0] | (simp only [i64_w, i32_w]; rw [c11b0]) | skip)
      replace H := Option.bind_eq_some_iff.mp H
      obtain ⟨t146, A210, H⟩ := H
      replace H : (if t146 = true then (if a0_0 = 4 then (if a0_0 < 5 then (colanderref03_right.j1 kj2 a1 (decide ((l0_3.length : Int) > 0)) a0_0 a0_1 a0_2 l0_3 l0_4) else (colanderref03_right.j1 kj2 a1 false a0_0 a0_1 a0_2 l0_3 l0_4)) else (if a0_2.toList = ([] : List UInt8) then (if a0_0 < 5 then (colanderref03_right.j1 kj2 a1 (decide ((l0_3.length : Int) > 0)) a0_0 a0_1 a0_2 l0_3 l0_4) else (colanderref03_right.j1 kj2 a1 false a0_0 a0_1 a0_2 l0_3 l0_4)) else (colanderref03_right.j1 kj2 a1 true a0_0 a0_1 a0_2 l0_3 l0_4))) else (colanderref03_right.j1 kj2 a1 true a0_0 a0_1 a0_2 l0_3 l0_4)) = some r := H
      have A21 := Aside0.mk A210
      clear A210
      by_cases c22 : t146 = true
      ·subst c22
       have H1 : (if a0_0 = 4 then (if a0_0 < 5 then (colanderref03_right.j1 kj2 a1 (decide ((l0_3.length : Int) > 0)) a0_0 a0_1 a0_2 l0_3 l0_4) else (colanderref03_right.j1 kj2 a1 false a0_0 a0_1 a0_2 l0_3 l0_4)) else (if a0_2.toList = ([] : List UInt8) then (if a0_0 < 5 then (colanderref03_right.j1 kj2 a1 (decide ((l0_3.length : Int) > 0)) a0_0 a0_1 a0_2 l0_3 l0_4) else (colanderref03_right.j1 kj2 a1 false a0_0 a0_1 a0_2 l0_3 l0_4)) else (colanderref03_right.j1 kj2 a1 true a0_0 a0_1 a0_2 l0_3 l0_4))) = some r := by rw [if_pos rfl] at H; exact H
       clear H
       have H := H1
       clear H1
       by_cases c23 : a0_0 = 4
       ·rw [if_pos c23] at H
        have c23b0 : (a0_0 == 4) = true := beq_iff_eq.mpr c23
        have c23b1 : (a0_0 != 4) = false := bne_eq_false_iff_eq.mpr c23
        clear c23
        by_cases c24 : a0_0 < 5
        ·rw [if_pos c24] at H
         have c24b0 : decide (a0_0 < 5) = true := decide_eq_true c24
         clear c24
         have H' := Aside0.mk H
         clear H
         have hcz25_0 : wc.cell? ⟨gb145, 0, none⟩ = some (.int .i64 a0_0) := (blk_cell BK145.out 0).trans rfl
         have hcz25_1 : wc.cell? ⟨gb145, 1, none⟩ = some (.float .f64 a0_1) := (blk_cell BK145.out 1).trans rfl
         have hcz25_2 : wc.cell? ⟨gb145, 2, none⟩ = some (.string a0_2) := (blk_cell BK145.out 2).trans rfl
         have hcz25_3 : wc.cell? ⟨gb145, 3, none⟩ = some (.slice A0_3 l0_3.length c0_3) := (blk_cell BK145.out 3).trans rfl
         have hcz25_4 : wc.cell? ⟨gb145, 4, none⟩ = some (.slice A0_4 l0_4.length c0_4) := (blk_cell BK145.out 4).trans rfl
         have hfz25_0 := blk_frozen BK145.out 0
         have hfz25_1 := blk_frozen BK145.out 1
         have hfz25_2 := blk_frozen BK145.out 2
         have hfz25_3 := blk_frozen BK145.out 3
         have hfz25_4 := blk_frozen BK145.out 4
         go_wp2_with (first | (go_at_call 88; (with_reducible refine (colanderref03_zero.calls a0_1 true _ A21.out).mono ?_); rintro e w' ⟨rfl, ⟨nd, rfl⟩⟩))
         go_meet
         case rel => exact ⟨_, (decide ((l0_3.length : Int) > 0)), pv, H', ⟨by have := HJ2.out; first | omega | exact Nat.le_refl _⟩, ⟨bt⟩, ⟨bel⟩⟩
        ·rw [if_neg c24] at H
         have c24b0 : decide (a0_0 < 5) = false := decide_eq_false c24
         clear c24
         have H' := Aside0.mk H
         clear H
         have hcz26_0 : wc.cell? ⟨gb145, 0, none⟩ = some (.int .i64 a0_0) := (blk_cell BK145.out 0).trans rfl
         have hcz26_1 : wc.cell? ⟨gb145, 1, none⟩ = some (.float .f64 a0_1) := (blk_cell BK145.out 1).trans rfl
         have hcz26_2 : wc.cell? ⟨gb145, 2, none⟩ = some (.string a0_2) := (blk_cell BK145.out 2).trans rfl
         have hcz26_3 : wc.cell? ⟨gb145, 3, none⟩ = some (.slice A0_3 l0_3.length c0_3) := (blk_cell BK145.out 3).trans rfl
         have hcz26_4 : wc.cell? ⟨gb145, 4, none⟩ = some (.slice A0_4 l0_4.length c0_4) := (blk_cell BK145.out 4).trans rfl
         have hfz26_0 := blk_frozen BK145.out 0
         have hfz26_1 := blk_frozen BK145.out 1
         have hfz26_2 := blk_frozen BK145.out 2
         have hfz26_3 := blk_frozen BK145.out 3
         have hfz26_4 := blk_frozen BK145.out 4
         go_wp2_with (first | (go_at_call 88; (with_reducible refine (colanderref03_zero.calls a0_1 true _ A21.out).mono ?_); rintro e w' ⟨rfl, ⟨nd, rfl⟩⟩))
         go_meet
         case rel => exact ⟨_, (false), pv, H', ⟨by have := HJ2.out; first | omega | exact Nat.le_refl _⟩, ⟨bt⟩, ⟨bel⟩⟩
       ·rw [if_neg c23] at H
        have c23b0 : (a0_0 == 4) = false := beq_eq_false_iff_ne.mpr c23
        have c23b1 : (a0_0 != 4) = true := bne_iff_ne.mpr c23
        by_cases c27 : a0_2.toList = ([] : List UInt8)
        ·rw [if_pos c27] at H
         have c27b0 : (a0_2.toList == ([] : List UInt8)) = true := beq_iff_eq.mpr c27
         have c27b1 : (a0_2.toList != ([] : List UInt8)) = false := bne_eq_false_iff_eq.mpr c27
         clear c27
         by_cases c28 : a0_0 < 5
         ·rw [if_pos c28] at H
          have c28b0 : decide (a0_0 < 5) = true := decide_eq_true c28
          clear c28
          have H' := Aside0.mk H
          clear H
          have hcz29_0 : wc.cell? ⟨gb145, 0, none⟩ = some (.int .i64 a0_0) := (blk_cell BK145.out 0).trans rfl
          have hcz29_1 : wc.cell? ⟨gb145, 1, none⟩ = some (.float .f64 a0_1) := (blk_cell BK145.out 1).trans rfl
          have hcz29_2 : wc.cell? ⟨gb145, 2, none⟩ = some (.string a0_2) := (blk_cell BK145.out 2).trans rfl
          have hcz29_3 : wc.cell? ⟨gb145, 3, none⟩ = some (.slice A0_3 l0_3.length c0_3) := (blk_cell BK145.out 3).trans rfl
          have hcz29_4 : wc.cell? ⟨gb145, 4, none⟩ = some (.slice A0_4 l0_4.length c0_4) := (blk_cell BK145.out 4).trans rfl
          have hfz29_0 := blk_frozen BK145.out 0
          have hfz29_1 := blk_frozen BK145.out 1
          have hfz29_2 := blk_frozen BK145.out 2
          have hfz29_3 := blk_frozen BK145.out 3
          have hfz29_4 := blk_frozen BK145.out 4
          go_wp2_with (first | (go_at_call 88; (with_reducible refine (colanderref03_zero.calls a0_1 true _ A21.out).mono ?_); rintro e w' ⟨rfl, ⟨nd, rfl⟩⟩))
          go_meet
          case rel => exact ⟨_, (decide ((l0_3.length : Int) > 0)), pv, H', ⟨by have := HJ2.out; first | omega | exact Nat.le_refl _⟩, ⟨bt⟩, ⟨bel⟩⟩
         ·rw [if_neg c28] at H
          have c28b0 : decide (a0_0 < 5) = false := decide_eq_false c28
          clear c28
          have H' := Aside0.mk H
          clear H
          have hcz30_0 : wc.cell? ⟨gb145, 0, none⟩ = some (.int .i64 a0_0) := (blk_cell BK145.out 0).trans rfl
          have hcz30_1 : wc.cell? ⟨gb145, 1, none⟩ = some (.float .f64 a0_1) := (blk_cell BK145.out 1).trans rfl
          have hcz30_2 : wc.cell? ⟨gb145, 2, none⟩ = some (.string a0_2) := (blk_cell BK145.out 2).trans rfl
          have hcz30_3 : wc.cell? ⟨gb145, 3, none⟩ = some (.slice A0_3 l0_3.length c0_3) := (blk_cell BK145.out 3).trans rfl
          have hcz30_4 : wc.cell? ⟨gb145, 4, none⟩ = some (.slice A0_4 l0_4.length c0_4) := (blk_cell BK145.out 4).trans rfl
          have hfz30_0 := blk_frozen BK145.out 0
          have hfz30_1 := blk_frozen BK145.out 1
          have hfz30_2 := blk_frozen BK145.out 2
          have hfz30_3 := blk_frozen BK145.out 3
          have hfz30_4 := blk_frozen BK145.out 4
          go_wp2_with (first | (go_at_call 88; (with_reducible refine (colanderref03_zero.calls a0_1 true _ A21.out).mono ?_); rintro e w' ⟨rfl, ⟨nd, rfl⟩⟩))
          go_meet
          case rel => exact ⟨_, (false), pv, H', ⟨by have := HJ2.out; first | omega | exact Nat.le_refl _⟩, ⟨bt⟩, ⟨bel⟩⟩
        ·rw [if_neg c27] at H
         have c27b0 : (a0_2.toList == ([] : List UInt8)) = false := beq_eq_false_iff_ne.mpr c27
         have c27b1 : (a0_2.toList != ([] : List UInt8)) = true := bne_iff_ne.mpr c27
         have H' := Aside0.mk H
         clear H
         have hcz31_0 : wc.cell? ⟨gb145, 0, none⟩ = some (.int .i64 a0_0) := (blk_cell BK145.out 0).trans rfl
         have hcz31_1 : wc.cell? ⟨gb145, 1, none⟩ = some (.float .f64 a0_1) := (blk_cell BK145.out 1).trans rfl
         have hcz31_2 : wc.cell? ⟨gb145, 2, none⟩ = some (.string a0_2) := (blk_cell BK145.out 2).trans rfl
         have hcz31_3 : wc.cell? ⟨gb145, 3, none⟩ = some (.slice A0_3 l0_3.length c0_3) := (blk_cell BK145.out 3).trans rfl
         have hcz31_4 : wc.cell? ⟨gb145, 4, none⟩ = some (.slice A0_4 l0_4.length c0_4) := (blk_cell BK145.out 4).trans rfl
         have hfz31_0 := blk_frozen BK145.out 0
         have hfz31_1 := blk_frozen BK145.out 1
         have hfz31_2 := blk_frozen BK145.out 2
         have hfz31_3 := blk_frozen BK145.out 3
         have hfz31_4 := blk_frozen BK145.out 4
         go_wp2_with (first | (go_at_call 88; (with_reducible refine (colanderref03_zero.calls a0_1 true _ A21.out).mono ?_); rintro e w' ⟨rfl, ⟨nd, rfl⟩⟩))
         go_meet
         case rel => exact ⟨_, (true), pv, H', ⟨by have := HJ2.out; first | omega | exact Nat.le_refl _⟩, ⟨bt⟩, ⟨bel⟩⟩
      ·replace c22 := Bool.eq_false_iff.mpr c22
       subst c22
       have H1 : (colanderref03_right.j1 kj2 a1 true a0_0 a0_1 a0_2 l0_3 l0_4) = some r := by rw [if_neg (show ¬ (false = true) by decide)] at H; exact H
       clear H
       have H := H1
       clear H1
       have H' := Aside0.mk H
       clear H
       have hcz32_0 : wc.cell? ⟨gb145, 0, none⟩ = some (.int .i64 a0_0) := (blk_cell BK145.out 0).trans rfl
       have hcz32_1 : wc.cell? ⟨gb145, 1, none⟩ = some (.float .f64 a0_1) := (blk_cell BK145.out 1).trans rfl
       have hcz32_2 : wc.cell? ⟨gb145, 2, none⟩ = some (.string a0_2) := (blk_cell BK145.out 2).trans rfl
       have hcz32_3 : wc.cell? ⟨gb145, 3, none⟩ = some (.slice A0_3 l0_3.length c0_3) := (blk_cell BK145.out 3).trans rfl
       have hcz32_4 : wc.cell? ⟨gb145, 4, none⟩ = some (.slice A0_4 l0_4.length c0_4) := (blk_cell BK145.out 4).trans rfl
       have hfz32_0 := blk_frozen BK145.out 0
       have hfz32_1 := blk_frozen BK145.out 1
       have hfz32_2 := blk_frozen BK145.out 2
       have hfz32_3 := blk_frozen BK145.out 3
       have hfz32_4 := blk_frozen BK145.out 4
       go_wp2_with (first | (go_at_call 88; (with_reducible refine (colanderref03_zero.calls a0_1 false _ A21.out).mono ?_); rintro e w' ⟨rfl, ⟨nd, rfl⟩⟩))
       go_meet
       case rel => exact ⟨_, (true), pv, H', ⟨by have := HJ2.out; first | omega | exact Nat.le_refl _⟩, ⟨bt⟩, ⟨bel⟩⟩
    case rest =>
     clear HC10
     (try clear c1);(try clear c2);(try clear p2);(try clear c4);(try clear c5);(try clear c5b0);(try clear c6);(try clear c6b0);(try clear c9);(try clear c11);(try clear c11b0);(try clear c11b1);(try clear c12);(try clear c12b0);(try clear c12b1);(try clear c13);(try clear c13b0);(try clear c16);(try clear c16b0);(try clear c16b1);(try clear c17);(try clear c17b0);(try clear c22);(try clear c23);(try clear c23b0);(try clear c23b1);(try clear c24);(try clear c24b0);(try clear c27);(try clear c27b0);(try clear c27b1);(try clear c28);(try clear c28b0);(try clear hcz14_0);(try clear hcz14_1);(try clear hcz14_2);(try clear hcz14_3);(try clear hcz14_4);(try clear hcz15_0);(try clear hcz15_1);(try clear hcz15_2);(try clear hcz15_3);(try clear hcz15_4);(try clear hcz18_0);(try clear hcz18_1);(try clear hcz18_2);(try clear hcz18_3);(try clear hcz18_4);(try clear hcz19_0);(try clear hcz19_1);(try clear hcz19_2);(try clear hcz19_3);(try clear hcz19_4);(try clear hcz20_0);(try clear hcz20_1);(try clear hcz20_2);(try clear hcz20_3);(try clear hcz20_4);(try clear hcz25_0);(try clear hcz25_1);(try clear hcz25_2);(try clear hcz25_3);(try clear hcz25_4);(try clear hcz26_0);(try clear hcz26_1);(try clear hcz26_2);(try clear hcz26_3);(try clear hcz26_4);(try clear hcz29_0);(try clear hcz29_1);(try clear hcz29_2);(try clear hcz29_3);(try clear hcz29_4);(try clear hcz30_0);(try clear hcz30_1);(try clear hcz30_2);(try clear hcz30_3);(try clear hcz30_4);(try clear hcz31_0);(try clear hcz31_1);(try clear hcz31_2);(try clear hcz31_3);(try clear hcz31_4);(try clear hcz32_0);(try clear hcz32_1);(try clear hcz32_2);(try clear hcz32_3);(try clear hcz32_4);(try clear hcz7_0);(try clear hcz7_1);(try clear hcz7_2);(try clear hcz7_3);(try clear hcz7_4);(try clear hcz8_0);(try clear hcz8_1);(try clear hcz8_2);(try clear hcz8_3);(try clear hcz8_4);(try clear hfz14_0);(try clear hfz14_1);(try clear hfz14_2);(try clear hfz14_3);(try clear hfz14_4);(try clear hfz15_0);(try clear hfz15_1);(try clear hfz15_2);(try clear hfz15_3);(try clear hfz15_4);(try clear hfz18_0);(try clear hfz18_1);(try clear hfz18_2);(try clear hfz18_3);(try clear hfz18_4);(try clear hfz19_0);(try clear hfz19_1);(try clear hfz19_2);(try clear hfz19_3);(try clear hfz19_4);(try clear hfz20_0);(try clear hfz20_1);(try clear hfz20_2);(try clear hfz20_3);(try clear hfz20_4);(try clear hfz25_0);(try clear hfz25_1);(try clear hfz25_2);(try clear hfz25_3);(try clear hfz25_4);(try clear hfz26_0);(try clear hfz26_1);(try clear hfz26_2);(try clear hfz26_3);(try clear hfz26_4);(try clear hfz29_0);(try clear hfz29_1);(try clear hfz29_2);(try clear hfz29_3);(try clear hfz29_4);(try clear hfz30_0);(try clear hfz30_1);(try clear hfz30_2);(try clear hfz30_3);(try clear hfz30_4);(try clear hfz31_0);(try clear hfz31_1);(try clear hfz31_2);(try clear hfz31_3);(try clear hfz31_4);(try clear hfz32_0);(try clear hfz32_1);(try clear hfz32_2);(try clear hfz32_3);(try clear hfz32_4);(try clear hfz7_0);(try clear hfz7_1);(try clear hfz7_2);(try clear hfz7_3);(try clear hfz7_4);(try clear hfz8_0);(try clear hfz8_1);(try clear hfz8_2);(try clear hfz8_3);(try clear hfz8_4);(try clear p2)
     obtain ⟨kq, x47_9, rfl, HA, HJ9, BK145, HB⟩ := hcut
     cases kq with
     | zero => exact absurd HA.out (by simp [colanderref03_right.j1])
     | succ kj9 =>
      have H := HA.out
      clear HA
      simp only [colanderref03_right.j1] at H
      by_cases c33 : x47_9 = true
      ·subst c33
       have H1 : (some false) = some r := by rw [if_pos rfl] at H; exact H
       clear H
       have H := H1
       clear H1
       obtain rfl := Option.some.inj H
       go_wp2
       go_ret
       exact fn
      ·replace c33 := Bool.eq_false_iff.mpr c33
       subst c33
       have H1 : (if a0_0 = 6 then (if (l0_4.length : Int) = (l0_3.length : Int) then (colanderref03_right.j2 kj9 a1 false a0_0 a0_1 a0_2 l0_3 l0_4) else (colanderref03_right.j2 kj9 a1 true a0_0 a0_1 a0_2 l0_3 l0_4)) else (colanderref03_right.j2 kj9 a1 (decide ((l0_4.length : Int) > 0)) a0_0 a0_1 a0_2 l0_3 l0_4)) = some r := by rw [if_neg (show ¬ (false = true) by decide)] at H; exact H
       clear H
       have H := H1
       clear H1
       have HC34 := Aside0.mk H
       clear H
       go_upto_region 5 with (fail)
       go_cut [70] (fun v70 wc => ∃ (kq : Nat) (x70_33 : Bool), v70 = .bool x70_33 ∧ Aside0 (colanderref03_right.j2 kq a1 x70_33 a0_0 a0_1 a0_2 l0_3 l0_4 = some r) ∧ Aside0 (kq ≤ kj9) ∧ Aside0 (wc.heap[gb145]? = some (.cells #[.int .i64 a0_0, .float .f64 a0_1, .string a0_2, (.slice A0_3 l0_3.length c0_3), (.slice A0_4 l0_4.length c0_4)] 27 (0, 0))) ∧ Aside0 (Below w.heap.size w wc))
       case first =>
        have H := HC34.out
        clear HC34
        by_cases c35 : a0_0 = 6
        ·rw [if_pos c35] at H
         have c35b0 : (a0_0 == 6) = true := beq_iff_eq.mpr c35
         have c35b1 : (a0_0 != 6) = false := bne_eq_false_iff_eq.mpr c35
         clear c35
         (first | rw [c35b0] | (simp only [i64_w, i32_w]; rw [c35b0]) | skip)
         by_cases c36 : (l0_4.length : Int) = (l0_3.length : Int)
         ·rw [if_pos c36] at H
          have c36b0 : ((l0_4.length : Int) == (l0_3.length : Int)) = true := beq_iff_eq.mpr c36
          have c36b1 : ((l0_4.length : Int) != (l0_3.length : Int)) = false := bne_eq_false_iff_eq.mpr c36
          have c36b2 : (l0_4.length == l0_3.length) = true := by first | simpa using c36 | (simp at c36 ⊢; omega)
          clear c36
          have H' := Aside0.mk H
          clear H
          have hcz37_0 : wc.cell? ⟨gb145, 0, none⟩ = some (.int .i64 a0_0) := (blk_cell BK145.out 0).trans rfl
          have hcz37_1 : wc.cell? ⟨gb145, 1, none⟩ = some (.float .f64 a0_1) := (blk_cell BK145.out 1).trans rfl
          have hcz37_2 : wc.cell? ⟨gb145, 2, none⟩ = some (.string a0_2) := (blk_cell BK145.out 2).trans rfl
          have hcz37_3 : wc.cell? ⟨gb145, 3, none⟩ = some (.slice A0_3 l0_3.length c0_3) := (blk_cell BK145.out 3).trans rfl
          have hcz37_4 : wc.cell? ⟨gb145, 4, none⟩ = some (.slice A0_4 l0_4.length c0_4) := (blk_cell BK145.out 4).trans rfl
          have hfz37_0 := blk_frozen BK145.out 0
          have hfz37_1 := blk_frozen BK145.out 1
          have hfz37_2 := blk_frozen BK145.out 2
          have hfz37_3 := blk_frozen BK145.out 3
          have hfz37_4 := blk_frozen BK145.out 4
          go_wp2
          go_meet
          case rel => exact ⟨_, (false), pv, H', ⟨by have := HJ2.out; have := HJ9.out; first | omega | exact Nat.le_refl _⟩, ⟨bt⟩, ⟨bel⟩⟩
         ·rw [if_neg c36] at H
          have c36b0 : ((l0_4.length : Int) == (l0_3.length : Int)) = false := beq_eq_false_iff_ne.mpr c36
          have c36b1 : ((l0_4.length : Int) != (l0_3.length : Int)) = true := bne_iff_ne.mpr c36
          have c36b2 : (l0_4.length == l0_3.length) = false := by first | simpa using c36 | (simp at c36 ⊢; omega)
          have H' := Aside0.mk H
          clear H
          have hcz38_0 : wc.cell? ⟨gb145, 0, none⟩ = some (.int .i64 a0_0) := (blk_cell BK145.out 0).trans rfl
          have hcz38_1 : wc.cell? ⟨gb145, 1, none⟩ = some (.float .f64 a0_1) := (blk_cell BK145.out 1).trans rfl
          have hcz38_2 : wc.cell? ⟨gb145, 2, none⟩ = some (.string a0_2) := (blk_cell BK145.out 2).trans rfl
          have hcz38_3 : wc.cell? ⟨gb145, 3, none⟩ = some (.slice A0_3 l0_3.length c0_3) := (blk_cell BK145.out 3).trans rfl
          have hcz38_4 : wc.cell? ⟨gb145, 4, none⟩ = some (.slice A0_4 l0_4.length c0_4) := (blk_cell BK145.out 4).trans rfl
          have hfz38_0 := blk_frozen BK145.out 0
          have hfz38_1 := blk_frozen BK145.out 1
          have hfz38_2 := blk_frozen BK145.out 2
          have hfz38_3 := blk_frozen BK145.out 3
          have hfz38_4 := blk_frozen BK145.out 4
          go_wp2
          go_meet
          case rel => exact ⟨_, (true), pv, H', ⟨by have := HJ2.out; have := HJ9.out; first | omega | exact Nat.le_refl _⟩, ⟨bt⟩, ⟨bel⟩⟩
        ·rw [if_neg c35] at H
         have c35b0 : (a0_0 == 6) = false := beq_eq_false_iff_ne.mpr c35
         have c35b1 : (a0_0 != 6) = true := bne_iff_ne.mpr c35
         (first | rw [c35b0] | (simp only [i64_w, i32_w]; rw [c35b0]) | skip)
         have H' := Aside0.mk H
         clear H
         have hcz39_0 : wc.cell? ⟨gb145, 0, none⟩ = some (.int .i64 a0_0) := (blk_cell BK145.out 0).trans rfl
         have hcz39_1 : wc.cell? ⟨gb145, 1, none⟩ = some (.float .f64 a0_1) := (blk_cell BK145.out 1).trans rfl
         have hcz39_2 : wc.cell? ⟨gb145, 2, none⟩ = some (.string a0_2) := (blk_cell BK145.out 2).trans rfl
         have hcz39_3 : wc.cell? ⟨gb145, 3, none⟩ = some (.slice A0_3 l0_3.length c0_3) := (blk_cell BK145.out 3).trans rfl
         have hcz39_4 : wc.cell? ⟨gb145, 4, none⟩ = some (.slice A0_4 l0_4.length c0_4) := (blk_cell BK145.out 4).trans rfl
         have hfz39_0 := blk_frozen BK145.out 0
         have hfz39_1 := blk_frozen BK145.out 1
         have hfz39_2 := blk_frozen BK145.out 2
         have hfz39_3 := blk_frozen BK145.out 3
         have hfz39_4 := blk_frozen BK145.out 4
         go_wp2
         go_meet
         case rel => exact ⟨_, (decide ((l0_4.length : Int) > 0)), pv, H', ⟨by have := HJ2.out; have := HJ9.out; first | omega | exact Nat.le_refl _⟩, ⟨bt⟩, ⟨bel⟩⟩
       case rest =>
        clear HC34
        (try clear c1);(try clear c2);(try clear p2);(try clear c3);(try clear c4);(try clear c5);(try clear c5b0);(try clear c6);(try clear c6b0);(try clear c9);(try clear c11);(try clear c11b0);(try clear c11b1);(try clear c12);(try clear c12b0);(try clear c12b1);(try clear c13);(try clear c13b0);(try clear c16);(try clear c16b0);(try clear c16b1);(try clear c17);(try clear c17b0);(try clear c22);(try clear c23);(try clear c23b0);(try clear c23b1);(try clear c24);(try clear c24b0);(try clear c27);(try clear c27b0);(try clear c27b1);(try clear c28);(try clear c28b0);(try clear c33);(try clear c35);(try clear c35b0);(try clear c35b1);(try clear c36);(try clear c36b0);(try clear c36b1);(try clear c36b2);(try clear hcz14_0);(try clear hcz14_1);(try clear hcz14_2);(try clear hcz14_3);(try clear hcz14_4);(try clear hcz15_0);(try clear hcz15_1);(try clear hcz15_2);(try clear hcz15_3);(try clear hcz15_4);(try clear hcz18_0);(try clear hcz18_1);(try clear hcz18_2);(try clear hcz18_3);(try clear hcz18_4);(try clear hcz19_0);(try clear hcz19_1);(try clear hcz19_2);(try clear hcz19_3);(try clear hcz19_4);(try clear hcz20_0);(try clear hcz20_1);(try clear hcz20_2);(try clear hcz20_3);(try clear hcz20_4);(try clear hcz25_0);(try clear hcz25_1);(try clear hcz25_2);(try clear hcz25_3);(try clear hcz25_4);(try clear hcz26_0);(try clear hcz26_1);(try clear hcz26_2);(try clear hcz26_3);(try clear hcz26_4);(try clear hcz29_0);(try clear hcz29_1);(try clear hcz29_2);(try clear hcz29_3);(try clear hcz29_4);(try clear hcz30_0);(try clear hcz30_1);(try clear hcz30_2);(try clear hcz30_3);(try clear hcz30_4);(try clear hcz31_0);(try clear hcz31_1);(try clear hcz31_2);(try clear hcz31_3);(try clear hcz31_4);(try clear hcz32_0);(try clear hcz32_1);(try clear hcz32_2);(try clear hcz32_3);(try clear hcz32_4);(try clear hcz37_0);(try clear hcz37_1);(try clear hcz37_2);(try clear hcz37_3);(try clear hcz37_4);(try clear hcz38_0);(try clear hcz38_1);(try clear hcz38_2);(try clear hcz38_3);(try clear hcz38_4);(try clear hcz39_0);(try clear hcz39_1);(try clear hcz39_2);(try clear hcz39_3);(try clear hcz39_4);(try clear hcz7_0);(try clear hcz7_1);(try clear hcz7_2);(try clear hcz7_3);(try clear hcz7_4);(try clear hcz8_0);(try clear hcz8_1);(try clear hcz8_2);(try clear hcz8_3);(try clear hcz8_4);(try clear hfz14_0);(try clear hfz14_1);(try clear hfz14_2);(try clear hfz14_3);(try clear hfz14_4);(try clear hfz15_0);(try clear hfz15_1);(try clear hfz15_2);(try clear hfz15_3);(try clear hfz15_4);(try clear hfz18_0);(try clear hfz18_1);(try clear hfz18_2);(try clear hfz18_3);(try clear hfz18_4);(try clear hfz19_0);(try clear hfz19_1);(try clear hfz19_2);(try clear hfz19_3);(try clear hfz19_4);(try clear hfz20_0);(try clear hfz20_1);(try clear hfz20_2);(try clear hfz20_3);(try clear hfz20_4);(try clear hfz25_0);(try clear hfz25_1);(try clear hfz25_2);(try clear hfz25_3);(try clear hfz25_4);(try clear hfz26_0);(try clear hfz26_1);(try clear hfz26_2);(try clear hfz26_3);(try clear hfz26_4);(try clear hfz29_0);(try clear hfz29_1);(try clear hfz29_2);(try clear hfz29_3);(try clear hfz29_4);(try clear hfz30_0);(try clear hfz30_1);(try clear hfz30_2);(try clear hfz30_3);(try clear hfz30_4);(try clear hfz31_0);(try clear hfz31_1);(try clear hfz31_2);(try clear hfz31_3);(try clear hfz31_4);(try clear hfz32_0);(try clear hfz32_1);(try clear hfz32_2);(try clear hfz32_3);(try clear hfz32_4);(try clear hfz37_0);(try clear hfz37_1);(try clear hfz37_2);(try clear hfz37_3);(try clear hfz37_4);(try clear hfz38_0);(try clear hfz38_1);(try clear hfz38_2);(try clear hfz38_3);(try clear hfz38_4);(try clear hfz39_0);(try clear hfz39_1);(try clear hfz39_2);(try clear hfz39_3);(try clear hfz39_4);(try clear hfz7_0);(try clear hfz7_1);(try clear hfz7_2);(try clear hfz7_3);(try clear hfz7_4);(try clear hfz8_0);(try clear hfz8_1);(try clear hfz8_2);(try clear hfz8_3);(try clear hfz8_4);(try clear p2)
        obtain ⟨kq, x70_33, rfl, HA, HJ33, BK145, HB⟩ := hcut
        cases kq with
        | zero => exact absurd HA.out (by simp [colanderref03_right.j2])
        | succ kj33 =>
         have H := HA.out
         clear HA
         simp only [colanderref03_right.j2] at H
         by_cases c40 : x70_33 = true
         ·subst c40
          have H1 : (some false) = some r := by rw [if_pos rfl] at H; exact H
          clear H
          have H := H1
          clear H1
          obtain rfl := Option.some.inj H
          go_wp2
          go_ret
          exact fn
         ·replace c40 := Bool.eq_false_iff.mpr c40
          subst c40
          have H1 : ((colanderref01_Valid.f kj33 a0_2).bind fun t147 => (if t147 = true then ((colanderref03_keys.f kj33 l0_4).bind fun t148 => (colanderref03_right.j3 kj33 a1 (!t148) a0_0 a0_1 a0_2 l0_3 l0_4)) else (colanderref03_right.j3 kj33 a1 true a0_0 a0_1 a0_2 l0_3 l0_4))) = some r := by rw [if_neg (show ¬ (false = true) by decide)] at H; exact H
          clear H
          have H := H1
          clear H1
          have HC41 := Aside0.mk H
          clear H
          go_upto_region 7 with (fail)
          go_cut [80] (fun v80 wc => ∃ (kq : Nat) (x80_40 : Bool), v80 = .bool x80_40 ∧ Aside0 (colanderref03_right.j3 kq a1 x80_40 a0_0 a0_1 a0_2 l0_3 l0_4 = some r) ∧ Aside0 (kq ≤ kj33) ∧ Aside0 (wc.heap[gb145]? = some (.cells #[.int .i64 a0_0, .float .f64 a0_1, .string a0_2, (.slice A0_3 l0_3.length c0_3), (.slice A0_4 l0_4.length c0_4)] 27 (0, 0))) ∧ Aside0 (Below w.heap.size w wc))
          case first =>
           have H := HC41.out
           clear HC41
           replace H := Option.bind_eq_some_iff.mp H
           obtain ⟨t147, A420, H⟩ := H
           replace H : (if t147 = true then ((colanderref03_keys.f kj33 l0_4).bind fun t148 => (colanderref03_right.j3 kj33 a1 (!t148) a0_0 a0_1 a0_2 l0_3 l0_4)) else (colanderref03_right.j3 kj33 a1 true a0_0 a0_1 a0_2 l0_3 l0_4)) = some r := H
           have A42 := Aside0.mk A420
           clear A420
           by_cases c43 : t147 = true
           ·subst c43
            have H1 : ((colanderref03_keys.f kj33 l0_4).bind fun t148 => (colanderref03_right.j3 kj33 a1 (!t148) a0_0 a0_1 a0_2 l0_3 l0_4)) = some r := by rw [if_pos rfl] at H; exact H
            clear H
            have H := H1
            clear H1
            replace H := Option.bind_eq_some_iff.mp H
            obtain ⟨t148, A440, H⟩ := H
            replace H : (colanderref03_right.j3 kj33 a1 (!t148) a0_0 a0_1 a0_2 l0_3 l0_4) = some r := H
            have A44 := Aside0.mk A440
            clear A440
            have H' := Aside0.mk H
            clear H
            have hcz45_0 : wc.cell? ⟨gb145, 0, none⟩ = some (.int .i64 a0_0) := (blk_cell BK145.out 0).trans rfl
            have hcz45_1 : wc.cell? ⟨gb145, 1, none⟩ = some (.float .f64 a0_1) := (blk_cell BK145.out 1).trans rfl
            have hcz45_2 : wc.cell? ⟨gb145, 2, none⟩ = some (.string a0_2) := (blk_cell BK145.out 2).trans rfl
            have hcz45_3 : wc.cell? ⟨gb145, 3, none⟩ = some (.slice A0_3 l0_3.length c0_3) := (blk_cell BK145.out 3).trans rfl
            have hcz45_4 : wc.cell? ⟨gb145, 4, none⟩ = some (.slice A0_4 l0_4.length c0_4) := (blk_cell BK145.out 4).trans rfl
            have hfz45_0 := blk_frozen BK145.out 0
            have hfz45_1 := blk_frozen BK145.out 1
            have hfz45_2 := blk_frozen BK145.out 2
            have hfz45_3 := blk_frozen BK145.out 3
            have hfz45_4 := blk_frozen BK145.out 4
            go_wp2_with (first | ((with_reducible refine gate_callee (f := 35) rfl ?_); refine goesL_ (some 73) rfl rfl Tryz.func35 (by kernel_rfl) rfl #[.string a0_2] rfl am ?_; (with_reducible refine (colanderref01_Valid.calls kj33 a0_2 true _ A42.out).mono ?_); rintro e w' ⟨rfl, ⟨nd, rfl⟩⟩; refine ⟨_, rfl, ?_⟩) | (go_at_call 89; (with_reducible refine (colanderref03_keys.calls kj33 _ _ l0_4 t148 _ ?side1 ?side2 A44.out).mono ?_); (case side1 => repeat (first | exact (Kd.C_below HR0_4.out bel) | (with_reducible refine Kd.C_alloc ?_ _) | (with_reducible refine Kd.C_drewN ?_ _) | (with_reducible refine Kd.C_drew ?_))); (case side2 => exact HC0_4.out); rintro e w46 ⟨rfl, hb⟩; have n0_ := bb BK145 hb; have n1_ := bes hb; clear BK145; clear HB; have BK145 := n0_; have HB := n1_; clear n0_ n1_; (try clear hb); (try clear hb2); (try clear hk); (try clear hi)))
            go_meet
            case rel => exact ⟨_, (!t148), pv, H', ⟨by have := HJ2.out; have := HJ9.out; have := HJ33.out; first | omega | exact Nat.le_refl _⟩, ⟨bt⟩, ⟨bel⟩⟩
           ·replace c43 := Bool.eq_false_iff.mpr c43
            subst c43
            have H1 : (colanderref03_right.j3 kj33 a1 true a0_0 a0_1 a0_2 l0_3 l0_4) = some r := by rw [if_neg (show ¬ (false = true) by decide)] at H; exact H
            clear H
            have H := H1
            clear H1
            have H' := Aside0.mk H
            clear H
            have hcz47_0 : wc.cell? ⟨gb145, 0, none⟩ = some (.int .i64 a0_0) := (blk_cell BK145.out 0).trans rfl
            have hcz47_1 : wc.cell? ⟨gb145, 1, none⟩ = some (.float .f64 a0_1) := (blk_cell BK145.out 1).trans rfl
            have hcz47_2 : wc.cell? ⟨gb145, 2, none⟩ = some (.string a0_2) := (blk_cell BK145.out 2).trans rfl
            have hcz47_3 : wc.cell? ⟨gb145, 3, none⟩ = some (.slice A0_3 l0_3.length c0_3) := (blk_cell BK145.out 3).trans rfl
            have hcz47_4 : wc.cell? ⟨gb145, 4, none⟩ = some (.slice A0_4 l0_4.length c0_4) := (blk_cell BK145.out 4).trans rfl
            have hfz47_0 := blk_frozen BK145.out 0
            have hfz47_1 := blk_frozen BK145.out 1
            have hfz47_2 := blk_frozen BK145.out 2
            have hfz47_3 := blk_frozen BK145.out 3
            have hfz47_4 := blk_frozen BK145.out 4
            go_wp2_with (first | ((with_reducible refine gate_callee (f := 35) rfl ?_); refine goesL_ (some 73) rfl rfl Tryz.func35 (by kernel_rfl) rfl #[.string a0_2] rfl am ?_; (with_reducible refine (colanderref01_Valid.calls kj33 a0_2 false _ A42.out).mono ?_); rintro e w' ⟨rfl, ⟨nd, rfl⟩⟩; refine ⟨_, rfl, ?_⟩))
            go_meet
            case rel => exact ⟨_, (true), pv, H', ⟨by have := HJ2.out; have := HJ9.out; have := HJ33.out; first | omega | exact Nat.le_refl _⟩, ⟨bt⟩, ⟨bel⟩⟩
          case rest =>
           clear HC41
           (try clear c1);(try clear c2);(try clear p2);(try clear c3);(try clear c4);(try clear c5);(try clear c5b0);(try clear c6);(try clear c6b0);(try clear c9);(try clear c11);(try clear c11b0);(try clear c11b1);(try clear c12);(try clear c12b0);(try clear c12b1);(try clear c13);(try clear c13b0);(try clear c16);(try clear c16b0);(try clear c16b1);(try clear c17);(try clear c17b0);(try clear c22);(try clear c23);(try clear c23b0);(try clear c23b1);(try clear c24);(try clear c24b0);(try clear c27);(try clear c27b0);(try clear c27b1);(try clear c28);(try clear c28b0);(try clear c33);(try clear c35);(try clear c35b0);(try clear c35b1);(try clear c36);(try clear c36b0);(try clear c36b1);(try clear c36b2);(try clear c40);(try clear c43);(try clear hcz14_0);(try clear hcz14_1);(try clear hcz14_2);(try clear hcz14_3);(try clear hcz14_4);(try clear hcz15_0);(try clear hcz15_1);(try clear hcz15_2);(try clear hcz15_3);(try clear hcz15_4);(try clear hcz18_0);(try clear hcz18_1);(try clear hcz18_2);(try clear hcz18_3);(try clear hcz18_4);(try clear hcz19_0);(try clear hcz19_1);(try clear hcz19_2);(try clear hcz19_3);(try clear hcz19_4);(try clear hcz20_0);(try clear hcz20_1);(try clear hcz20_2);(try clear hcz20_3);(try clear hcz20_4);(try clear hcz25_0);(try clear hcz25_1);(try clear hcz25_2);(try clear hcz25_3);(try clear hcz25_4);(try clear hcz26_0);(try clear hcz26_1);(try clear hcz26_2);(try clear hcz26_3);(try clear hcz26_4);(try clear hcz29_0);(try clear hcz29_1);(try clear hcz29_2);(try clear hcz29_3);(try clear hcz29_4);(try clear hcz30_0);(try clear hcz30_1);(try clear hcz30_2);(try clear hcz30_3);(try clear hcz30_4);(try clear hcz31_0);(try clear hcz31_1);(try clear hcz31_2);(try clear hcz31_3);(try clear hcz31_4);(try clear hcz32_0);(try clear hcz32_1);(try clear hcz32_2);(try clear hcz32_3);(try clear hcz32_4);(try clear hcz37_0);(try clear hcz37_1);(try clear hcz37_2);(try clear hcz37_3);(try clear hcz37_4);(try clear hcz38_0);(try clear hcz38_1);(try clear hcz38_2);(try clear hcz38_3);(try clear hcz38_4);(try clear hcz39_0);(try clear hcz39_1);(try clear hcz39_2);(try clear hcz39_3);(try clear hcz39_4);(try clear hcz45_0);(try clear hcz45_1);(try clear hcz45_2);(try clear hcz45_3);(try clear hcz45_4);(try clear hcz47_0);(try clear hcz47_1);(try clear hcz47_2);(try clear hcz47_3);(try clear hcz47_4);(try clear hcz7_0);(try clear hcz7_1);(try clear hcz7_2);(try clear hcz7_3);(try clear hcz7_4);(try clear hcz8_0);(try clear hcz8_1);(try clear hcz8_2);(try clear hcz8_3);(try clear hcz8_4);(try clear hfz14_0);(try clear hfz14_1);(try clear hfz14_2);(try clear hfz14_3);(try clear hfz14_4);(try clear hfz15_0);(try clear hfz15_1);(try clear hfz15_2);(try clear hfz15_3);(try clear hfz15_4);(try clear hfz18_0);(try clear hfz18_1);(try clear hfz18_2);(try clear hfz18_3);(try clear hfz18_4);(try clear hfz19_0);(try clear hfz19_1);(try clear hfz19_2);(try clear hfz19_3);(try clear hfz19_4);(try clear hfz20_0);(try clear hfz20_1);(try clear hfz20_2);(try clear hfz20_3);(try clear hfz20_4);(try clear hfz25_0);(try clear hfz25_1);(try clear hfz25_2);(try clear hfz25_3);(try clear hfz25_4);(try clear hfz26_0);(try clear hfz26_1);(try clear hfz26_2);(try clear hfz26_3);(try clear hfz26_4);(try clear hfz29_0);(try clear hfz29_1);(try clear hfz29_2);(try clear hfz29_3);(try clear hfz29_4);(try clear hfz30_0);(try clear hfz30_1);(try clear hfz30_2);(try clear hfz30_3);(try clear hfz30_4);(try clear hfz31_0);(try clear hfz31_1);(try clear hfz31_2);(try clear hfz31_3);(try clear hfz31_4);(try clear hfz32_0);(try clear hfz32_1);(try clear hfz32_2);(try clear hfz32_3);(try clear hfz32_4);(try clear hfz37_0);(try clear hfz37_1);(try clear hfz37_2);(try clear hfz37_3);(try clear hfz37_4);(try clear hfz38_0);(try clear hfz38_1);(try clear hfz38_2);(try clear hfz38_3);(try clear hfz38_4);(try clear hfz39_0);(try clear hfz39_1);(try clear hfz39_2);(try clear hfz39_3);(try clear hfz39_4);(try clear hfz45_0);(try clear hfz45_1);(try clear hfz45_2);(try clear hfz45_3);(try clear hfz45_4);(try clear hfz47_0);(try clear hfz47_1);(try clear hfz47_2);(try clear hfz47_3);(try clear hfz47_4);(try clear hfz7_0);(try clear hfz7_1);(try clear hfz7_2);(try clear hfz7_3);(try clear hfz7_4);(try clear hfz8_0);(try clear hfz8_1);(try clear hfz8_2);(try clear hfz8_3);(try clear hfz8_4);(try clear p2)
           obtain ⟨kq, x80_40, rfl, HA, HJ40, BK145, HB⟩ := hcut
           cases kq with
           | zero => exact absurd HA.out (by simp [colanderref03_right.j3])
           | succ kj40 =>
            have H := HA.out
            clear HA
            simp only [colanderref03_right.j3] at H
            by_cases c48 : x80_40 = true
            ·subst c48
             have H1 : (some false) = some r := by rw [if_pos rfl] at H; exact H
             clear H
             have H := H1
             clear H1
             obtain rfl := Option.some.inj H
             go_wp2
             go_ret
             exact fn
            ·replace c48 := Bool.eq_false_iff.mpr c48
             subst c48
             have H1 : (colanderref03_right.l0 kj40 a1 0 a0_0 a0_1 a0_2 l0_3 l0_4) = some r := by rw [if_neg (show ¬ (false = true) by decide)] at H; exact H
             clear H
             have H := H1
             clear H1
             have H' := Aside0.mk H
             clear H
             go_wp2
             go_loopg [5] kj40 (fun kq v5 w' => ∃ (x5_5 : Int), v5 = .int .i64 x5_5 ∧ Aside0 (colanderref03_right.l0 kq a1 x5_5 a0_0 a0_1 a0_2 l0_3 l0_4 = some r) ∧ Aside0 (kq ≤ kj40) ∧ Aside0 (w'.heap[gb145]? = some (.cells #[.int .i64 a0_0, .float .f64 a0_1, .string a0_2, (.slice A0_3 l0_3.length c0_3), (.slice A0_4 l0_4.length c0_4)] 27 (0, 0))) ∧ Aside0 (Below w.heap.size w w'))
             case atStart => exact ⟨(0), pv, H', ⟨Nat.le_refl _⟩, ⟨bt⟩, ⟨bel⟩⟩
             case round =>
              clear H'
              (try clear c1);(try clear c2);(try clear p2);(try clear c3);(try clear c4);(try clear c5);(try clear c5b0);(try clear c6);(try clear c6b0);(try clear c9);(try clear c11);(try clear c11b0);(try clear c11b1);(try clear c12);(try clear c12b0);(try clear c12b1);(try clear c13);(try clear c13b0);(try clear c16);(try clear c16b0);(try clear c16b1);(try clear c17);(try clear c17b0);(try clear c22);(try clear c23);(try clear c23b0);(try clear c23b1);(try clear c24);(try clear c24b0);(try clear c27);(try clear c27b0);(try clear c27b1);(try clear c28);(try clear c28b0);(try clear c33);(try clear c35);(try clear c35b0);(try clear c35b1);(try clear c36);(try clear c36b0);(try clear c36b1);(try clear c36b2);(try clear c40);(try clear c43);(try clear c48);(try clear hcz14_0);(try clear hcz14_1);(try clear hcz14_2);(try clear hcz14_3);(try clear hcz14_4);(try clear hcz15_0);(try clear hcz15_1);(try clear hcz15_2);(try clear hcz15_3);(try clear hcz15_4);(try clear hcz18_0);(try clear hcz18_1);(try clear hcz18_2);(try clear hcz18_3);(try clear hcz18_4);(try clear hcz19_0);(try clear hcz19_1);(try clear hcz19_2);(try clear hcz19_3);(try clear hcz19_4);(try clear hcz20_0);(try clear hcz20_1);(try clear hcz20_2);(try clear hcz20_3);(try clear hcz20_4);(try clear hcz25_0);(try clear hcz25_1);(try clear hcz25_2);(try clear hcz25_3);(try clear hcz25_4);(try clear hcz26_0);(try clear hcz26_1);(try clear hcz26_2);(try clear hcz26_3);(try clear hcz26_4);(try clear hcz29_0);(try clear hcz29_1);(try clear hcz29_2);(try clear hcz29_3);(try clear hcz29_4);(try clear hcz30_0);(try clear hcz30_1);(try clear hcz30_2);(try clear hcz30_3);(try clear hcz30_4);(try clear hcz31_0);(try clear hcz31_1);(try clear hcz31_2);(try clear hcz31_3);(try clear hcz31_4);(try clear hcz32_0);(try clear hcz32_1);(try clear hcz32_2);(try clear hcz32_3);(try clear hcz32_4);(try clear hcz37_0);(try clear hcz37_1);(try clear hcz37_2);(try clear hcz37_3);(try clear hcz37_4);(try clear hcz38_0);(try clear hcz38_1);(try clear hcz38_2);(try clear hcz38_3);(try clear hcz38_4);(try clear hcz39_0);(try clear hcz39_1);(try clear hcz39_2);(try clear hcz39_3);(try clear hcz39_4);(try clear hcz45_0);(try clear hcz45_1);(try clear hcz45_2);(try clear hcz45_3);(try clear hcz45_4);(try clear hcz47_0);(try clear hcz47_1);(try clear hcz47_2);(try clear hcz47_3);(try clear hcz47_4);(try clear hcz7_0);(try clear hcz7_1);(try clear hcz7_2);(try clear hcz7_3);(try clear hcz7_4);(try clear hcz8_0);(try clear hcz8_1);(try clear hcz8_2);(try clear hcz8_3);(try clear hcz8_4);(try clear hfz14_0);(try clear hfz14_1);(try clear hfz14_2);(try clear hfz14_3);(try clear hfz14_4);(try clear hfz15_0);(try clear hfz15_1);(try clear hfz15_2);(try clear hfz15_3);(try clear hfz15_4);(try clear hfz18_0);(try clear hfz18_1);(try clear hfz18_2);(try clear hfz18_3);(try clear hfz18_4);(try clear hfz19_0);(try clear hfz19_1);(try clear hfz19_2);(try clear hfz19_3);(try clear hfz19_4);(try clear hfz20_0);(try clear hfz20_1);(try clear hfz20_2);(try clear hfz20_3);(try clear hfz20_4);(try clear hfz25_0);(try clear hfz25_1);(try clear hfz25_2);(try clear hfz25_3);(try clear hfz25_4);(try clear hfz26_0);(try clear hfz26_1);(try clear hfz26_2);(try clear hfz26_3);(try clear hfz26_4);(try clear hfz29_0);(try clear hfz29_1);(try clear hfz29_2);(try clear hfz29_3);(try clear hfz29_4);(try clear hfz30_0);(try clear hfz30_1);(try clear hfz30_2);(try clear hfz30_3);(try clear hfz30_4);(try clear hfz31_0);(try clear hfz31_1);(try clear hfz31_2);(try clear hfz31_3);(try clear hfz31_4);(try clear hfz32_0);(try clear hfz32_1);(try clear hfz32_2);(try clear hfz32_3);(try clear hfz32_4);(try clear hfz37_0);(try clear hfz37_1);(try clear hfz37_2);(try clear hfz37_3);(try clear hfz37_4);(try clear hfz38_0);(try clear hfz38_1);(try clear hfz38_2);(try clear hfz38_3);(try clear hfz38_4);(try clear hfz39_0);(try clear hfz39_1);(try clear hfz39_2);(try clear hfz39_3);(try clear hfz39_4);(try clear hfz45_0);(try clear hfz45_1);(try clear hfz45_2);(try clear hfz45_3);(try clear hfz45_4);(try clear hfz47_0);(try clear hfz47_1);(try clear hfz47_2);(try clear hfz47_3);(try clear hfz47_4);(try clear hfz7_0);(try clear hfz7_1);(try clear hfz7_2);(try clear hfz7_3);(try clear hfz7_4);(try clear hfz8_0);(try clear hfz8_1);(try clear hfz8_2);(try clear hfz8_3);(try clear hfz8_4);(try clear p2)
              obtain ⟨x5_5, rfl, HA, HK5, BK145, HB⟩ := hrel
              cases gk with
              | zero => exact absurd HA.out (by simp [colanderref03_right.l0])
              | succ k5 =>
               have H := HA.out
               clear HA
               simp only [colanderref03_right.l0] at H
               by_cases c49 : x5_5 < (l0_3.length : Int)
               ·rw [if_pos c49] at H
                have c49b0 : decide (x5_5 < (l0_3.length : Int)) = true := decide_eq_true c49
                clear c49
                by_cases c50 : 0 ≤ x5_5
                ·rw [if_pos c50] at H
                 have c50b0 : decide (0 ≤ x5_5) = true := decide_eq_true c50
                 clear c50
                 replace H := Option.bind_eq_some_iff.mp H
                 obtain ⟨t150, A510, H⟩ := H
                 replace H : (if t150 = true then (colanderref03_right.l0 k5 a1 (wrap64 (x5_5 + 1)) a0_0 a0_1 a0_2 l0_3 l0_4) else (some false)) = some r := H
                 have A51 := Aside0.mk A510
                 clear A510
                 by_cases c52 : t150 = true
                 ·subst c52
                  have H1 : (colanderref03_right.l0 k5 a1 (wrap64 (x5_5 + 1)) a0_0 a0_1 a0_2 l0_3 l0_4) = some r := by rw [if_pos rfl] at H; exact H
                  clear H
                  have H := H1
                  clear H1
                  have H' := Aside0.mk H
                  clear H
                  have hcz53_0 : wr.cell? ⟨gb145, 0, none⟩ = some (.int .i64 a0_0) := (blk_cell BK145.out 0).trans rfl
                  have hcz53_1 : wr.cell? ⟨gb145, 1, none⟩ = some (.float .f64 a0_1) := (blk_cell BK145.out 1).trans rfl
                  have hcz53_2 : wr.cell? ⟨gb145, 2, none⟩ = some (.string a0_2) := (blk_cell BK145.out 2).trans rfl
                  have hcz53_3 : wr.cell? ⟨gb145, 3, none⟩ = some (.slice A0_3 l0_3.length c0_3) := (blk_cell BK145.out 3).trans rfl
                  have hcz53_4 : wr.cell? ⟨gb145, 4, none⟩ = some (.slice A0_4 l0_4.length c0_4) := (blk_cell BK145.out 4).trans rfl
                  have hfz53_0 := blk_frozen BK145.out 0
                  have hfz53_1 := blk_frozen BK145.out 1
                  have hfz53_2 := blk_frozen BK145.out 2
                  have hfz53_3 := blk_frozen BK145.out 3
                  have hfz53_4 := blk_frozen BK145.out 4
                  have p149 : 0 ≤ (x5_5 : Int) := of_decide_eq_true ass
                  have q149 : x5_5 < (l0_3.length : Int) := of_decide_eq_true ass
                  obtain ⟨ad149, A149_3, c149_3, A149_4, c149_4, e149, hx149_0, hx149_1, hx149_2, hx149_3, hx149_4, hl149_3, hi149_3, hl149_4, hi149_4⟩ := at_T27 HR0_3.out x5_5 p149 q149
                  cases e149
                  replace hx149_0 := cq HB hx149_0
                  replace hx149_1 := cq HB hx149_1
                  replace hx149_2 := cq HB hx149_2
                  replace hx149_3 := cq HB hx149_3
                  replace hx149_4 := cq HB hx149_4
                  have HR149_3 := Aside0.mk hi149_3
                  have HC149_3 := Aside0.mk hl149_3
                  clear hi149_3 hl149_3
                  have HR149_4 := Aside0.mk hi149_4
                  have HC149_4 := Aside0.mk hl149_4
                  clear hi149_4 hl149_4
                  replace p149 := eq_true p149
                  replace q149 := eq_true q149
                  go_wp2_with (first | ((with_reducible refine gate_callee (f := 44) rfl ?_); refine goesL_ (some 95) rfl rfl Tryz.func44 (by kernel_rfl) rfl #[.agg #[.int .i64 ((rd_T27 l0_3 x5_5).f0), .float .f64 ((rd_T27 l0_3 x5_5).f1), .string ((rd_T27 l0_3 x5_5).f2), .slice A149_3 ((rd_T27 l0_3 x5_5).f3).length c149_3, .slice A149_4 ((rd_T27 l0_3 x5_5).f4).length c149_4], .int .i64 (wrap64 (a1 - 1))] rfl am ?_; (with_reducible refine (ih k5 (by have := HJ2.out; have := HJ9.out; have := HJ33.out; have := HJ40.out; have := HK5.out; omega) ((rd_T27 l0_3 x5_5).f0) ((rd_T27 l0_3 x5_5).f1) ((rd_T27 l0_3 x5_5).f2) _ _ ((rd_T27 l0_3 x5_5).f3) _ _ ((rd_T27 l0_3 x5_5).f4) (wrap64 (a1 - 1)) true _ ?side1 ?side2 ?side3 ?side4 A51.out).mono ?_); (case side1 => exact cb HR149_3); (case side2 => exact HC149_3.out); (case side3 => exact cb HR149_4); (case side4 => exact HC149_4.out); rintro e w54 ⟨rfl, hb⟩; refine ⟨_, rfl, ?_⟩; have n0_ := bb BK145 hb; have n1_ := bes hb; clear BK145; clear HB; have BK145 := n0_; have HB := n1_; clear n0_ n1_; (try clear hb); (try clear hb2); (try clear hk); (try clear hi)))
                  go_roundg k5
                  case measure => have := HJ2.out; have := HJ9.out; have := HJ33.out; have := HJ40.out; have := HK5.out; omega
                  case rel => exact ⟨(wrap64 (x5_5 + 1)), pv, H', ⟨by have := HJ2.out; have := HJ9.out; have := HJ33.out; have := HJ40.out; have := HK5.out; omega⟩, ⟨bt⟩, ⟨bel⟩⟩
                 ·replace c52 := Bool.eq_false_iff.mpr c52
                  subst c52
                  have H1 : (some false) = some r := by rw [if_neg (show ¬ (false = true) by decide)] at H; exact H
                  clear H
                  have H := H1
                  clear H1
                  obtain rfl := Option.some.inj H
                  have hcz55_0 : wr.cell? ⟨gb145, 0, none⟩ = some (.int .i64 a0_0) := (blk_cell BK145.out 0).trans rfl
                  have hcz55_1 : wr.cell? ⟨gb145, 1, none⟩ = some (.float .f64 a0_1) := (blk_cell BK145.out 1).trans rfl
                  have hcz55_2 : wr.cell? ⟨gb145, 2, none⟩ = some (.string a0_2) := (blk_cell BK145.out 2).trans rfl
                  have hcz55_3 : wr.cell? ⟨gb145, 3, none⟩ = some (.slice A0_3 l0_3.length c0_3) := (blk_cell BK145.out 3).trans rfl
                  have hcz55_4 : wr.cell? ⟨gb145, 4, none⟩ = some (.slice A0_4 l0_4.length c0_4) := (blk_cell BK145.out 4).trans rfl
                  have hfz55_0 := blk_frozen BK145.out 0
                  have hfz55_1 := blk_frozen BK145.out 1
                  have hfz55_2 := blk_frozen BK145.out 2
                  have hfz55_3 := blk_frozen BK145.out 3
                  have hfz55_4 := blk_frozen BK145.out 4
                  have p149 : 0 ≤ (x5_5 : Int) := of_decide_eq_true ass
                  have q149 : x5_5 < (l0_3.length : Int) := of_decide_eq_true ass
                  obtain ⟨ad149, A149_3, c149_3, A149_4, c149_4, e149, hx149_0, hx149_1, hx149_2, hx149_3, hx149_4, hl149_3, hi149_3, hl149_4, hi149_4⟩ := at_T27 HR0_3.out x5_5 p149 q149
                  cases e149
                  replace hx149_0 := cq HB hx149_0
                  replace hx149_1 := cq HB hx149_1
                  replace hx149_2 := cq HB hx149_2
                  replace hx149_3 := cq HB hx149_3
                  replace hx149_4 := cq HB hx149_4
                  have HR149_3 := Aside0.mk hi149_3
                  have HC149_3 := Aside0.mk hl149_3
                  clear hi149_3 hl149_3
                  have HR149_4 := Aside0.mk hi149_4
                  have HC149_4 := Aside0.mk hl149_4
                  clear hi149_4 hl149_4
                  replace p149 := eq_true p149
                  replace q149 := eq_true q149
                  go_wp2_with (first | ((with_reducible refine gate_callee (f := 44) rfl ?_); refine goesL_ (some 95) rfl rfl Tryz.func44 (by kernel_rfl) rfl #[.agg #[.int .i64 ((rd_T27 l0_3 x5_5).f0), .float .f64 ((rd_T27 l0_3 x5_5).f1), .string ((rd_T27 l0_3 x5_5).f2), .slice A149_3 ((rd_T27 l0_3 x5_5).f3).length c149_3, .slice A149_4 ((rd_T27 l0_3 x5_5).f4).length c149_4], .int .i64 (wrap64 (a1 - 1))] rfl am ?_; (with_reducible refine (ih k5 (by have := HJ2.out; have := HJ9.out; have := HJ33.out; have := HJ40.out; have := HK5.out; omega) ((rd_T27 l0_3 x5_5).f0) ((rd_T27 l0_3 x5_5).f1) ((rd_T27 l0_3 x5_5).f2) _ _ ((rd_T27 l0_3 x5_5).f3) _ _ ((rd_T27 l0_3 x5_5).f4) (wrap64 (a1 - 1)) false _ ?side1 ?side2 ?side3 ?side4 A51.out).mono ?_); (case side1 => exact cb HR149_3); (case side2 => exact HC149_3.out); (case side3 => exact cb HR149_4); (case side4 => exact HC149_4.out); rintro e w56 ⟨rfl, hb⟩; refine ⟨_, rfl, ?_⟩; have n0_ := bb BK145 hb; have n1_ := bes hb; clear BK145; clear HB; have BK145 := n0_; have HB := n1_; clear n0_ n1_; (try clear hb); (try clear hb2); (try clear hk); (try clear hi)))
                  go_ret
                  exact fn
                ·rw [if_neg c50] at H
                 exact absurd H (by simp)
               ·rw [if_neg c49] at H
                have c49b0 : decide (x5_5 < (l0_3.length : Int)) = false := decide_eq_false c49
                clear c49
                obtain rfl := Option.some.inj H
                have hcz57_0 : wr.cell? ⟨gb145, 0, none⟩ = some (.int .i64 a0_0) := (blk_cell BK145.out 0).trans rfl
                have hcz57_1 : wr.cell? ⟨gb145, 1, none⟩ = some (.float .f64 a0_1) := (blk_cell BK145.out 1).trans rfl
                have hcz57_2 : wr.cell? ⟨gb145, 2, none⟩ = some (.string a0_2) := (blk_cell BK145.out 2).trans rfl
                have hcz57_3 : wr.cell? ⟨gb145, 3, none⟩ = some (.slice A0_3 l0_3.length c0_3) := (blk_cell BK145.out 3).trans rfl
                have hcz57_4 : wr.cell? ⟨gb145, 4, none⟩ = some (.slice A0_4 l0_4.length c0_4) := (blk_cell BK145.out 4).trans rfl
                have hfz57_0 := blk_frozen BK145.out 0
                have hfz57_1 := blk_frozen BK145.out 1
                have hfz57_2 := blk_frozen BK145.out 2
                have hfz57_3 := blk_frozen BK145.out 3
                have hfz57_4 := blk_frozen BK145.out 4
                go_wp2
                go_ret
                exact fn
end Go.Proofs.YtmpmbnmldmpmiaaGreatDoor.A
