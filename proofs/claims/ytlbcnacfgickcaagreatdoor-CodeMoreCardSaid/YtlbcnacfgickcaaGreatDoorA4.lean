/- Printed by this session's own copy of the printer (wip/tools/mkprint.py): functions, and that the Go code answers as they do. -/
import Derived.Test.YtlbcnacfgickcaaGreatDoorShort
import Derived.Test.YtlbcnacfgickcaaGreatDoorA0
import Derived.Test.YtlbcnacfgickcaaGreatDoorA2
import Derived.Test.YtlbcnacfgickcaaGreatDoorA3
import Derived.Test.YtlbcnacfgickcaaGreatDoorHandApart
namespace Go.Proofs.YtlbcnacfgickcaaGreatDoor.A
open Go.RowKit Go.Proofs.YtlbcnacfgickcaaGreatDoorW.PrintWords Go.Proofs.YtlbcnacfgickcaaGreatDoorW.PrintLast Go.Proofs.YtlbcnacfgickcaaGreatDoorW.PrintMore Go.Proofs.YtlbcnacfgickcaaGreatDoorW.Short
attribute [local go_sem] max2_int min2_int max_two min_two max_three min_three max_four min_four
set_option linter.unusedVariables false
set_option linter.unusedSimpArgs false
mutual
def vR.j1 : Nat → Int → Int → Nat → ByteArray → List (S36) → List ByteArray → Option (Bool)
 | 0, _, _, _, _, _, _ => none
 | k + 1, x1, x103000, x103001, x103002, x103003, x103004 => if x103000 = 5 then (if (x103004.length : Int) > 0 then (vR.j2 k x1 true x103000 x103001 x103002 x103003 x103004) else ((value_bare.f x103001).bind fun t107 => (if t107 = true then (vR.j2 k x1 (x103002.toList != ([] : List UInt8)) x103000 x103001 x103002 x103003 x103004) else (vR.j2 k x1 true x103000 x103001 x103002 x103003 x103004)))) else ((value_bare.f x103001).bind fun t108 => (if t108 = true then (vR.j2 k x1 (x103002.toList != ([] : List UInt8)) x103000 x103001 x103002 x103003 x103004) else (vR.j2 k x1 true x103000 x103001 x103002 x103003 x103004)))
def vR.j2 : Nat → Int → Bool → Int → Nat → ByteArray → List (S36) → List ByteArray → Option (Bool)
 | 0, _, _, _, _, _, _, _ => none
 | k + 1, x1, x110, x103000, x103001, x103002, x103003, x103004 => if x110 = true then (some false) else (vR.l0 k x1 x103003 (x103003.length : Int) 0)
def vR.l0 : Nat → Int → List (S36) → Int → Int → Option (Bool)
 | 0, _, _, _, _ => none
 | k + 1, x1, x112, x113, x114 => if x114 < x113 then (if 0 ≤ x114 then (if x114 < (x112.length : Int) then ((vR.f k ((rd_T36 x112 x114).f0) ((rd_T36 x112 x114).f1) ((rd_T36 x112 x114).f2) ((rd_T36 x112 x114).f3) ((rd_T36 x112 x114).f4) (wrap64 (x1 - 1))).bind fun t111 => (if t111 = true then (vR.l0 k x1 x112 x113 (wrap64 (x114 + 1))) else (some false))) else (none)) else (none)) else (some true)
def vR.j0 : Nat → Int → Int → Bool → Int → Nat → ByteArray → List (S36) → List ByteArray → Option (Bool)
 | 0, _, _, _, _, _, _, _, _ => none
 | k + 1, x1, x10, x11, x103000, x103001, x103002, x103003, x103004 => if x11 = true then ((value_bare.f x103001).bind fun t103 => (if t103 = true then (if x103002.toList = ([] : List UInt8) then (if (x103003.length : Int) = 0 then (some ((x103004.length : Int) == 0)) else (some false)) else (some false)) else (some false))) else (if x10 = 3 then (if x103002.toList = ([] : List UInt8) then (if (x103003.length : Int) = 0 then (some ((x103004.length : Int) == 0)) else (some false)) else (some false)) else (if x10 = 4 then ((value_bare.f x103001).bind fun t105 => (if t105 = true then ((runes_Valid.f x103002).bind fun t106 => (if t106 = true then (if (x103003.length : Int) = 0 then (some ((x103004.length : Int) == 0)) else (some false)) else (some false))) else (some false))) else (if x10 = 6 then (if (x103004.length : Int) = (x103003.length : Int) then ((value_apart.f x103004).bind fun t104 => (if t104 = true then (vR.j1 k x1 x103000 x103001 x103002 x103003 x103004) else (some false))) else (some false)) else (if x10 = 5 then (vR.j1 k x1 x103000 x103001 x103002 x103003 x103004) else (some false)))))
def vR.f : Nat → Int → Nat → ByteArray → List (S36) → List ByteArray → Int → Option (Bool)
 | 0, _, _, _, _, _, _ => none
 | k + 1, a0_0, a0_1, a0_2, l0_3, l0_4, a1 => if a1 = 0 then (some false) else (if a0_0 = 0 then (vR.j0 k a1 a0_0 (a0_0 == 0) a0_0 a0_1 a0_2 l0_3 l0_4) else (if a0_0 = 1 then (vR.j0 k a1 a0_0 (a0_0 == 1) a0_0 a0_1 a0_2 l0_3 l0_4) else (vR.j0 k a1 a0_0 (a0_0 == 2) a0_0 a0_1 a0_2 l0_3 l0_4)))
end
set_option maxHeartbeats 8000000 in
set_option maxRecDepth 100000 in
theorem vR.calls (k : Nat) : ∀ (a0_0 : Int) (a0_1 : Nat) (a0_2 : ByteArray) (A0_3 : Option Addr) (c0_3 : Nat) (l0_3 : List (S36)) (A0_4 : Option Addr) (c0_4 : Nat) (l0_4 : List ByteArray) (a1 : Int) (r : Bool) (w : World) (hr0_3 : Kd.C k36 w A0_3 l0_3.length l0_3) (hc0_3 : l0_3.length ≤ c0_3) (hr0_4 : Kd.C Kd.string w A0_4 l0_4.length l0_4) (hc0_4 : l0_4.length ≤ c0_4) (hT : Tabs w) (h : vR.f k a0_0 a0_1 a0_2 l0_3 l0_4 a1 = some r),
  Calls Tryz.prog 41 #[.agg #[.int .i64 a0_0, .float .f64 a0_1, .string a0_2, .slice A0_3 l0_3.length c0_3, .slice A0_4 l0_4.length c0_4], .int .i64 a1] w fun e w' => e = .returned (.bool r) ∧ Below w.heap.size w w' := by
 induction k using Nat.strongRecOn with
 | _ k ih =>
 intro a0_0 a0_1 a0_2 A0_3 c0_3 l0_3 A0_4 c0_4 l0_4 a1 r w hr0_3 hc0_3 hr0_4 hc0_4 hT h
 cases k with
 | zero => exact absurd h (by simp [vR.f])
 | succ k =>
 simp only [vR.f] at h
 have hu36 := Tryz.underlying36
 have HR0_3 := Ae.mk hr0_3
 have HC0_3 := Ae.mk hc0_3
 clear hr0_3 hc0_3
 have HR0_4 := Ae.mk hr0_4
 have HC0_4 := Ae.mk hc0_4
 clear hr0_4 hc0_4
 have HB := Ae.mk (Below.refl w.heap.size w)
 have H : (if a1 = 0 then (some false) else (if a0_0 = 0 then (vR.j0 k a1 a0_0 (a0_0 == 0) a0_0 a0_1 a0_2 l0_3 l0_4) else (if a0_0 = 1 then (vR.j0 k a1 a0_0 (a0_0 == 1) a0_0 a0_1 a0_2 l0_3 l0_4) else (vR.j0 k a1 a0_0 (a0_0 == 2) a0_0 a0_1 a0_2 l0_3 l0_4)))) = some r := h
 clear h
 by_cases c3 : a1 = 0
 ·rw [if_pos c3] at H
  have c3b0 : (a1 == 0) = true := beq_iff_eq.mpr c3
  have c3b1 : (a1 != 0) = false := bne_eq_false_iff_eq.mpr c3
  clear c3
  obtain rfl := Option.some.inj H
  go_enter Tryz.func41, Tryz.ntmps41
  go_wp2_with (first | ((with_reducible refine gD (N := 2) rfl ?_); (try (refine gate_guard (by rfl) ?_; dsimp only)); refine bE ?hg (N := 2) ?hd (cs := #[.int .i64 a0_0, .float .f64 a0_1, .string a0_2, .slice A0_3 l0_3.length c0_3, .slice A0_4 l0_4.length c0_4]) (t := 36) ?hr ?_; (case hd => rfl); (case hg => rfl); (case hr => first | (go_simp; done) | (go_simp; rfl)); intro gb102 hg w4 hbox hb; have n0_ := bes hb; have n1_ := Ae.mk (hbox); have n2_ := Ae.mk ((bez hg : w.heap.size ≤ gb102)); have n3_ := Ae.mk ((bez hg : w.heap.size ≤ gb102)); clear HB; have HB := n0_; have BK102 := n1_; have GW102 := n2_; have GE102 := n3_; clear n0_ n1_ n2_ n3_; clear hb hbox hg))
  go_ret
  exact fn
 ·rw [if_neg c3] at H
  have c3b0 : (a1 == 0) = false := beq_eq_false_iff_ne.mpr c3
  have c3b1 : (a1 != 0) = true := bne_iff_ne.mpr c3
  have HC5 := Ae.mk H
  clear H
  go_enter Tryz.func41, Tryz.ntmps41
  go_upto_block 5 with (first | ((with_reducible refine gD (N := 2) rfl ?_); (try (refine gate_guard (by rfl) ?_; dsimp only)); refine bE ?hg (N := 2) ?hd (cs := #[.int .i64 a0_0, .float .f64 a0_1, .string a0_2, .slice A0_3 l0_3.length c0_3, .slice A0_4 l0_4.length c0_4]) (t := 36) ?hr ?_; (case hd => rfl); (case hg => rfl); (case hr => first | (go_simp; done) | (go_simp; rfl)); intro gb102 hg w6 hbox hb; have n0_ := bes hb; have n1_ := Ae.mk (hbox); have n2_ := Ae.mk ((bez hg : w.heap.size ≤ gb102)); have n3_ := Ae.mk ((bez hg : w.heap.size ≤ gb102)); clear HB; have HB := n0_; have BK102 := n1_; have GW102 := n2_; have GE102 := n3_; clear n0_ n1_ n2_ n3_; clear hb hbox hg; have hcz7_0 : w6.cell? ⟨gb102, 0, none⟩ = some (.int .i64 a0_0) := (bC BK102.out 0).trans rfl; have hcz7_1 : w6.cell? ⟨gb102, 1, none⟩ = some (.float .f64 a0_1) := (bC BK102.out 1).trans rfl; have hcz7_2 : w6.cell? ⟨gb102, 2, none⟩ = some (.string a0_2) := (bC BK102.out 2).trans rfl; have hcz7_3 : w6.cell? ⟨gb102, 3, none⟩ = some (.slice A0_3 l0_3.length c0_3) := (bC BK102.out 3).trans rfl; have hcz7_4 : w6.cell? ⟨gb102, 4, none⟩ = some (.slice A0_4 l0_4.length c0_4) := (bC BK102.out 4).trans rfl; have hfz7_0 := bF BK102.out 0; have hfz7_1 := bF BK102.out 1; have hfz7_2 := bF BK102.out 2; have hfz7_3 := bF BK102.out 3; have hfz7_4 := bF BK102.out 4))
  (try simp only [Act.put, List.setIfInBounds_toArray, List.set_cons_zero, List.set_cons_succ])
  go_cut [] (fun wc => ∃ (kq : Nat), Ae (vR.j1 kq a1 a0_0 a0_1 a0_2 l0_3 l0_4 = some r) ∧ Ae (kq ≤ k) ∧ Ae (wc.heap[gb102]? = some (.cells #[.int .i64 a0_0, .float .f64 a0_1, .string a0_2, (.slice A0_3 l0_3.length c0_3), (.slice A0_4 l0_4.length c0_4)] 36 (0, 0))) ∧ Ae (Below w.heap.size w wc))
  case first =>
   have H := HC5.out
   clear HC5
   have HC8 := Ae.mk H
   clear H
   go_upto_if 11 with (fail)
   go_cut [11] (fun v11 wc => ∃ (kq : Nat) (x11_7 : Bool), v11 = .bool x11_7 ∧ Ae (vR.j0 kq a1 a0_0 x11_7 a0_0 a0_1 a0_2 l0_3 l0_4 = some r) ∧ Ae (kq ≤ k) ∧ Ae (wc.heap[gb102]? = some (.cells #[.int .i64 a0_0, .float .f64 a0_1, .string a0_2, (.slice A0_3 l0_3.length c0_3), (.slice A0_4 l0_4.length c0_4)] 36 (0, 0))) ∧ Ae (Below w.heap.size w wc))
   case first =>
    have H := HC8.out
    clear HC8
    by_cases c9 : a0_0 = 0
    ·rw [if_pos c9] at H
     have c9b0 : (a0_0 == 0) = true := beq_iff_eq.mpr c9
     have c9b1 : (a0_0 != 0) = false := bne_eq_false_iff_eq.mpr c9
     clear c9
     (first | rw [c9b0] | (simp only [i64_w, i32_w]; rw [c9b0]) | skip)
     have H' := Ae.mk H
     clear H
     go_wp2
     go_meet
     case rel => exact ⟨_, ((a0_0 == 0)), pv, H', ⟨by first | omega | exact Nat.le_refl _⟩, ⟨bt⟩, ⟨bel⟩⟩
    ·rw [if_neg c9] at H
     have c9b0 : (a0_0 == 0) = false := beq_eq_false_iff_ne.mpr c9
     have c9b1 : (a0_0 != 0) = true := bne_iff_ne.mpr c9
     (first | rw [c9b0] | (simp only [i64_w, i32_w]; rw [c9b0]) | skip)
     by_cases c10 : a0_0 = 1
     ·rw [if_pos c10] at H
      have c10b0 : (a0_0 == 1) = true := beq_iff_eq.mpr c10
      have c10b1 : (a0_0 != 1) = false := bne_eq_false_iff_eq.mpr c10
      clear c10
      have H' := Ae.mk H
      clear H
      go_wp2
      go_meet
      case rel => exact ⟨_, ((a0_0 == 1)), pv, H', ⟨by first | omega | exact Nat.le_refl _⟩, ⟨bt⟩, ⟨bel⟩⟩
     ·rw [if_neg c10] at H
      have c10b0 : (a0_0 == 1) = false := beq_eq_false_iff_ne.mpr c10
      have c10b1 : (a0_0 != 1) = true := bne_iff_ne.mpr c10
      have H' := Ae.mk H
      clear H
      go_wp2
      go_meet
      case rel => exact ⟨_, ((a0_0 == 2)), pv, H', ⟨by first | omega | exact Nat.le_refl _⟩, ⟨bt⟩, ⟨bel⟩⟩
   case rest =>
    clear HC8
    obtain ⟨kq, x11_7, rfl, HA, HJ7, BK102, HB⟩ := hcut
    cases kq with
    | zero => exact absurd HA.out (by simp [vR.j0])
    | succ kj7 =>
     have H := HA.out
     clear HA
     simp only [vR.j0] at H
     by_cases c11 : x11_7 = true
     ·subst c11
      have H1 : ((value_bare.f a0_1).bind fun t103 => (if t103 = true then (if a0_2.toList = ([] : List UInt8) then (if (l0_3.length : Int) = 0 then (some ((l0_4.length : Int) == 0)) else (some false)) else (some false)) else (some false))) = some r := by rw [if_pos rfl] at H; exact H
      clear H
      have H := H1
      clear H1
      replace H := Option.bind_eq_some_iff.mp H
      obtain ⟨t103, A120, H⟩ := H
      replace H : (if t103 = true then (if a0_2.toList = ([] : List UInt8) then (if (l0_3.length : Int) = 0 then (some ((l0_4.length : Int) == 0)) else (some false)) else (some false)) else (some false)) = some r := H
      have A12 := Ae.mk A120
      clear A120
      by_cases c13 : t103 = true
      ·subst c13
       have H1 : (if a0_2.toList = ([] : List UInt8) then (if (l0_3.length : Int) = 0 then (some ((l0_4.length : Int) == 0)) else (some false)) else (some false)) = some r := by rw [if_pos rfl] at H; exact H
       clear H
       have H := H1
       clear H1
       by_cases c14 : a0_2.toList = ([] : List UInt8)
       ·rw [if_pos c14] at H
        have c14b0 : (a0_2.toList == ([] : List UInt8)) = true := beq_iff_eq.mpr c14
        have c14b1 : (a0_2.toList != ([] : List UInt8)) = false := bne_eq_false_iff_eq.mpr c14
        clear c14
        by_cases c15 : (l0_3.length : Int) = 0
        ·rw [if_pos c15] at H
         have c15b0 : ((l0_3.length : Int) == 0) = true := beq_iff_eq.mpr c15
         have c15b1 : ((l0_3.length : Int) != 0) = false := bne_eq_false_iff_eq.mpr c15
         clear c15
         obtain rfl := Option.some.inj H
         have hcz16_0 : wc.cell? ⟨gb102, 0, none⟩ = some (.int .i64 a0_0) := (bC BK102.out 0).trans rfl
         have hcz16_1 : wc.cell? ⟨gb102, 1, none⟩ = some (.float .f64 a0_1) := (bC BK102.out 1).trans rfl
         have hcz16_2 : wc.cell? ⟨gb102, 2, none⟩ = some (.string a0_2) := (bC BK102.out 2).trans rfl
         have hcz16_3 : wc.cell? ⟨gb102, 3, none⟩ = some (.slice A0_3 l0_3.length c0_3) := (bC BK102.out 3).trans rfl
         have hcz16_4 : wc.cell? ⟨gb102, 4, none⟩ = some (.slice A0_4 l0_4.length c0_4) := (bC BK102.out 4).trans rfl
         have hfz16_0 := bF BK102.out 0
         have hfz16_1 := bF BK102.out 1
         have hfz16_2 := bF BK102.out 2
         have hfz16_3 := bF BK102.out 3
         have hfz16_4 := bF BK102.out 4
         go_wp2_with (first | ((with_reducible refine gate_callee (f := 69) rfl ?_); refine goesL_ (some 25) rfl rfl Tryz.func69 (by kernel_rfl) rfl #[.float .f64 a0_1] rfl am ?_; (with_reducible refine (value_bare.calls a0_1 true _ A12.out).mono ?_); rintro e w' ⟨rfl, ⟨nd, rfl⟩⟩; refine ⟨_, rfl, ?_⟩))
         go_ret
         exact fn
        ·rw [if_neg c15] at H
         have c15b0 : ((l0_3.length : Int) == 0) = false := beq_eq_false_iff_ne.mpr c15
         have c15b1 : ((l0_3.length : Int) != 0) = true := bne_iff_ne.mpr c15
         have c15b2 : ¬ (l0_3 = []) := fun h_ => c15 (by rw [h_]; rfl)
         obtain rfl := Option.some.inj H
         have hcz17_0 : wc.cell? ⟨gb102, 0, none⟩ = some (.int .i64 a0_0) := (bC BK102.out 0).trans rfl
         have hcz17_1 : wc.cell? ⟨gb102, 1, none⟩ = some (.float .f64 a0_1) := (bC BK102.out 1).trans rfl
         have hcz17_2 : wc.cell? ⟨gb102, 2, none⟩ = some (.string a0_2) := (bC BK102.out 2).trans rfl
         have hcz17_3 : wc.cell? ⟨gb102, 3, none⟩ = some (.slice A0_3 l0_3.length c0_3) := (bC BK102.out 3).trans rfl
         have hcz17_4 : wc.cell? ⟨gb102, 4, none⟩ = some (.slice A0_4 l0_4.length c0_4) := (bC BK102.out 4).trans rfl
         have hfz17_0 := bF BK102.out 0
         have hfz17_1 := bF BK102.out 1
         have hfz17_2 := bF BK102.out 2
         have hfz17_3 := bF BK102.out 3
         have hfz17_4 := bF BK102.out 4
         go_wp2_with (first | ((with_reducible refine gate_callee (f := 69) rfl ?_); refine goesL_ (some 25) rfl rfl Tryz.func69 (by kernel_rfl) rfl #[.float .f64 a0_1] rfl am ?_; (with_reducible refine (value_bare.calls a0_1 true _ A12.out).mono ?_); rintro e w' ⟨rfl, ⟨nd, rfl⟩⟩; refine ⟨_, rfl, ?_⟩))
         go_ret
         exact fn
       ·rw [if_neg c14] at H
        have c14b0 : (a0_2.toList == ([] : List UInt8)) = false := beq_eq_false_iff_ne.mpr c14
        have c14b1 : (a0_2.toList != ([] : List UInt8)) = true := bne_iff_ne.mpr c14
        obtain rfl := Option.some.inj H
        have hcz18_0 : wc.cell? ⟨gb102, 0, none⟩ = some (.int .i64 a0_0) := (bC BK102.out 0).trans rfl
        have hcz18_1 : wc.cell? ⟨gb102, 1, none⟩ = some (.float .f64 a0_1) := (bC BK102.out 1).trans rfl
        have hcz18_2 : wc.cell? ⟨gb102, 2, none⟩ = some (.string a0_2) := (bC BK102.out 2).trans rfl
        have hcz18_3 : wc.cell? ⟨gb102, 3, none⟩ = some (.slice A0_3 l0_3.length c0_3) := (bC BK102.out 3).trans rfl
        have hcz18_4 : wc.cell? ⟨gb102, 4, none⟩ = some (.slice A0_4 l0_4.length c0_4) := (bC BK102.out 4).trans rfl
        have hfz18_0 := bF BK102.out 0
        have hfz18_1 := bF BK102.out 1
        have hfz18_2 := bF BK102.out 2
        have hfz18_3 := bF BK102.out 3
        have hfz18_4 := bF BK102.out 4
        go_wp2_with (first | ((with_reducible refine gate_callee (f := 69) rfl ?_); refine goesL_ (some 25) rfl rfl Tryz.func69 (by kernel_rfl) rfl #[.float .f64 a0_1] rfl am ?_; (with_reducible refine (value_bare.calls a0_1 true _ A12.out).mono ?_); rintro e w' ⟨rfl, ⟨nd, rfl⟩⟩; refine ⟨_, rfl, ?_⟩))
        go_ret
        exact fn
      ·replace c13 := Bool.eq_false_iff.mpr c13
       subst c13
       have H1 : (some false) = some r := by rw [if_neg (show ¬ (false = true) by decide)] at H; exact H
       clear H
       have H := H1
       clear H1
       obtain rfl := Option.some.inj H
       have hcz19_0 : wc.cell? ⟨gb102, 0, none⟩ = some (.int .i64 a0_0) := (bC BK102.out 0).trans rfl
       have hcz19_1 : wc.cell? ⟨gb102, 1, none⟩ = some (.float .f64 a0_1) := (bC BK102.out 1).trans rfl
       have hcz19_2 : wc.cell? ⟨gb102, 2, none⟩ = some (.string a0_2) := (bC BK102.out 2).trans rfl
       have hcz19_3 : wc.cell? ⟨gb102, 3, none⟩ = some (.slice A0_3 l0_3.length c0_3) := (bC BK102.out 3).trans rfl
       have hcz19_4 : wc.cell? ⟨gb102, 4, none⟩ = some (.slice A0_4 l0_4.length c0_4) := (bC BK102.out 4).trans rfl
       have hfz19_0 := bF BK102.out 0
       have hfz19_1 := bF BK102.out 1
       have hfz19_2 := bF BK102.out 2
       have hfz19_3 := bF BK102.out 3
       have hfz19_4 := bF BK102.out 4
       go_wp2_with (first | ((with_reducible refine gate_callee (f := 69) rfl ?_); refine goesL_ (some 25) rfl rfl Tryz.func69 (by kernel_rfl) rfl #[.float .f64 a0_1] rfl am ?_; (with_reducible refine (value_bare.calls a0_1 false _ A12.out).mono ?_); rintro e w' ⟨rfl, ⟨nd, rfl⟩⟩; refine ⟨_, rfl, ?_⟩))
       go_ret
       exact fn
     ·replace c11 := Bool.eq_false_iff.mpr c11
      subst c11
      have H1 : (if a0_0 = 3 then (if a0_2.toList = ([] : List UInt8) then (if (l0_3.length : Int) = 0 then (some ((l0_4.length : Int) == 0)) else (some false)) else (some false)) else (if a0_0 = 4 then ((value_bare.f a0_1).bind fun t105 => (if t105 = true then ((runes_Valid.f a0_2).bind fun t106 => (if t106 = true then (if (l0_3.length : Int) = 0 then (some ((l0_4.length : Int) == 0)) else (some false)) else (some false))) else (some false))) else (if a0_0 = 6 then (if (l0_4.length : Int) = (l0_3.length : Int) then ((value_apart.f l0_4).bind fun t104 => (if t104 = true then (vR.j1 kj7 a1 a0_0 a0_1 a0_2 l0_3 l0_4) else (some false))) else (some false)) else (if a0_0 = 5 then (vR.j1 kj7 a1 a0_0 a0_1 a0_2 l0_3 l0_4) else (some false))))) = some r := by rw [if_neg (show ¬ (false = true) by decide)] at H; exact H
      clear H
      have H := H1
      clear H1
      by_cases c20 : a0_0 = 3
      ·rw [if_pos c20] at H
       have c20b0 : (a0_0 == 3) = true := beq_iff_eq.mpr c20
       have c20b1 : (a0_0 != 3) = false := bne_eq_false_iff_eq.mpr c20
       clear c20
       by_cases c21 : a0_2.toList = ([] : List UInt8)
       ·rw [if_pos c21] at H
        have c21b0 : (a0_2.toList == ([] : List UInt8)) = true := beq_iff_eq.mpr c21
        have c21b1 : (a0_2.toList != ([] : List UInt8)) = false := bne_eq_false_iff_eq.mpr c21
        clear c21
        by_cases c22 : (l0_3.length : Int) = 0
        ·rw [if_pos c22] at H
         have c22b0 : ((l0_3.length : Int) == 0) = true := beq_iff_eq.mpr c22
         have c22b1 : ((l0_3.length : Int) != 0) = false := bne_eq_false_iff_eq.mpr c22
         clear c22
         obtain rfl := Option.some.inj H
         have hcz23_0 : wc.cell? ⟨gb102, 0, none⟩ = some (.int .i64 a0_0) := (bC BK102.out 0).trans rfl
         have hcz23_1 : wc.cell? ⟨gb102, 1, none⟩ = some (.float .f64 a0_1) := (bC BK102.out 1).trans rfl
         have hcz23_2 : wc.cell? ⟨gb102, 2, none⟩ = some (.string a0_2) := (bC BK102.out 2).trans rfl
         have hcz23_3 : wc.cell? ⟨gb102, 3, none⟩ = some (.slice A0_3 l0_3.length c0_3) := (bC BK102.out 3).trans rfl
         have hcz23_4 : wc.cell? ⟨gb102, 4, none⟩ = some (.slice A0_4 l0_4.length c0_4) := (bC BK102.out 4).trans rfl
         have hfz23_0 := bF BK102.out 0
         have hfz23_1 := bF BK102.out 1
         have hfz23_2 := bF BK102.out 2
         have hfz23_3 := bF BK102.out 3
         have hfz23_4 := bF BK102.out 4
         go_wp2
         go_ret
         exact fn
        ·rw [if_neg c22] at H
         have c22b0 : ((l0_3.length : Int) == 0) = false := beq_eq_false_iff_ne.mpr c22
         have c22b1 : ((l0_3.length : Int) != 0) = true := bne_iff_ne.mpr c22
         have c22b2 : ¬ (l0_3 = []) := fun h_ => c22 (by rw [h_]; rfl)
         obtain rfl := Option.some.inj H
         have hcz24_0 : wc.cell? ⟨gb102, 0, none⟩ = some (.int .i64 a0_0) := (bC BK102.out 0).trans rfl
         have hcz24_1 : wc.cell? ⟨gb102, 1, none⟩ = some (.float .f64 a0_1) := (bC BK102.out 1).trans rfl
         have hcz24_2 : wc.cell? ⟨gb102, 2, none⟩ = some (.string a0_2) := (bC BK102.out 2).trans rfl
         have hcz24_3 : wc.cell? ⟨gb102, 3, none⟩ = some (.slice A0_3 l0_3.length c0_3) := (bC BK102.out 3).trans rfl
         have hcz24_4 : wc.cell? ⟨gb102, 4, none⟩ = some (.slice A0_4 l0_4.length c0_4) := (bC BK102.out 4).trans rfl
         have hfz24_0 := bF BK102.out 0
         have hfz24_1 := bF BK102.out 1
         have hfz24_2 := bF BK102.out 2
         have hfz24_3 := bF BK102.out 3
         have hfz24_4 := bF BK102.out 4
         go_wp2
         go_ret
         exact fn
       ·rw [if_neg c21] at H
        have c21b0 : (a0_2.toList == ([] : List UInt8)) = false := beq_eq_false_iff_ne.mpr c21
        have c21b1 : (a0_2.toList != ([] : List UInt8)) = true := bne_iff_ne.mpr c21
        obtain rfl := Option.some.inj H
        have hcz25_0 : wc.cell? ⟨gb102, 0, none⟩ = some (.int .i64 a0_0) := (bC BK102.out 0).trans rfl
        have hcz25_1 : wc.cell? ⟨gb102, 1, none⟩ = some (.float .f64 a0_1) := (bC BK102.out 1).trans rfl
        have hcz25_2 : wc.cell? ⟨gb102, 2, none⟩ = some (.string a0_2) := (bC BK102.out 2).trans rfl
        have hcz25_3 : wc.cell? ⟨gb102, 3, none⟩ = some (.slice A0_3 l0_3.length c0_3) := (bC BK102.out 3).trans rfl
        have hcz25_4 : wc.cell? ⟨gb102, 4, none⟩ = some (.slice A0_4 l0_4.length c0_4) := (bC BK102.out 4).trans rfl
        have hfz25_0 := bF BK102.out 0
        have hfz25_1 := bF BK102.out 1
        have hfz25_2 := bF BK102.out 2
        have hfz25_3 := bF BK102.out 3
        have hfz25_4 := bF BK102.out 4
        go_wp2
        go_ret
        exact fn
      ·rw [if_neg c20] at H
       have c20b0 : (a0_0 == 3) = false := beq_eq_false_iff_ne.mpr c20
       have c20b1 : (a0_0 != 3) = true := bne_iff_ne.mpr c20
       by_cases c26 : a0_0 = 4
       ·rw [if_pos c26] at H
        have c26b0 : (a0_0 == 4) = true := beq_iff_eq.mpr c26
        have c26b1 : (a0_0 != 4) = false := bne_eq_false_iff_eq.mpr c26
        clear c26
        replace H := Option.bind_eq_some_iff.mp H
        obtain ⟨t105, A270, H⟩ := H
        replace H : (if t105 = true then ((runes_Valid.f a0_2).bind fun t106 => (if t106 = true then (if (l0_3.length : Int) = 0 then (some ((l0_4.length : Int) == 0)) else (some false)) else (some false))) else (some false)) = some r := H
        have A27 := Ae.mk A270
        clear A270
        by_cases c28 : t105 = true
        ·subst c28
         have H1 : ((runes_Valid.f a0_2).bind fun t106 => (if t106 = true then (if (l0_3.length : Int) = 0 then (some ((l0_4.length : Int) == 0)) else (some false)) else (some false))) = some r := by rw [if_pos rfl] at H; exact H
         clear H
         have H := H1
         clear H1
         replace H := Option.bind_eq_some_iff.mp H
         obtain ⟨t106, A290, H⟩ := H
         replace H : (if t106 = true then (if (l0_3.length : Int) = 0 then (some ((l0_4.length : Int) == 0)) else (some false)) else (some false)) = some r := H
         have A29 := Ae.mk A290
         clear A290
         by_cases c30 : t106 = true
         ·subst c30
          have H1 : (if (l0_3.length : Int) = 0 then (some ((l0_4.length : Int) == 0)) else (some false)) = some r := by rw [if_pos rfl] at H; exact H
          clear H
          have H := H1
          clear H1
          by_cases c31 : (l0_3.length : Int) = 0
          ·rw [if_pos c31] at H
           have c31b0 : ((l0_3.length : Int) == 0) = true := beq_iff_eq.mpr c31
           have c31b1 : ((l0_3.length : Int) != 0) = false := bne_eq_false_iff_eq.mpr c31
           clear c31
           obtain rfl := Option.some.inj H
           have hcz32_0 : wc.cell? ⟨gb102, 0, none⟩ = some (.int .i64 a0_0) := (bC BK102.out 0).trans rfl
           have hcz32_1 : wc.cell? ⟨gb102, 1, none⟩ = some (.float .f64 a0_1) := (bC BK102.out 1).trans rfl
           have hcz32_2 : wc.cell? ⟨gb102, 2, none⟩ = some (.string a0_2) := (bC BK102.out 2).trans rfl
           have hcz32_3 : wc.cell? ⟨gb102, 3, none⟩ = some (.slice A0_3 l0_3.length c0_3) := (bC BK102.out 3).trans rfl
           have hcz32_4 : wc.cell? ⟨gb102, 4, none⟩ = some (.slice A0_4 l0_4.length c0_4) := (bC BK102.out 4).trans rfl
           have hfz32_0 := bF BK102.out 0
           have hfz32_1 := bF BK102.out 1
           have hfz32_2 := bF BK102.out 2
           have hfz32_3 := bF BK102.out 3
           have hfz32_4 := bF BK102.out 4
           go_wp2_with (first | ((with_reducible refine gate_callee (f := 69) rfl ?_); refine goesL_ (some 60) rfl rfl Tryz.func69 (by kernel_rfl) rfl #[.float .f64 a0_1] rfl am ?_; (with_reducible refine (value_bare.calls a0_1 true _ A27.out).mono ?_); rintro e w' ⟨rfl, ⟨nd, rfl⟩⟩; refine ⟨_, rfl, ?_⟩) | (go_at_call 70; (with_reducible refine (runes_Valid.calls a0_2 true _ ?side1 A29.out).mono ?_); (case side1 => first | exact hT | exact tabs_below hT bel); rintro e w33 ⟨rfl, hb⟩; have n0_ := bb BK102 hb; have n1_ := bes hb; clear BK102; clear HB; have BK102 := n0_; have HB := n1_; clear n0_ n1_; (try clear hb); (try clear hb2); (try clear hk); (try clear hi); have hcz34_0 : w33.cell? ⟨gb102, 0, none⟩ = some (.int .i64 a0_0) := (bC BK102.out 0).trans rfl; have hcz34_1 : w33.cell? ⟨gb102, 1, none⟩ = some (.float .f64 a0_1) := (bC BK102.out 1).trans rfl; have hcz34_2 : w33.cell? ⟨gb102, 2, none⟩ = some (.string a0_2) := (bC BK102.out 2).trans rfl; have hcz34_3 : w33.cell? ⟨gb102, 3, none⟩ = some (.slice A0_3 l0_3.length c0_3) := (bC BK102.out 3).trans rfl; have hcz34_4 : w33.cell? ⟨gb102, 4, none⟩ = some (.slice A0_4 l0_4.length c0_4) := (bC BK102.out 4).trans rfl; have hfz34_0 := bF BK102.out 0; have hfz34_1 := bF BK102.out 1; have hfz34_2 := bF BK102.out 2; have hfz34_3 := bF BK102.out 3; have hfz34_4 := bF BK102.out 4))
           go_ret
           exact fn
          ·rw [if_neg c31] at H
           have c31b0 : ((l0_3.length : Int) == 0) = false := beq_eq_false_iff_ne.mpr c31
           have c31b1 : ((l0_3.length : Int) != 0) = true := bne_iff_ne.mpr c31
           have c31b2 : ¬ (l0_3 = []) := fun h_ => c31 (by rw [h_]; rfl)
           obtain rfl := Option.some.inj H
           have hcz35_0 : wc.cell? ⟨gb102, 0, none⟩ = some (.int .i64 a0_0) := (bC BK102.out 0).trans rfl
           have hcz35_1 : wc.cell? ⟨gb102, 1, none⟩ = some (.float .f64 a0_1) := (bC BK102.out 1).trans rfl
           have hcz35_2 : wc.cell? ⟨gb102, 2, none⟩ = some (.string a0_2) := (bC BK102.out 2).trans rfl
           have hcz35_3 : wc.cell? ⟨gb102, 3, none⟩ = some (.slice A0_3 l0_3.length c0_3) := (bC BK102.out 3).trans rfl
           have hcz35_4 : wc.cell? ⟨gb102, 4, none⟩ = some (.slice A0_4 l0_4.length c0_4) := (bC BK102.out 4).trans rfl
           have hfz35_0 := bF BK102.out 0
           have hfz35_1 := bF BK102.out 1
           have hfz35_2 := bF BK102.out 2
           have hfz35_3 := bF BK102.out 3
           have hfz35_4 := bF BK102.out 4
           go_wp2_with (first | ((with_reducible refine gate_callee (f := 69) rfl ?_); refine goesL_ (some 60) rfl rfl Tryz.func69 (by kernel_rfl) rfl #[.float .f64 a0_1] rfl am ?_; (with_reducible refine (value_bare.calls a0_1 true _ A27.out).mono ?_); rintro e w' ⟨rfl, ⟨nd, rfl⟩⟩; refine ⟨_, rfl, ?_⟩) | (go_at_call 70; (with_reducible refine (runes_Valid.calls a0_2 true _ ?side1 A29.out).mono ?_); (case side1 => first | exact hT | exact tabs_below hT bel); rintro e w36 ⟨rfl, hb⟩; have n0_ := bb BK102 hb; have n1_ := bes hb; clear BK102; clear HB; have BK102 := n0_; have HB := n1_; clear n0_ n1_; (try clear hb); (try clear hb2); (try clear hk); (try clear hi); have hcz37_0 : w36.cell? ⟨gb102, 0, none⟩ = some (.int .i64 a0_0) := (bC BK102.out 0).trans rfl; have hcz37_1 : w36.cell? ⟨gb102, 1, none⟩ = some (.float .f64 a0_1) := (bC BK102.out 1).trans rfl; have hcz37_2 : w36.cell? ⟨gb102, 2, none⟩ = some (.string a0_2) := (bC BK102.out 2).trans rfl; have hcz37_3 : w36.cell? ⟨gb102, 3, none⟩ = some (.slice A0_3 l0_3.length c0_3) := (bC BK102.out 3).trans rfl; have hcz37_4 : w36.cell? ⟨gb102, 4, none⟩ = some (.slice A0_4 l0_4.length c0_4) := (bC BK102.out 4).trans rfl; have hfz37_0 := bF BK102.out 0; have hfz37_1 := bF BK102.out 1; have hfz37_2 := bF BK102.out 2; have hfz37_3 := bF BK102.out 3; have hfz37_4 := bF BK102.out 4))
           go_ret
           exact fn
         ·replace c30 := Bool.eq_false_iff.mpr c30
          subst c30
          have H1 : (some false) = some r := by rw [if_neg (show ¬ (false = true) by decide)] at H; exact H
          clear H
          have H := H1
          clear H1
          obtain rfl := Option.some.inj H
          have hcz38_0 : wc.cell? ⟨gb102, 0, none⟩ = some (.int .i64 a0_0) := (bC BK102.out 0).trans rfl
          have hcz38_1 : wc.cell? ⟨gb102, 1, none⟩ = some (.float .f64 a0_1) := (bC BK102.out 1).trans rfl
          have hcz38_2 : wc.cell? ⟨gb102, 2, none⟩ = some (.string a0_2) := (bC BK102.out 2).trans rfl
          have hcz38_3 : wc.cell? ⟨gb102, 3, none⟩ = some (.slice A0_3 l0_3.length c0_3) := (bC BK102.out 3).trans rfl
          have hcz38_4 : wc.cell? ⟨gb102, 4, none⟩ = some (.slice A0_4 l0_4.length c0_4) := (bC BK102.out 4).trans rfl
          have hfz38_0 := bF BK102.out 0
          have hfz38_1 := bF BK102.out 1
          have hfz38_2 := bF BK102.out 2
          have hfz38_3 := bF BK102.out 3
          have hfz38_4 := bF BK102.out 4
          go_wp2_with (first | ((with_reducible refine gate_callee (f := 69) rfl ?_); refine goesL_ (some 60) rfl rfl Tryz.func69 (by kernel_rfl) rfl #[.float .f64 a0_1] rfl am ?_; (with_reducible refine (value_bare.calls a0_1 true _ A27.out).mono ?_); rintro e w' ⟨rfl, ⟨nd, rfl⟩⟩; refine ⟨_, rfl, ?_⟩) | (go_at_call 70; (with_reducible refine (runes_Valid.calls a0_2 false _ ?side1 A29.out).mono ?_); (case side1 => first | exact hT | exact tabs_below hT bel); rintro e w39 ⟨rfl, hb⟩; have n0_ := bb BK102 hb; have n1_ := bes hb; clear BK102; clear HB; have BK102 := n0_; have HB := n1_; clear n0_ n1_; (try clear hb); (try clear hb2); (try clear hk); (try clear hi)))
          go_ret
          exact fn
        ·replace c28 := Bool.eq_false_iff.mpr c28
         subst c28
         have H1 : (some false) = some r := by rw [if_neg (show ¬ (false = true) by decide)] at H; exact H
         clear H
         have H := H1
         clear H1
         obtain rfl := Option.some.inj H
         have hcz40_0 : wc.cell? ⟨gb102, 0, none⟩ = some (.int .i64 a0_0) := (bC BK102.out 0).trans rfl
         have hcz40_1 : wc.cell? ⟨gb102, 1, none⟩ = some (.float .f64 a0_1) := (bC BK102.out 1).trans rfl
         have hcz40_2 : wc.cell? ⟨gb102, 2, none⟩ = some (.string a0_2) := (bC BK102.out 2).trans rfl
         have hcz40_3 : wc.cell? ⟨gb102, 3, none⟩ = some (.slice A0_3 l0_3.length c0_3) := (bC BK102.out 3).trans rfl
         have hcz40_4 : wc.cell? ⟨gb102, 4, none⟩ = some (.slice A0_4 l0_4.length c0_4) := (bC BK102.out 4).trans rfl
         have hfz40_0 := bF BK102.out 0
         have hfz40_1 := bF BK102.out 1
         have hfz40_2 := bF BK102.out 2
         have hfz40_3 := bF BK102.out 3
         have hfz40_4 := bF BK102.out 4
         go_wp2_with (first | ((with_reducible refine gate_callee (f := 69) rfl ?_); refine goesL_ (some 60) rfl rfl Tryz.func69 (by kernel_rfl) rfl #[.float .f64 a0_1] rfl am ?_; (with_reducible refine (value_bare.calls a0_1 false _ A27.out).mono ?_); rintro e w' ⟨rfl, ⟨nd, rfl⟩⟩; refine ⟨_, rfl, ?_⟩))
         go_ret
         exact fn
       ·rw [if_neg c26] at H
        have c26b0 : (a0_0 == 4) = false := beq_eq_false_iff_ne.mpr c26
        have c26b1 : (a0_0 != 4) = true := bne_iff_ne.mpr c26
        by_cases c41 : a0_0 = 6
        ·rw [if_pos c41] at H
         have c41b0 : (a0_0 == 6) = true := beq_iff_eq.mpr c41
         have c41b1 : (a0_0 != 6) = false := bne_eq_false_iff_eq.mpr c41
         clear c41
         by_cases c42 : (l0_4.length : Int) = (l0_3.length : Int)
         ·rw [if_pos c42] at H
          have c42b0 : ((l0_4.length : Int) == (l0_3.length : Int)) = true := beq_iff_eq.mpr c42
          have c42b1 : ((l0_4.length : Int) != (l0_3.length : Int)) = false := bne_eq_false_iff_eq.mpr c42
          have c42b2 : (l0_4.length == l0_3.length) = true := by first | simpa using c42 | (simp at c42 ⊢; omega)
          clear c42
          replace H := Option.bind_eq_some_iff.mp H
          obtain ⟨t104, A430, H⟩ := H
          replace H : (if t104 = true then (vR.j1 kj7 a1 a0_0 a0_1 a0_2 l0_3 l0_4) else (some false)) = some r := H
          have A43 := Ae.mk A430
          clear A430
          by_cases c44 : t104 = true
          ·subst c44
           have H1 : (vR.j1 kj7 a1 a0_0 a0_1 a0_2 l0_3 l0_4) = some r := by rw [if_pos rfl] at H; exact H
           clear H
           have H := H1
           clear H1
           have H' := Ae.mk H
           clear H
           have hcz45_0 : wc.cell? ⟨gb102, 0, none⟩ = some (.int .i64 a0_0) := (bC BK102.out 0).trans rfl
           have hcz45_1 : wc.cell? ⟨gb102, 1, none⟩ = some (.float .f64 a0_1) := (bC BK102.out 1).trans rfl
           have hcz45_2 : wc.cell? ⟨gb102, 2, none⟩ = some (.string a0_2) := (bC BK102.out 2).trans rfl
           have hcz45_3 : wc.cell? ⟨gb102, 3, none⟩ = some (.slice A0_3 l0_3.length c0_3) := (bC BK102.out 3).trans rfl
           have hcz45_4 : wc.cell? ⟨gb102, 4, none⟩ = some (.slice A0_4 l0_4.length c0_4) := (bC BK102.out 4).trans rfl
           have hfz45_0 := bF BK102.out 0
           have hfz45_1 := bF BK102.out 1
           have hfz45_2 := bF BK102.out 2
           have hfz45_3 := bF BK102.out 3
           have hfz45_4 := bF BK102.out 4
           go_wp2_with (first | (go_at_call 71; (with_reducible refine (value_apart.calls _ _ l0_4 true _ ?side1 ?side2 ?side3 A43.out).mono ?_); (case side1 => exact cb HR0_4); (case side2 => exact HC0_4.out); (case side3 => first | exact hT | exact tabs_below hT bel); rintro e w46 ⟨rfl, hb⟩; have n0_ := bb BK102 hb; have n1_ := bes hb; clear BK102; clear HB; have BK102 := n0_; have HB := n1_; clear n0_ n1_; (try clear hb); (try clear hb2); (try clear hk); (try clear hi)))
           go_meet
           case rel => exact ⟨_, H', ⟨by have := HJ7.out; first | omega | exact Nat.le_refl _⟩, ⟨bt⟩, ⟨bel⟩⟩
          ·replace c44 := Bool.eq_false_iff.mpr c44
           subst c44
           have H1 : (some false) = some r := by rw [if_neg (show ¬ (false = true) by decide)] at H; exact H
           clear H
           have H := H1
           clear H1
           obtain rfl := Option.some.inj H
           have hcz47_0 : wc.cell? ⟨gb102, 0, none⟩ = some (.int .i64 a0_0) := (bC BK102.out 0).trans rfl
           have hcz47_1 : wc.cell? ⟨gb102, 1, none⟩ = some (.float .f64 a0_1) := (bC BK102.out 1).trans rfl
           have hcz47_2 : wc.cell? ⟨gb102, 2, none⟩ = some (.string a0_2) := (bC BK102.out 2).trans rfl
           have hcz47_3 : wc.cell? ⟨gb102, 3, none⟩ = some (.slice A0_3 l0_3.length c0_3) := (bC BK102.out 3).trans rfl
           have hcz47_4 : wc.cell? ⟨gb102, 4, none⟩ = some (.slice A0_4 l0_4.length c0_4) := (bC BK102.out 4).trans rfl
           have hfz47_0 := bF BK102.out 0
           have hfz47_1 := bF BK102.out 1
           have hfz47_2 := bF BK102.out 2
           have hfz47_3 := bF BK102.out 3
           have hfz47_4 := bF BK102.out 4
           go_wp2_with (first | (go_at_call 71; (with_reducible refine (value_apart.calls _ _ l0_4 false _ ?side1 ?side2 ?side3 A43.out).mono ?_); (case side1 => exact cb HR0_4); (case side2 => exact HC0_4.out); (case side3 => first | exact hT | exact tabs_below hT bel); rintro e w48 ⟨rfl, hb⟩; have n0_ := bb BK102 hb; have n1_ := bes hb; clear BK102; clear HB; have BK102 := n0_; have HB := n1_; clear n0_ n1_; (try clear hb); (try clear hb2); (try clear hk); (try clear hi)))
           go_ret
           exact fn
         ·rw [if_neg c42] at H
          have c42b0 : ((l0_4.length : Int) == (l0_3.length : Int)) = false := beq_eq_false_iff_ne.mpr c42
          have c42b1 : ((l0_4.length : Int) != (l0_3.length : Int)) = true := bne_iff_ne.mpr c42
          have c42b2 : (l0_4.length == l0_3.length) = false := by first | simpa using c42 | (simp at c42 ⊢; omega)
          obtain rfl := Option.some.inj H
          have hcz49_0 : wc.cell? ⟨gb102, 0, none⟩ = some (.int .i64 a0_0) := (bC BK102.out 0).trans rfl
          have hcz49_1 : wc.cell? ⟨gb102, 1, none⟩ = some (.float .f64 a0_1) := (bC BK102.out 1).trans rfl
          have hcz49_2 : wc.cell? ⟨gb102, 2, none⟩ = some (.string a0_2) := (bC BK102.out 2).trans rfl
          have hcz49_3 : wc.cell? ⟨gb102, 3, none⟩ = some (.slice A0_3 l0_3.length c0_3) := (bC BK102.out 3).trans rfl
          have hcz49_4 : wc.cell? ⟨gb102, 4, none⟩ = some (.slice A0_4 l0_4.length c0_4) := (bC BK102.out 4).trans rfl
          have hfz49_0 := bF BK102.out 0
          have hfz49_1 := bF BK102.out 1
          have hfz49_2 := bF BK102.out 2
          have hfz49_3 := bF BK102.out 3
          have hfz49_4 := bF BK102.out 4
          go_wp2
          go_ret
          exact fn
        ·rw [if_neg c41] at H
         have c41b0 : (a0_0 == 6) = false := beq_eq_false_iff_ne.mpr c41
         have c41b1 : (a0_0 != 6) = true := bne_iff_ne.mpr c41
         by_cases c50 : a0_0 = 5
         ·rw [if_pos c50] at H
          have c50b0 : (a0_0 == 5) = true := beq_iff_eq.mpr c50
          have c50b1 : (a0_0 != 5) = false := bne_eq_false_iff_eq.mpr c50
          clear c50
          have H' := Ae.mk H
          clear H
          go_wp2
          go_meet
          case rel => exact ⟨_, H', ⟨by have := HJ7.out; first | omega | exact Nat.le_refl _⟩, ⟨bt⟩, ⟨bel⟩⟩
         ·rw [if_neg c50] at H
          have c50b0 : (a0_0 == 5) = false := beq_eq_false_iff_ne.mpr c50
          have c50b1 : (a0_0 != 5) = true := bne_iff_ne.mpr c50
          obtain rfl := Option.some.inj H
          go_wp2
          go_ret
          exact fn
  case rest =>
   clear HC5
   obtain ⟨kq, HA, HJ4, BK102, HB⟩ := hcut
   cases kq with
   | zero => exact absurd HA.out (by simp [vR.j1])
   | succ kj4 =>
    have H := HA.out
    clear HA
    simp only [vR.j1] at H
    have HC51 := Ae.mk H
    clear H
    go_upto_region 16 with (fail)
    go_cut [110] (fun v110 wc => ∃ (kq : Nat) (x110_50 : Bool), v110 = .bool x110_50 ∧ Ae (vR.j2 kq a1 x110_50 a0_0 a0_1 a0_2 l0_3 l0_4 = some r) ∧ Ae (kq ≤ kj4) ∧ Ae (wc.heap[gb102]? = some (.cells #[.int .i64 a0_0, .float .f64 a0_1, .string a0_2, (.slice A0_3 l0_3.length c0_3), (.slice A0_4 l0_4.length c0_4)] 36 (0, 0))) ∧ Ae (Below w.heap.size w wc))
    case first =>
     have H := HC51.out
     clear HC51
     by_cases c52 : a0_0 = 5
     ·rw [if_pos c52] at H
      have c52b0 : (a0_0 == 5) = true := beq_iff_eq.mpr c52
      have c52b1 : (a0_0 != 5) = false := bne_eq_false_iff_eq.mpr c52
      clear c52
      (first | rw [c52b0] | (simp only [i64_w, i32_w]; rw [c52b0]) | skip)
      by_cases c53 : (l0_4.length : Int) > 0
      ·rw [if_pos c53] at H
       have c53b0 : decide (0 < (l0_4.length : Int)) = true := decide_eq_true c53
       have c53b1 : decide (0 < l0_4.length) = true := decide_eq_true (by omega)
       clear c53
       have H' := Ae.mk H
       clear H
       have hcz54_0 : wc.cell? ⟨gb102, 0, none⟩ = some (.int .i64 a0_0) := (bC BK102.out 0).trans rfl
       have hcz54_1 : wc.cell? ⟨gb102, 1, none⟩ = some (.float .f64 a0_1) := (bC BK102.out 1).trans rfl
       have hcz54_2 : wc.cell? ⟨gb102, 2, none⟩ = some (.string a0_2) := (bC BK102.out 2).trans rfl
       have hcz54_3 : wc.cell? ⟨gb102, 3, none⟩ = some (.slice A0_3 l0_3.length c0_3) := (bC BK102.out 3).trans rfl
       have hcz54_4 : wc.cell? ⟨gb102, 4, none⟩ = some (.slice A0_4 l0_4.length c0_4) := (bC BK102.out 4).trans rfl
       have hfz54_0 := bF BK102.out 0
       have hfz54_1 := bF BK102.out 1
       have hfz54_2 := bF BK102.out 2
       have hfz54_3 := bF BK102.out 3
       have hfz54_4 := bF BK102.out 4
       go_wp2
       go_meet
       case rel => exact ⟨_, (true), pv, H', ⟨by have := HJ4.out; first | omega | exact Nat.le_refl _⟩, ⟨bt⟩, ⟨bel⟩⟩
      ·rw [if_neg c53] at H
       have c53b0 : decide (0 < (l0_4.length : Int)) = false := decide_eq_false c53
       have c53b1 : decide (0 < l0_4.length) = false := decide_eq_false (by omega)
       clear c53
       replace H := Option.bind_eq_some_iff.mp H
       obtain ⟨t107, A550, H⟩ := H
       replace H : (if t107 = true then (vR.j2 kj4 a1 (a0_2.toList != ([] : List UInt8)) a0_0 a0_1 a0_2 l0_3 l0_4) else (vR.j2 kj4 a1 true a0_0 a0_1 a0_2 l0_3 l0_4)) = some r := H
       have A55 := Ae.mk A550
       clear A550
       by_cases c56 : t107 = true
       ·subst c56
        have H1 : (vR.j2 kj4 a1 (a0_2.toList != ([] : List UInt8)) a0_0 a0_1 a0_2 l0_3 l0_4) = some r := by rw [if_pos rfl] at H; exact H
        clear H
        have H := H1
        clear H1
        have H' := Ae.mk H
        clear H
        have hcz57_0 : wc.cell? ⟨gb102, 0, none⟩ = some (.int .i64 a0_0) := (bC BK102.out 0).trans rfl
        have hcz57_1 : wc.cell? ⟨gb102, 1, none⟩ = some (.float .f64 a0_1) := (bC BK102.out 1).trans rfl
        have hcz57_2 : wc.cell? ⟨gb102, 2, none⟩ = some (.string a0_2) := (bC BK102.out 2).trans rfl
        have hcz57_3 : wc.cell? ⟨gb102, 3, none⟩ = some (.slice A0_3 l0_3.length c0_3) := (bC BK102.out 3).trans rfl
        have hcz57_4 : wc.cell? ⟨gb102, 4, none⟩ = some (.slice A0_4 l0_4.length c0_4) := (bC BK102.out 4).trans rfl
        have hfz57_0 := bF BK102.out 0
        have hfz57_1 := bF BK102.out 1
        have hfz57_2 := bF BK102.out 2
        have hfz57_3 := bF BK102.out 3
        have hfz57_4 := bF BK102.out 4
        go_wp2_with (first | (go_at_call 69; (with_reducible refine (value_bare.calls a0_1 true _ A55.out).mono ?_); rintro e w' ⟨rfl, ⟨nd, rfl⟩⟩))
        go_meet
        case rel => exact ⟨_, ((a0_2.toList != ([] : List UInt8))), pv, H', ⟨by have := HJ4.out; first | omega | exact Nat.le_refl _⟩, ⟨bt⟩, ⟨bel⟩⟩
       ·replace c56 := Bool.eq_false_iff.mpr c56
        subst c56
        have H1 : (vR.j2 kj4 a1 true a0_0 a0_1 a0_2 l0_3 l0_4) = some r := by rw [if_neg (show ¬ (false = true) by decide)] at H; exact H
        clear H
        have H := H1
        clear H1
        have H' := Ae.mk H
        clear H
        have hcz58_0 : wc.cell? ⟨gb102, 0, none⟩ = some (.int .i64 a0_0) := (bC BK102.out 0).trans rfl
        have hcz58_1 : wc.cell? ⟨gb102, 1, none⟩ = some (.float .f64 a0_1) := (bC BK102.out 1).trans rfl
        have hcz58_2 : wc.cell? ⟨gb102, 2, none⟩ = some (.string a0_2) := (bC BK102.out 2).trans rfl
        have hcz58_3 : wc.cell? ⟨gb102, 3, none⟩ = some (.slice A0_3 l0_3.length c0_3) := (bC BK102.out 3).trans rfl
        have hcz58_4 : wc.cell? ⟨gb102, 4, none⟩ = some (.slice A0_4 l0_4.length c0_4) := (bC BK102.out 4).trans rfl
        have hfz58_0 := bF BK102.out 0
        have hfz58_1 := bF BK102.out 1
        have hfz58_2 := bF BK102.out 2
        have hfz58_3 := bF BK102.out 3
        have hfz58_4 := bF BK102.out 4
        go_wp2_with (first | (go_at_call 69; (with_reducible refine (value_bare.calls a0_1 false _ A55.out).mono ?_); rintro e w' ⟨rfl, ⟨nd, rfl⟩⟩))
        go_meet
        case rel => exact ⟨_, (true), pv, H', ⟨by have := HJ4.out; first | omega | exact Nat.le_refl _⟩, ⟨bt⟩, ⟨bel⟩⟩
     ·rw [if_neg c52] at H
      have c52b0 : (a0_0 == 5) = false := beq_eq_false_iff_ne.mpr c52
      have c52b1 : (a0_0 != 5) = true := bne_iff_ne.mpr c52
      (first | rw [c52b0] | (simp only [i64_w, i32_w]; rw [c52b0]) | skip)
      replace H := Option.bind_eq_some_iff.mp H
      obtain ⟨t108, A590, H⟩ := H
      replace H : (if t108 = true then (vR.j2 kj4 a1 (a0_2.toList != ([] : List UInt8)) a0_0 a0_1 a0_2 l0_3 l0_4) else (vR.j2 kj4 a1 true a0_0 a0_1 a0_2 l0_3 l0_4)) = some r := H
      have A59 := Ae.mk A590
      clear A590
      by_cases c60 : t108 = true
      ·subst c60
       have H1 : (vR.j2 kj4 a1 (a0_2.toList != ([] : List UInt8)) a0_0 a0_1 a0_2 l0_3 l0_4) = some r := by rw [if_pos rfl] at H; exact H
       clear H
       have H := H1
       clear H1
       have H' := Ae.mk H
       clear H
       have hcz61_0 : wc.cell? ⟨gb102, 0, none⟩ = some (.int .i64 a0_0) := (bC BK102.out 0).trans rfl
       have hcz61_1 : wc.cell? ⟨gb102, 1, none⟩ = some (.float .f64 a0_1) := (bC BK102.out 1).trans rfl
       have hcz61_2 : wc.cell? ⟨gb102, 2, none⟩ = some (.string a0_2) := (bC BK102.out 2).trans rfl
       have hcz61_3 : wc.cell? ⟨gb102, 3, none⟩ = some (.slice A0_3 l0_3.length c0_3) := (bC BK102.out 3).trans rfl
       have hcz61_4 : wc.cell? ⟨gb102, 4, none⟩ = some (.slice A0_4 l0_4.length c0_4) := (bC BK102.out 4).trans rfl
       have hfz61_0 := bF BK102.out 0
       have hfz61_1 := bF BK102.out 1
       have hfz61_2 := bF BK102.out 2
       have hfz61_3 := bF BK102.out 3
       have hfz61_4 := bF BK102.out 4
       go_wp2_with (first | (go_at_call 69; (with_reducible refine (value_bare.calls a0_1 true _ A59.out).mono ?_); rintro e w' ⟨rfl, ⟨nd, rfl⟩⟩))
       go_meet
       case rel => exact ⟨_, ((a0_2.toList != ([] : List UInt8))), pv, H', ⟨by have := HJ4.out; first | omega | exact Nat.le_refl _⟩, ⟨bt⟩, ⟨bel⟩⟩
      ·replace c60 := Bool.eq_false_iff.mpr c60
       subst c60
       have H1 : (vR.j2 kj4 a1 true a0_0 a0_1 a0_2 l0_3 l0_4) = some r := by rw [if_neg (show ¬ (false = true) by decide)] at H; exact H
       clear H
       have H := H1
       clear H1
       have H' := Ae.mk H
       clear H
       have hcz62_0 : wc.cell? ⟨gb102, 0, none⟩ = some (.int .i64 a0_0) := (bC BK102.out 0).trans rfl
       have hcz62_1 : wc.cell? ⟨gb102, 1, none⟩ = some (.float .f64 a0_1) := (bC BK102.out 1).trans rfl
       have hcz62_2 : wc.cell? ⟨gb102, 2, none⟩ = some (.string a0_2) := (bC BK102.out 2).trans rfl
       have hcz62_3 : wc.cell? ⟨gb102, 3, none⟩ = some (.slice A0_3 l0_3.length c0_3) := (bC BK102.out 3).trans rfl
       have hcz62_4 : wc.cell? ⟨gb102, 4, none⟩ = some (.slice A0_4 l0_4.length c0_4) := (bC BK102.out 4).trans rfl
       have hfz62_0 := bF BK102.out 0
       have hfz62_1 := bF BK102.out 1
       have hfz62_2 := bF BK102.out 2
       have hfz62_3 := bF BK102.out 3
       have hfz62_4 := bF BK102.out 4
       go_wp2_with (first | (go_at_call 69; (with_reducible refine (value_bare.calls a0_1 false _ A59.out).mono ?_); rintro e w' ⟨rfl, ⟨nd, rfl⟩⟩))
       go_meet
       case rel => exact ⟨_, (true), pv, H', ⟨by have := HJ4.out; first | omega | exact Nat.le_refl _⟩, ⟨bt⟩, ⟨bel⟩⟩
    case rest =>
     clear HC51
     obtain ⟨kq, x110_50, rfl, HA, HJ50, BK102, HB⟩ := hcut
     cases kq with
     | zero => exact absurd HA.out (by simp [vR.j2])
     | succ kj50 =>
      have H := HA.out
      clear HA
      simp only [vR.j2] at H
      by_cases c63 : x110_50 = true
      ·subst c63
       have H1 : (some false) = some r := by rw [if_pos rfl] at H; exact H
       clear H
       have H := H1
       clear H1
       obtain rfl := Option.some.inj H
       go_wp2
       go_ret
       exact fn
      ·replace c63 := Bool.eq_false_iff.mpr c63
       subst c63
       have H1 : (vR.l0 kj50 a1 l0_3 (l0_3.length : Int) 0) = some r := by rw [if_neg (show ¬ (false = true) by decide)] at H; exact H
       clear H
       have H := H1
       clear H1
       have H' := Ae.mk H
       clear H
       have hcz64_0 : wc.cell? ⟨gb102, 0, none⟩ = some (.int .i64 a0_0) := (bC BK102.out 0).trans rfl
       have hcz64_1 : wc.cell? ⟨gb102, 1, none⟩ = some (.float .f64 a0_1) := (bC BK102.out 1).trans rfl
       have hcz64_2 : wc.cell? ⟨gb102, 2, none⟩ = some (.string a0_2) := (bC BK102.out 2).trans rfl
       have hcz64_3 : wc.cell? ⟨gb102, 3, none⟩ = some (.slice A0_3 l0_3.length c0_3) := (bC BK102.out 3).trans rfl
       have hcz64_4 : wc.cell? ⟨gb102, 4, none⟩ = some (.slice A0_4 l0_4.length c0_4) := (bC BK102.out 4).trans rfl
       have hfz64_0 := bF BK102.out 0
       have hfz64_1 := bF BK102.out 1
       have hfz64_2 := bF BK102.out 2
       have hfz64_3 := bF BK102.out 3
       have hfz64_4 := bF BK102.out 4
       go_wp2
       go_loopg [114] kj50 (fun kq v114 w' => ∃ (x114_3 : Int), v114 = .int .i64 x114_3 ∧ Ae (vR.l0 kq a1 l0_3 (l0_3.length : Int) x114_3 = some r) ∧ Ae (kq ≤ kj50) ∧ Ae (w'.heap[gb102]? = some (.cells #[.int .i64 a0_0, .float .f64 a0_1, .string a0_2, (.slice A0_3 l0_3.length c0_3), (.slice A0_4 l0_4.length c0_4)] 36 (0, 0))) ∧ Ae (Below w.heap.size w w'))
       case atStart => exact ⟨(0), pv, H', ⟨Nat.le_refl _⟩, ⟨bt⟩, ⟨bel⟩⟩
       case round =>
        clear H'
        obtain ⟨x114_3, rfl, HA, HK3, BK102, HB⟩ := hrel
        cases gk with
        | zero => exact absurd HA.out (by simp [vR.l0])
        | succ k3 =>
         have H := HA.out
         clear HA
         simp only [vR.l0] at H
         by_cases c65 : x114_3 < (l0_3.length : Int)
         ·rw [if_pos c65] at H
          have c65b0 : decide (x114_3 < (l0_3.length : Int)) = true := decide_eq_true c65
          clear c65
          by_cases c66 : 0 ≤ x114_3
          ·rw [if_pos c66] at H
           have c66b0 : decide (0 ≤ x114_3) = true := decide_eq_true c66
           clear c66
           by_cases c67 : x114_3 < (l0_3.length : Int)
           ·rw [if_pos c67] at H
            have c67b0 : decide (x114_3 < (l0_3.length : Int)) = true := decide_eq_true c67
            clear c67
            replace H := Option.bind_eq_some_iff.mp H
            obtain ⟨t111, A680, H⟩ := H
            replace H : (if t111 = true then (vR.l0 k3 a1 l0_3 (l0_3.length : Int) (wrap64 (x114_3 + 1))) else (some false)) = some r := H
            have A68 := Ae.mk A680
            clear A680
            by_cases c69 : t111 = true
            ·subst c69
             have H1 : (vR.l0 k3 a1 l0_3 (l0_3.length : Int) (wrap64 (x114_3 + 1))) = some r := by rw [if_pos rfl] at H; exact H
             clear H
             have H := H1
             clear H1
             have H' := Ae.mk H
             clear H
             have p109 : 0 ≤ (x114_3 : Int) := of_decide_eq_true ass
             have q109 : x114_3 < (l0_3.length : Int) := of_decide_eq_true ass
             obtain ⟨ad109, A109_3, c109_3, A109_4, c109_4, e109, hx109_0, hx109_1, hx109_2, hx109_3, hx109_4, hl109_3, hi109_3, hl109_4, hi109_4⟩ := at_T36 HR0_3.out x114_3 p109 q109
             cases e109
             replace hx109_0 := cq HB hx109_0
             replace hx109_1 := cq HB hx109_1
             replace hx109_2 := cq HB hx109_2
             replace hx109_3 := cq HB hx109_3
             replace hx109_4 := cq HB hx109_4
             have HR109_3 := Ae.mk hi109_3
             have HC109_3 := Ae.mk hl109_3
             clear hi109_3 hl109_3
             have HR109_4 := Ae.mk hi109_4
             have HC109_4 := Ae.mk hl109_4
             clear hi109_4 hl109_4
             replace p109 := eq_true p109
             replace q109 := eq_true q109
             go_wp2_with (first | ((with_reducible refine gD (N := 6) rfl ?_); (try (refine gate_guard (by rfl) ?_; dsimp only)); refine bE ?hg (N := 6) ?hd (cs := #[.int .i64 0, .float .f64 0, .string (⟨#[]⟩ : ByteArray), .slice none 0 0, .slice none 0 0]) (t := 36) ?hr ?_; (case hd => rfl); (case hg => rfl); (case hr => first | (go_simp; done) | (go_simp; rfl)); intro gb110 hg w70 hbox hb; have n0_ := bb BK102 hb; have n1_ := bes hb; have n2_ := Ae.mk (hbox); have n3_ := Ae.mk ((bez hg : w.heap.size ≤ gb110)); have n4_ := Ae.mk ((bez hg : w.heap.size ≤ gb110)); have n5_ := Ae.mk ((by rw [hg]; exact Nat.ne_of_lt (blk_lt (g := gb102) (o := .cells #[.int .i64 a0_0, .float .f64 a0_1, .string a0_2, .slice (some ad109) l0_3.length c0_3, .slice A0_4 l0_4.length c0_4] 36 (0, 0)) bt) : gb102 ≠ gb110)); have n6_ := Ae.mk ((by rw [hg]; exact Nat.ne_of_gt (blk_lt (g := gb102) (o := .cells #[.int .i64 a0_0, .float .f64 a0_1, .string a0_2, .slice (some ad109) l0_3.length c0_3, .slice A0_4 l0_4.length c0_4] 36 (0, 0)) bt) : gb110 ≠ gb102)); clear BK102; clear HB; have BK102 := n0_; have HB := n1_; have BK110 := n2_; have GW110 := n3_; have GE110 := n4_; have NB102_110 := n5_; have NB110_102 := n6_; clear n0_ n1_ n2_ n3_ n4_ n5_ n6_; clear hb hbox hg; have hnb71 := NB110_102.out; have hnc71 := NB102_110.out; have hcz72_0 : w70.cell? ⟨gb110, 0, none⟩ = some (.int .i64 0) := (bC BK110.out 0).trans rfl; have hcz72_1 : w70.cell? ⟨gb110, 1, none⟩ = some (.float .f64 0) := (bC BK110.out 1).trans rfl; have hcz72_2 : w70.cell? ⟨gb110, 2, none⟩ = some (.string (⟨#[]⟩ : ByteArray)) := (bC BK110.out 2).trans rfl; have hcz72_3 : w70.cell? ⟨gb110, 3, none⟩ = some (.slice none 0 0) := (bC BK110.out 3).trans rfl; have hcz72_4 : w70.cell? ⟨gb110, 4, none⟩ = some (.slice none 0 0) := (bC BK110.out 4).trans rfl; have hfz72_0 := bF BK110.out 0; have hfz72_1 := bF BK110.out 1; have hfz72_2 := bF BK110.out 2; have hfz72_3 := bF BK110.out 3; have hfz72_4 := bF BK110.out 4) | ((with_reducible refine gate_callee (f := 41) rfl ?_); refine goesL_ (some 121) rfl rfl Tryz.func41 (by kernel_rfl) rfl #[.agg #[.int .i64 ((rd_T36 l0_3 x114_3).f0), .float .f64 ((rd_T36 l0_3 x114_3).f1), .string ((rd_T36 l0_3 x114_3).f2), .slice A109_3 ((rd_T36 l0_3 x114_3).f3).length c109_3, .slice A109_4 ((rd_T36 l0_3 x114_3).f4).length c109_4], .int .i64 (wrap64 (a1 - 1))] rfl am ?_; (with_reducible refine (ih k3 (by have := HJ4.out; have := HJ50.out; have := HK3.out; omega) ((rd_T36 l0_3 x114_3).f0) ((rd_T36 l0_3 x114_3).f1) ((rd_T36 l0_3 x114_3).f2) _ _ ((rd_T36 l0_3 x114_3).f3) _ _ ((rd_T36 l0_3 x114_3).f4) (wrap64 (a1 - 1)) true _ ?side1 ?side2 ?side3 ?side4 ?side5 A68.out).mono ?_); (case side1 => exact Kd.C_below HR109_3.out bel); (case side2 => exact HC109_3.out); (case side3 => exact Kd.C_below HR109_4.out bel); (case side4 => exact HC109_4.out); (case side5 => first | exact hT | exact tabs_below hT bel); rintro e w73 ⟨rfl, hb⟩; refine ⟨_, rfl, ?_⟩; have n0_ := bb BK102 hb; have n1_ := Ae.mk (blk_below (g := gb110) (o := .cells #[.int .i64 ((rd_T36 l0_3 x114_3).f0), .float .f64 ((rd_T36 l0_3 x114_3).f1), .string ((rd_T36 l0_3 x114_3).f2), .slice A109_3 ((rd_T36 l0_3 x114_3).f3).length c109_3, .slice A109_4 ((rd_T36 l0_3 x114_3).f4).length c109_4] 36 (0, 0)) bt hb); have n2_ := bes hb; clear BK102; clear BK110; clear HB; have BK102 := n0_; have BK110 := n1_; have HB := n2_; clear n0_ n1_ n2_; (try clear hb); (try clear hb2); (try clear hk); (try clear hi)))
             go_roundg k3
             case measure => have := HJ4.out; have := HJ50.out; have := HK3.out; omega
             case rel => exact ⟨(wrap64 (x114_3 + 1)), pv, H', ⟨by have := HJ4.out; have := HJ50.out; have := HK3.out; omega⟩, ⟨bt⟩, ⟨bel⟩⟩
            ·replace c69 := Bool.eq_false_iff.mpr c69
             subst c69
             have H1 : (some false) = some r := by rw [if_neg (show ¬ (false = true) by decide)] at H; exact H
             clear H
             have H := H1
             clear H1
             obtain rfl := Option.some.inj H
             have p109 : 0 ≤ (x114_3 : Int) := of_decide_eq_true ass
             have q109 : x114_3 < (l0_3.length : Int) := of_decide_eq_true ass
             obtain ⟨ad109, A109_3, c109_3, A109_4, c109_4, e109, hx109_0, hx109_1, hx109_2, hx109_3, hx109_4, hl109_3, hi109_3, hl109_4, hi109_4⟩ := at_T36 HR0_3.out x114_3 p109 q109
             cases e109
             replace hx109_0 := cq HB hx109_0
             replace hx109_1 := cq HB hx109_1
             replace hx109_2 := cq HB hx109_2
             replace hx109_3 := cq HB hx109_3
             replace hx109_4 := cq HB hx109_4
             have HR109_3 := Ae.mk hi109_3
             have HC109_3 := Ae.mk hl109_3
             clear hi109_3 hl109_3
             have HR109_4 := Ae.mk hi109_4
             have HC109_4 := Ae.mk hl109_4
             clear hi109_4 hl109_4
             replace p109 := eq_true p109
             replace q109 := eq_true q109
             go_wp2_with (first | ((with_reducible refine gD (N := 6) rfl ?_); (try (refine gate_guard (by rfl) ?_; dsimp only)); refine bE ?hg (N := 6) ?hd (cs := #[.int .i64 0, .float .f64 0, .string (⟨#[]⟩ : ByteArray), .slice none 0 0, .slice none 0 0]) (t := 36) ?hr ?_; (case hd => rfl); (case hg => rfl); (case hr => first | (go_simp; done) | (go_simp; rfl)); intro gb110 hg w74 hbox hb; have n0_ := bb BK102 hb; have n1_ := bes hb; have n2_ := Ae.mk (hbox); have n3_ := Ae.mk ((bez hg : w.heap.size ≤ gb110)); have n4_ := Ae.mk ((bez hg : w.heap.size ≤ gb110)); have n5_ := Ae.mk ((by rw [hg]; exact Nat.ne_of_lt (blk_lt (g := gb102) (o := .cells #[.int .i64 a0_0, .float .f64 a0_1, .string a0_2, .slice (some ad109) l0_3.length c0_3, .slice A0_4 l0_4.length c0_4] 36 (0, 0)) bt) : gb102 ≠ gb110)); have n6_ := Ae.mk ((by rw [hg]; exact Nat.ne_of_gt (blk_lt (g := gb102) (o := .cells #[.int .i64 a0_0, .float .f64 a0_1, .string a0_2, .slice (some ad109) l0_3.length c0_3, .slice A0_4 l0_4.length c0_4] 36 (0, 0)) bt) : gb110 ≠ gb102)); clear BK102; clear HB; have BK102 := n0_; have HB := n1_; have BK110 := n2_; have GW110 := n3_; have GE110 := n4_; have NB102_110 := n5_; have NB110_102 := n6_; clear n0_ n1_ n2_ n3_ n4_ n5_ n6_; clear hb hbox hg; have hnb75 := NB110_102.out; have hnc75 := NB102_110.out; have hcz76_0 : w74.cell? ⟨gb110, 0, none⟩ = some (.int .i64 0) := (bC BK110.out 0).trans rfl; have hcz76_1 : w74.cell? ⟨gb110, 1, none⟩ = some (.float .f64 0) := (bC BK110.out 1).trans rfl; have hcz76_2 : w74.cell? ⟨gb110, 2, none⟩ = some (.string (⟨#[]⟩ : ByteArray)) := (bC BK110.out 2).trans rfl; have hcz76_3 : w74.cell? ⟨gb110, 3, none⟩ = some (.slice none 0 0) := (bC BK110.out 3).trans rfl; have hcz76_4 : w74.cell? ⟨gb110, 4, none⟩ = some (.slice none 0 0) := (bC BK110.out 4).trans rfl; have hfz76_0 := bF BK110.out 0; have hfz76_1 := bF BK110.out 1; have hfz76_2 := bF BK110.out 2; have hfz76_3 := bF BK110.out 3; have hfz76_4 := bF BK110.out 4) | ((with_reducible refine gate_callee (f := 41) rfl ?_); refine goesL_ (some 121) rfl rfl Tryz.func41 (by kernel_rfl) rfl #[.agg #[.int .i64 ((rd_T36 l0_3 x114_3).f0), .float .f64 ((rd_T36 l0_3 x114_3).f1), .string ((rd_T36 l0_3 x114_3).f2), .slice A109_3 ((rd_T36 l0_3 x114_3).f3).length c109_3, .slice A109_4 ((rd_T36 l0_3 x114_3).f4).length c109_4], .int .i64 (wrap64 (a1 - 1))] rfl am ?_; (with_reducible refine (ih k3 (by have := HJ4.out; have := HJ50.out; have := HK3.out; omega) ((rd_T36 l0_3 x114_3).f0) ((rd_T36 l0_3 x114_3).f1) ((rd_T36 l0_3 x114_3).f2) _ _ ((rd_T36 l0_3 x114_3).f3) _ _ ((rd_T36 l0_3 x114_3).f4) (wrap64 (a1 - 1)) false _ ?side1 ?side2 ?side3 ?side4 ?side5 A68.out).mono ?_); (case side1 => exact Kd.C_below HR109_3.out bel); (case side2 => exact HC109_3.out); (case side3 => exact Kd.C_below HR109_4.out bel); (case side4 => exact HC109_4.out); (case side5 => first | exact hT | exact tabs_below hT bel); rintro e w77 ⟨rfl, hb⟩; refine ⟨_, rfl, ?_⟩; have n0_ := bb BK102 hb; have n1_ := Ae.mk (blk_below (g := gb110) (o := .cells #[.int .i64 ((rd_T36 l0_3 x114_3).f0), .float .f64 ((rd_T36 l0_3 x114_3).f1), .string ((rd_T36 l0_3 x114_3).f2), .slice A109_3 ((rd_T36 l0_3 x114_3).f3).length c109_3, .slice A109_4 ((rd_T36 l0_3 x114_3).f4).length c109_4] 36 (0, 0)) bt hb); have n2_ := bes hb; clear BK102; clear BK110; clear HB; have BK102 := n0_; have BK110 := n1_; have HB := n2_; clear n0_ n1_ n2_; (try clear hb); (try clear hb2); (try clear hk); (try clear hi)))
             go_ret
             exact fn
           ·rw [if_neg c67] at H
            exact absurd H (by simp)
          ·rw [if_neg c66] at H
           exact absurd H (by simp)
         ·rw [if_neg c65] at H
          have c65b0 : decide (x114_3 < (l0_3.length : Int)) = false := decide_eq_false c65
          clear c65
          obtain rfl := Option.some.inj H
          go_wp2
          go_ret
          exact fn
end Go.Proofs.YtlbcnacfgickcaaGreatDoor.A
