/- Printed by this session's own copy of the printer (wip/tools/mkprint.py): functions, and that the Go code answers as they do. -/
import Derived.Test.YtlbcnacfgickcaaGreatDoorShort
import Derived.Test.YtlbcnacfgickcaaGreatDoorA0
import Derived.Test.YtlbcnacfgickcaaGreatDoorA6
import Derived.Test.YtlbcnacfgickcaaGreatDoorA8
namespace Go.Proofs.YtlbcnacfgickcaaGreatDoor.A
open Go.RowKit Go.Proofs.YtlbcnacfgickcaaGreatDoorW.PrintWords Go.Proofs.YtlbcnacfgickcaaGreatDoorW.PrintLast Go.Proofs.YtlbcnacfgickcaaGreatDoorW.PrintMore Go.Proofs.YtlbcnacfgickcaaGreatDoorW.Short
attribute [local go_sem] max2_int min2_int max_two min_two max_three min_three max_four min_four
set_option linter.unusedVariables false
set_option linter.unusedSimpArgs false
@[reducible] def mkA9_0 : Array Bool := #[false, false, false, false, false, false, false, false, false, false, false, false, false, false, false, false, false, false, false, false, false, false, false, false, false, false, false, false]
@[reducible] def mkA9_1 : Array Bool := #[true, false, false, false, false, false, false, false, false, false, false, false, false, false, false, false, false, false, false, false, false, false, false, false, false, false, false, false]
@[reducible] def mkA9_2 : Array Bool := #[true, true, false, false, false, false, false, false, false, false, false, false, false, false, false, false, false, false, false, false, false, false, false, false, false, false, false, false]
@[reducible] def mkA9_3 : Array Bool := #[true, true, true, false, false, false, false, false, false, false, false, false, false, false, false, false, false, false, false, false, false, false, false, false, false, false, false, false]
@[reducible] def mkA9_4 : Array Bool := #[true, true, true, true, false, false, false, false, false, false, false, false, false, false, false, false, false, false, false, false, false, false, false, false, false, false, false, false]
@[reducible] def mkA9_5 : Array Bool := #[true, true, true, true, true, false, false, false, false, false, false, false, false, false, false, false, false, false, false, false, false, false, false, false, false, false, false, false]
@[reducible] def mkA9_6 : Array Bool := #[true, true, true, true, true, true, false, false, false, false, false, false, false, false, false, false, false, false, false, false, false, false, false, false, false, false, false, false]
@[reducible] def mkA9_7 : Array Bool := #[true, true, true, true, true, true, true, false, false, false, false, false, false, false, false, false, false, false, false, false, false, false, false, false, false, false, false, false]
@[reducible] def mkA9_8 : Array Bool := #[true, true, true, true, true, true, true, true, false, false, false, false, false, false, false, false, false, false, false, false, false, false, false, false, false, false, false, false]
@[reducible] def mkA9_9 : Array Bool := #[true, true, true, true, true, true, true, true, true, false, false, false, false, false, false, false, false, false, false, false, false, false, false, false, false, false, false, false]
@[reducible] def mkA9_10 : Array Bool := #[true, true, true, true, true, true, true, true, true, true, false, false, false, false, false, false, false, false, false, false, false, false, false, false, false, false, false, false]
@[reducible] def mkA9_11 : Array Bool := #[true, true, true, true, true, true, true, true, true, true, true, false, false, false, false, false, false, false, false, false, false, false, false, false, false, false, false, false]
@[reducible] def mkA9_12 : Array Bool := #[true, true, true, true, true, true, true, true, true, true, true, true, false, false, false, false, false, false, false, false, false, false, false, false, false, false, false, false]
@[reducible] def mkA9_13 : Array Bool := #[true, true, true, true, true, true, true, true, true, true, true, true, true, false, false, false, false, false, false, false, false, false, false, false, false, false, false, false]
@[reducible] def mkA9_14 : Array Bool := #[true, true, true, true, true, true, true, true, true, true, true, true, true, true, false, false, false, false, false, false, false, false, false, false, false, false, false, false]
@[reducible] def mkA9_15 : Array Bool := #[true, true, true, true, true, true, true, true, true, true, true, true, true, true, true, false, false, false, false, false, false, false, false, false, false, false, false, false]
@[reducible] def mkA9_16 : Array Bool := #[true, true, true, true, true, true, true, true, true, true, true, true, true, true, true, true, false, false, false, false, false, false, false, false, false, false, false, false]
@[reducible] def mkA9_17 : Array Bool := #[true, true, true, true, true, true, true, true, true, true, true, true, true, true, true, true, true, false, false, false, false, false, false, false, false, false, false, false]
@[reducible] def mkA9_18 : Array Bool := #[true, true, true, true, true, true, true, true, true, true, true, true, true, true, true, true, true, true, false, false, false, false, false, false, false, false, false, false]
@[reducible] def mkA9_19 : Array Bool := #[true, true, true, true, true, true, true, true, true, true, true, true, true, true, true, true, true, true, true, false, false, false, false, false, false, false, false, false]
@[reducible] def mkA9_20 : Array Bool := #[true, true, true, true, true, true, true, true, true, true, true, true, true, true, true, true, true, true, true, true, false, false, false, false, false, false, false, false]
@[reducible] def mkA9_21 : Array Bool := #[true, true, true, true, true, true, true, true, true, true, true, true, true, true, true, true, true, true, true, true, true, false, false, false, false, false, false, false]
@[reducible] def mkA9_22 : Array Bool := #[true, true, true, true, true, true, true, true, true, true, true, true, true, true, true, true, true, true, true, true, true, true, false, false, false, false, false, false]
@[reducible] def mkA9_23 : Array Bool := #[true, true, true, true, true, true, true, true, true, true, true, true, true, true, true, true, true, true, true, true, true, true, true, false, false, false, false, false]
@[reducible] def mkA9_24 : Array Bool := #[true, true, true, true, true, true, true, true, true, true, true, true, true, true, true, true, true, true, true, true, true, true, true, true, false, false, false, false]
@[reducible] def mkA9_25 : Array Bool := #[true, true, true, true, true, true, true, true, true, true, true, true, true, true, true, true, true, true, true, true, true, true, true, true, true, false, false, false]
@[reducible] def mkA9_26 : Array Bool := #[true, true, true, true, true, true, true, true, true, true, true, true, true, true, true, true, true, true, true, true, true, true, true, true, true, true, false, false]
@[reducible] def mkA9_27 : Array Bool := #[true, true, true, true, true, true, true, true, true, true, true, true, true, true, true, true, true, true, true, true, true, true, true, true, true, true, true, false]
@[reducible] def mkA9_28 : Array Bool := #[true, true, true, true, true, true, true, true, true, true, true, true, true, true, true, true, true, true, true, true, true, true, true, true, true, true, true, true]
@[reducible] def mkA9_29 : Array Bool := #[true, true, true, true, true, true, true, true, true, true, true, true, true, true, true, true, true, false, true, false, false, false, false, false, false, false, false, false]
@[reducible] def mkA9_30 : Array Bool := #[true, true, true, true, true, true, true, true, true, true, true, true, true, true, true, true, true, false, true, true, false, false, false, false, false, false, false, false]
@[reducible] def mkA9_31 : Array Bool := #[true, true, true, true, true, true, true, true, true, true, true, true, true, true, true, true, true, false, true, true, false, false, true, false, false, false, false, false]
@[reducible] def mkA9_32 : Array Bool := #[true, true, true, true, true, true, true, true, true, true, true, true, true, true, true, true, true, true, true, true, false, false, true, false, false, false, false, false]
@[reducible] def mkA9_33 : Array Bool := #[true, true, true, true, true, true, true, true, true, true, true, true, true, true, true, true, true, true, true, true, true, false, true, false, false, false, false, false]
@[reducible] def mkA9_34 : Array Bool := #[true, true, true, true, true, true, true, true, true, true, true, true, true, true, true, true, true, true, true, true, true, false, true, true, false, false, false, false]
mutual
def cL.j0 : Nat → Int → Bool → List (S30) → List (S36) → Int → Int → Int → ByteArray → List (S99) → Option (Bool)
 | 0, _, _, _, _, _, _, _, _, _ => none
 | k + 1, x1, x21, x138000, x138001, x139000, x139001, x139002, x139003, x139004 => if x21 = true then (some false) else (if 0 ≤ x139001 then (if x139001 < (x138000.length : Int) then (if ((R3 x138000 x139001).f1) = (-1) then (cL.j1 k x1 ((x139004.length : Int) != ((R3 x138000 x139001).f3)) x138000 x138001 x139000 x139001 x139002 x139003 x139004 ((R3 x138000 x139001).f0) ((R3 x138000 x139001).f1) ((R3 x138000 x139001).f2) ((R3 x138000 x139001).f3) ((R3 x138000 x139001).f4) ((R3 x138000 x139001).f5)) else (cL.j1 k x1 true x138000 x138001 x139000 x139001 x139002 x139003 x139004 ((R3 x138000 x139001).f0) ((R3 x138000 x139001).f1) ((R3 x138000 x139001).f2) ((R3 x138000 x139001).f3) ((R3 x138000 x139001).f4) ((R3 x138000 x139001).f5))) else (none)) else (none))
def cL.j1 : Nat → Int → Bool → List (S30) → List (S36) → Int → Int → Int → ByteArray → List (S99) → ByteArray → Int → Int → Int → Int → List (S56) → Option (Bool)
 | 0, _, _, _, _, _, _, _, _, _, _, _, _, _, _, _ => none
 | k + 1, x1, x39, x138000, x138001, x139000, x139001, x139002, x139003, x139004, x141000, x141001, x141002, x141003, x141004, x141005 => if x39 = true then (some false) else (if x141002 < 0 then (if x139002 = (-1) then (if x141002 ≥ 0 then (if x139002 < 0 then (cL.j2 k x1 true x138000 x138001 x139000 x139001 x139002 x139003 x139004) else ((oU.f k x138000 x138001 x1 x139002).bind fun t141 => (cL.j2 k x1 (t141 != x141002) x138000 x138001 x139000 x139001 x139002 x139003 x139004))) else (cL.j2 k x1 false x138000 x138001 x139000 x139001 x139002 x139003 x139004)) else (cL.j2 k x1 true x138000 x138001 x139000 x139001 x139002 x139003 x139004)) else (if x141002 ≥ 0 then (if x139002 < 0 then (cL.j2 k x1 true x138000 x138001 x139000 x139001 x139002 x139003 x139004) else ((oU.f k x138000 x138001 x1 x139002).bind fun t142 => (cL.j2 k x1 (t142 != x141002) x138000 x138001 x139000 x139001 x139002 x139003 x139004))) else (cL.j2 k x1 false x138000 x138001 x139000 x139001 x139002 x139003 x139004)))
def cL.j2 : Nat → Int → Bool → List (S30) → List (S36) → Int → Int → Int → ByteArray → List (S99) → Option (Bool)
 | 0, _, _, _, _, _, _, _, _, _ => none
 | k + 1, x1, x67, x138000, x138001, x139000, x139001, x139002, x139003, x139004 => if x67 = true then (some false) else (cL.l0 k x1 x139004 (x139004.length : Int) 0 x138000 x138001)
def cL.l0 : Nat → Int → List (S99) → Int → Int → List (S30) → List (S36) → Option (Bool)
 | 0, _, _, _, _, _, _ => none
 | k + 1, x1, x69, x70, x71, x138000, x138001 => if x71 < x70 then (if 0 ≤ x71 then (if x71 < (x69.length : Int) then ((cO.f k x138000 x138001 x1 ((rd_T99 x69 x71).f0) ((rd_T99 x69 x71).f1) ((rd_T99 x69 x71).f2)).bind fun t145 => (if t145 = true then (cL.l0 k x1 x69 x70 (wrap64 (x71 + 1)) x138000 x138001) else (some false))) else (none)) else (none)) else (some true)
end
def cL.f (k : Nat) (lA : List (S30)) (lB : List (S36)) (a1 : Int) (a2_0 : Int) (a2_1 : Int) (a2_2 : Int) (a2_3 : ByteArray) (l2_4 : List (S99)) : Option (Bool) := if a2_1 < 1 then (cL.j0 k a1 true lA lB a2_0 a2_1 a2_2 a2_3 l2_4) else (cL.j0 k a1 (decide (a2_1 ≥ (lA.length : Int))) lA lB a2_0 a2_1 a2_2 a2_3 l2_4)
def cL.T6 : Bool × List (List Nat × List Nat) := (true, [([], []), ([0], [0]), ([1], [1]), ([2], [2]), ([3], [3]), ([4, 3], [3, 4]), ([5, 3], [3, 5]), ([3, 6], [3, 6]), ([7, 3], [7]), ([8], [8]), ([9, 8], [8, 9]), ([10, 8], [8, 10]), ([11, 8, 8], [8, 11]), ([12], [12]), ([13, 12], [12, 13]), ([14, 12], [12, 14]), ([15, 12, 12], [12, 15]), ([16], [16]), ([16], [16]), ([16], [16]), ([19, 16], [16, 19]), ([17, 18, 20, 16, 16], [16, 17, 18, 20]), ([16], [16]), ([22, 16], [16, 22]), ([21, 23, 16], [16, 21, 23]), ([16, 24, 12], [12, 16, 24]), ([12, 25, 8], [8, 12, 25]), ([8, 26], [8, 26])])
def cL.B6 : List Nat := [0, 1, 3, 7, 15, 31, 63, 127, 255, 511, 1023, 2047, 4095, 8191, 16383, 32767, 65535, 131071, 131071, 131071, 655359, 2097151, 131071, 4325375, 16777215, 33554431, 67108863, 134217727]
theorem cL.tab6 : rtab .any (opsOf Tryz.f45 6) = cL.T6 := by kernel_rfl
theorem cL.bits6 : waitsOk cL.T6.2 cL.B6 = true := by kernel_rfl
set_option maxHeartbeats 8000000 in
set_option maxRecDepth 100000 in
theorem cL.calls (k : Nat) (A0_0 : Option Addr) (c0_0 : Nat) (lA : List (S30)) (A0_1 : Option Addr) (c0_1 : Nat) (lB : List (S36)) (a1 : Int) (a2_0 : Int) (a2_1 : Int) (a2_2 : Int) (a2_3 : ByteArray) (A2_4 : Option Addr) (c2_4 : Nat) (l2_4 : List (S99)) (r : Bool) (w : World) (hr0_0 : Kd.C k30 w A0_0 lA.length lA) (hc0_0 : lA.length ≤ c0_0) (hr0_1 : Kd.C k36 w A0_1 lB.length lB) (hc0_1 : lB.length ≤ c0_1) (hr2_4 : Kd.C k99 w A2_4 l2_4.length l2_4) (hc2_4 : l2_4.length ≤ c2_4) (h : cL.f k lA lB a1 a2_0 a2_1 a2_2 a2_3 l2_4 = some r) :
  Calls Tryz.prog 45 #[.agg #[.slice A0_0 lA.length c0_0, .slice A0_1 lB.length c0_1], .int .i64 a1, .agg #[.int .i64 a2_0, .int .i64 a2_1, .int .i64 a2_2, .string a2_3, .slice A2_4 l2_4.length c2_4]] w fun e w' => e = .returned (.bool r) ∧ Below w.heap.size w w' := by
 have hu58 := Tryz.underlying58
 have hu56 := Tryz.underlying56
 have hu30 := Tryz.underlying30
 have hu99 := Tryz.underlying99
 have HR0_0 := Ae.mk hr0_0
 have HC0_0 := Ae.mk hc0_0
 clear hr0_0 hc0_0
 have HR0_1 := Ae.mk hr0_1
 have HC0_1 := Ae.mk hc0_1
 clear hr0_1 hc0_1
 have HR2_4 := Ae.mk hr2_4
 have HC2_4 := Ae.mk hc2_4
 clear hr2_4 hc2_4
 have HB := Ae.mk (Below.refl w.heap.size w)
 have H : (if a2_1 < 1 then (cL.j0 k a1 true lA lB a2_0 a2_1 a2_2 a2_3 l2_4) else (cL.j0 k a1 (decide (a2_1 ≥ (lA.length : Int))) lA lB a2_0 a2_1 a2_2 a2_3 l2_4)) = some r := h
 clear h
 have HC4 := Ae.mk H
 clear H
 go_enter Tryz.func45, Tryz.ntmps45
 go_upto_region 1 with (first | ((with_reducible refine gD (N := 3) rfl ?_); (try (refine gate_guard (by rfl) ?_; dsimp only)); refine bE ?hg (N := 3) ?hd (cs := #[.slice A0_0 lA.length c0_0, .slice A0_1 lB.length c0_1]) (t := 58) ?hr ?_; (case hd => rfl); (case hg => rfl); (case hr => first | (go_simp; done) | (go_simp; rfl)); intro gb137 hg w5 hbox hb; have n0_ := bes hb; have n1_ := Ae.mk (hbox); have n2_ := Ae.mk ((bez hg : w.heap.size ≤ gb137)); have n3_ := Ae.mk ((bez hg : w.heap.size ≤ gb137)); clear HB; have HB := n0_; have BK137 := n1_; have GW137 := n2_; have GE137 := n3_; clear n0_ n1_ n2_ n3_; clear hb hbox hg) | ((with_reducible refine gD (N := 5) rfl ?_); (try (refine gate_guard (by rfl) ?_; dsimp only)); refine bE ?hg (N := 5) ?hd (cs := #[.int .i64 a2_0, .int .i64 a2_1, .int .i64 a2_2, .string a2_3, .slice A2_4 l2_4.length c2_4]) (t := 56) ?hr ?_; (case hd => rfl); (case hg => rfl); (case hr => first | (go_simp; done) | (go_simp; rfl)); intro gb138 hg w6 hbox hb; have n0_ := bb BK137 hb; have n1_ := bes hb; have n2_ := Ae.mk (hbox); have n3_ := Ae.mk ((bez hg : w.heap.size ≤ gb138)); have n4_ := Ae.mk ((bez hg : w.heap.size ≤ gb138)); have n5_ := Ae.mk ((by rw [hg]; exact Nat.ne_of_lt (blk_lt (g := gb137) (o := .cells #[.slice A0_0 lA.length c0_0, .slice A0_1 lB.length c0_1] 58 (0, 0)) bt) : gb137 ≠ gb138)); have n6_ := Ae.mk ((by rw [hg]; exact Nat.ne_of_gt (blk_lt (g := gb137) (o := .cells #[.slice A0_0 lA.length c0_0, .slice A0_1 lB.length c0_1] 58 (0, 0)) bt) : gb138 ≠ gb137)); clear BK137; clear HB; have BK137 := n0_; have HB := n1_; have BK138 := n2_; have GW138 := n3_; have GE138 := n4_; have NB137_138 := n5_; have NB138_137 := n6_; clear n0_ n1_ n2_ n3_ n4_ n5_ n6_; clear hb hbox hg))
 (try simp only [Act.put, List.setIfInBounds_toArray, List.set_cons_zero, List.set_cons_succ])
 go_cut [21] (fun v21 wc => ∃ (kq : Nat) (x21_3 : Bool), v21 = .bool x21_3 ∧ Ae (cL.j0 kq a1 x21_3 lA lB a2_0 a2_1 a2_2 a2_3 l2_4 = some r) ∧ Ae (kq ≤ k) ∧ Ae (wc.heap[gb137]? = some (.cells #[(.slice A0_0 lA.length c0_0), (.slice A0_1 lB.length c0_1)] 58 (0, 0))) ∧ Ae (wc.heap[gb138]? = some (.cells #[.int .i64 a2_0, .int .i64 a2_1, .int .i64 a2_2, .string a2_3, (.slice A2_4 l2_4.length c2_4)] 56 (0, 0))) ∧ Ae (Below w.heap.size w wc))
 case first =>
  have H := HC4.out
  clear HC4
  by_cases c7 : a2_1 < 1
  ·rw [if_pos c7] at H
   have c7b0 : decide (a2_1 < 1) = true := decide_eq_true c7
   clear c7
   (first | rw [c7b0] | (simp only [i64_w, i32_w]; rw [c7b0]) | skip)
   have H' := Ae.mk H
   clear H
   have hnb8 := NB138_137.out
   have hnc8 := NB137_138.out
   have hcz9_0 : w6.cell? ⟨gb138, 0, none⟩ = some (.int .i64 a2_0) := (bC BK138.out 0).trans rfl
   have hcz9_1 : w6.cell? ⟨gb138, 1, none⟩ = some (.int .i64 a2_1) := (bC BK138.out 1).trans rfl
   have hcz9_2 : w6.cell? ⟨gb138, 2, none⟩ = some (.int .i64 a2_2) := (bC BK138.out 2).trans rfl
   have hcz9_3 : w6.cell? ⟨gb138, 3, none⟩ = some (.string a2_3) := (bC BK138.out 3).trans rfl
   have hcz9_4 : w6.cell? ⟨gb138, 4, none⟩ = some (.slice A2_4 l2_4.length c2_4) := (bC BK138.out 4).trans rfl
   have hfz9_0 := bF BK138.out 0
   have hfz9_1 := bF BK138.out 1
   have hfz9_2 := bF BK138.out 2
   have hfz9_3 := bF BK138.out 3
   have hfz9_4 := bF BK138.out 4
   go_wp2
   go_meet
   case rel => exact ⟨_, (true), pv, H', ⟨by first | omega | exact Nat.le_refl _⟩, ⟨bt⟩, ⟨bt⟩, ⟨bel⟩⟩
  ·rw [if_neg c7] at H
   have c7b0 : decide (a2_1 < 1) = false := decide_eq_false c7
   clear c7
   (first | rw [c7b0] | (simp only [i64_w, i32_w]; rw [c7b0]) | skip)
   have H' := Ae.mk H
   clear H
   have hnb10 := NB138_137.out
   have hnc10 := NB137_138.out
   have hcz11_0 : w6.cell? ⟨gb138, 0, none⟩ = some (.int .i64 a2_0) := (bC BK138.out 0).trans rfl
   have hcz11_1 : w6.cell? ⟨gb138, 1, none⟩ = some (.int .i64 a2_1) := (bC BK138.out 1).trans rfl
   have hcz11_2 : w6.cell? ⟨gb138, 2, none⟩ = some (.int .i64 a2_2) := (bC BK138.out 2).trans rfl
   have hcz11_3 : w6.cell? ⟨gb138, 3, none⟩ = some (.string a2_3) := (bC BK138.out 3).trans rfl
   have hcz11_4 : w6.cell? ⟨gb138, 4, none⟩ = some (.slice A2_4 l2_4.length c2_4) := (bC BK138.out 4).trans rfl
   have hfz11_0 := bF BK138.out 0
   have hfz11_1 := bF BK138.out 1
   have hfz11_2 := bF BK138.out 2
   have hfz11_3 := bF BK138.out 3
   have hfz11_4 := bF BK138.out 4
   have hcz12_0 : w6.cell? ⟨gb137, 0, none⟩ = some (.slice A0_0 lA.length c0_0) := (bC BK137.out 0).trans rfl
   have hcz12_1 : w6.cell? ⟨gb137, 1, none⟩ = some (.slice A0_1 lB.length c0_1) := (bC BK137.out 1).trans rfl
   have hfz12_0 := bF BK137.out 0
   have hfz12_1 := bF BK137.out 1
   go_wp2
   go_meet
   case rel => exact ⟨_, (decide (a2_1 ≥ (lA.length : Int))), pv, H', ⟨by first | omega | exact Nat.le_refl _⟩, ⟨bt⟩, ⟨bt⟩, ⟨bel⟩⟩
 case rest =>
  clear HC4
  obtain ⟨kq, x21_3, rfl, HA, HJ3, BK137, BK138, HB⟩ := hcut
  cases kq with
  | zero => exact absurd HA.out (by simp [cL.j0])
  | succ kj3 =>
   have H := HA.out
   clear HA
   simp only [cL.j0] at H
   by_cases c13 : x21_3 = true
   ·subst c13
    have H1 : (some false) = some r := by rw [if_pos rfl] at H; exact H
    clear H
    have H := H1
    clear H1
    obtain rfl := Option.some.inj H
    go_wp2
    go_ret
    exact fn
   ·replace c13 := Bool.eq_false_iff.mpr c13
    subst c13
    have H1 : (if 0 ≤ a2_1 then (if a2_1 < (lA.length : Int) then (if ((R3 lA a2_1).f1) = (-1) then (cL.j1 kj3 a1 ((l2_4.length : Int) != ((R3 lA a2_1).f3)) lA lB a2_0 a2_1 a2_2 a2_3 l2_4 ((R3 lA a2_1).f0) ((R3 lA a2_1).f1) ((R3 lA a2_1).f2) ((R3 lA a2_1).f3) ((R3 lA a2_1).f4) ((R3 lA a2_1).f5)) else (cL.j1 kj3 a1 true lA lB a2_0 a2_1 a2_2 a2_3 l2_4 ((R3 lA a2_1).f0) ((R3 lA a2_1).f1) ((R3 lA a2_1).f2) ((R3 lA a2_1).f3) ((R3 lA a2_1).f4) ((R3 lA a2_1).f5))) else (none)) else (none)) = some r := by rw [if_neg (show ¬ (false = true) by decide)] at H; exact H
    clear H
    have H := H1
    clear H1
    by_cases c14 : 0 ≤ a2_1
    ·rw [if_pos c14] at H
     have c14b0 : decide (0 ≤ a2_1) = true := decide_eq_true c14
     clear c14
     by_cases c15 : a2_1 < (lA.length : Int)
     ·rw [if_pos c15] at H
      have c15b0 : decide (a2_1 < (lA.length : Int)) = true := decide_eq_true c15
      clear c15
      have HC16 := Ae.mk H
      clear H
      have hnb17 := NB137_138.out
      have hnc17 := NB138_137.out
      have hcz18_0 : wc.cell? ⟨gb137, 0, none⟩ = some (.slice A0_0 lA.length c0_0) := (bC BK137.out 0).trans rfl
      have hcz18_1 : wc.cell? ⟨gb137, 1, none⟩ = some (.slice A0_1 lB.length c0_1) := (bC BK137.out 1).trans rfl
      have hfz18_0 := bF BK137.out 0
      have hfz18_1 := bF BK137.out 1
      have hcz19_0 : wc.cell? ⟨gb138, 0, none⟩ = some (.int .i64 a2_0) := (bC BK138.out 0).trans rfl
      have hcz19_1 : wc.cell? ⟨gb138, 1, none⟩ = some (.int .i64 a2_1) := (bC BK138.out 1).trans rfl
      have hcz19_2 : wc.cell? ⟨gb138, 2, none⟩ = some (.int .i64 a2_2) := (bC BK138.out 2).trans rfl
      have hcz19_3 : wc.cell? ⟨gb138, 3, none⟩ = some (.string a2_3) := (bC BK138.out 3).trans rfl
      have hcz19_4 : wc.cell? ⟨gb138, 4, none⟩ = some (.slice A2_4 l2_4.length c2_4) := (bC BK138.out 4).trans rfl
      have hfz19_0 := bF BK138.out 0
      have hfz19_1 := bF BK138.out 1
      have hfz19_2 := bF BK138.out 2
      have hfz19_3 := bF BK138.out 3
      have hfz19_4 := bF BK138.out 4
      have p139 : 0 ≤ (a2_1 : Int) := of_decide_eq_true ass
      have q139 : a2_1 < (lA.length : Int) := of_decide_eq_true ass
      obtain ⟨ad139, A139_5, c139_5, e139, hx139_0, hx139_1, hx139_2, hx139_3, hx139_4, hx139_5, hl139_5, hi139_5⟩ := at_T30 HR0_0.out a2_1 p139 q139
      cases e139
      replace hx139_0 := cq HB hx139_0
      replace hx139_1 := cq HB hx139_1
      replace hx139_2 := cq HB hx139_2
      replace hx139_3 := cq HB hx139_3
      replace hx139_4 := cq HB hx139_4
      replace hx139_5 := cq HB hx139_5
      have HR139_5 := Ae.mk hi139_5
      have HC139_5 := Ae.mk hl139_5
      clear hi139_5 hl139_5
      replace p139 := eq_true p139
      replace q139 := eq_true q139
      go_upto_region 4 with (first | ((with_reducible refine gD (N := 7) rfl ?_); (try (refine gate_guard (by rfl) ?_; dsimp only)); refine bE ?hg (N := 7) ?hd (cs := #[.string (⟨#[]⟩ : ByteArray), .int .i64 0, .int .i64 0, .int .i64 0, .int .i64 0, .slice none 0 0]) (t := 30) ?hr ?_; (case hd => rfl); (case hg => rfl); (case hr => first | (go_simp; done) | (go_simp; rfl)); intro gb140 hg w20 hbox hb; have n0_ := bb BK137 hb; have n1_ := bb BK138 hb; have n2_ := bes hb; have n3_ := Ae.mk (hbox); have n4_ := Ae.mk ((bez hg : w.heap.size ≤ gb140)); have n5_ := Ae.mk ((bez hg : w.heap.size ≤ gb140)); have n6_ := Ae.mk ((by rw [hg]; exact Nat.ne_of_lt (blk_lt (g := gb137) (o := .cells #[.slice (some ad139) lA.length c0_0, .slice A0_1 lB.length c0_1] 58 (0, 0)) bt) : gb137 ≠ gb140)); have n7_ := Ae.mk ((by rw [hg]; exact Nat.ne_of_gt (blk_lt (g := gb137) (o := .cells #[.slice (some ad139) lA.length c0_0, .slice A0_1 lB.length c0_1] 58 (0, 0)) bt) : gb140 ≠ gb137)); have n8_ := Ae.mk ((by rw [hg]; exact Nat.ne_of_lt (blk_lt (g := gb138) (o := .cells #[.int .i64 a2_0, .int .i64 a2_1, .int .i64 a2_2, .string a2_3, .slice A2_4 l2_4.length c2_4] 56 (0, 0)) bt) : gb138 ≠ gb140)); have n9_ := Ae.mk ((by rw [hg]; exact Nat.ne_of_gt (blk_lt (g := gb138) (o := .cells #[.int .i64 a2_0, .int .i64 a2_1, .int .i64 a2_2, .string a2_3, .slice A2_4 l2_4.length c2_4] 56 (0, 0)) bt) : gb140 ≠ gb138)); clear BK137; clear BK138; clear HB; have BK137 := n0_; have BK138 := n1_; have HB := n2_; have BK140 := n3_; have GW140 := n4_; have GE140 := n5_; have NB137_140 := n6_; have NB140_137 := n7_; have NB138_140 := n8_; have NB140_138 := n9_; clear n0_ n1_ n2_ n3_ n4_ n5_ n6_ n7_ n8_ n9_; clear hb hbox hg; have hnb21 := NB140_137.out; have hnc21 := NB137_140.out; have hnb22 := NB140_138.out; have hnc22 := NB138_140.out; have hcz23_0 : w20.cell? ⟨gb140, 0, none⟩ = some (.string (⟨#[]⟩ : ByteArray)) := (bC BK140.out 0).trans rfl; have hcz23_1 : w20.cell? ⟨gb140, 1, none⟩ = some (.int .i64 0) := (bC BK140.out 1).trans rfl; have hcz23_2 : w20.cell? ⟨gb140, 2, none⟩ = some (.int .i64 0) := (bC BK140.out 2).trans rfl; have hcz23_3 : w20.cell? ⟨gb140, 3, none⟩ = some (.int .i64 0) := (bC BK140.out 3).trans rfl; have hcz23_4 : w20.cell? ⟨gb140, 4, none⟩ = some (.int .i64 0) := (bC BK140.out 4).trans rfl; have hcz23_5 : w20.cell? ⟨gb140, 5, none⟩ = some (.slice none 0 0) := (bC BK140.out 5).trans rfl; have hfz23_0 := bF BK140.out 0; have hfz23_1 := bF BK140.out 1; have hfz23_2 := bF BK140.out 2; have hfz23_3 := bF BK140.out 3; have hfz23_4 := bF BK140.out 4; have hfz23_5 := bF BK140.out 5))
      (try simp only [Act.put, List.setIfInBounds_toArray, List.set_cons_zero, List.set_cons_succ])
      go_cut [39] (fun v39 wc => ∃ (kq : Nat) (x39_15 : Bool), v39 = .bool x39_15 ∧ Ae (cL.j1 kq a1 x39_15 lA lB a2_0 a2_1 a2_2 a2_3 l2_4 ((R3 lA a2_1).f0) ((R3 lA a2_1).f1) ((R3 lA a2_1).f2) ((R3 lA a2_1).f3) ((R3 lA a2_1).f4) ((R3 lA a2_1).f5) = some r) ∧ Ae (kq ≤ kj3) ∧ Ae (wc.heap[gb137]? = some (.cells #[(.slice (some ad139) lA.length c0_0), (.slice A0_1 lB.length c0_1)] 58 (0, 0))) ∧ Ae (wc.heap[gb138]? = some (.cells #[.int .i64 a2_0, .int .i64 a2_1, .int .i64 a2_2, .string a2_3, (.slice A2_4 l2_4.length c2_4)] 56 (0, 0))) ∧ Ae (wc.heap[gb140]? = some (.cells #[.string ((R3 lA a2_1).f0), .int .i64 ((R3 lA a2_1).f1), .int .i64 ((R3 lA a2_1).f2), .int .i64 ((R3 lA a2_1).f3), .int .i64 ((R3 lA a2_1).f4), (.slice A139_5 ((R3 lA a2_1).f5).length c139_5)] 30 (0, 0))) ∧ Ae (Below w.heap.size w wc))
      case first =>
       have H := HC16.out
       clear HC16
       by_cases c24 : ((R3 lA a2_1).f1) = (-1)
       ·rw [if_pos c24] at H
        have c24b0 : (((R3 lA a2_1).f1) == (-1)) = true := beq_iff_eq.mpr c24
        have c24b1 : (((R3 lA a2_1).f1) != (-1)) = false := bne_eq_false_iff_eq.mpr c24
        clear c24
        (first | rw [c24b0] | (simp only [i64_w, i32_w]; rw [c24b0]) | skip)
        have H' := Ae.mk H
        clear H
        have hnb25 := NB140_137.out
        have hnc25 := NB137_140.out
        have hnb26 := NB140_138.out
        have hnc26 := NB138_140.out
        have hcz27_0 : w20.cell? ⟨gb140, 0, none⟩ = some (.string (⟨#[]⟩ : ByteArray)) := (bC BK140.out 0).trans rfl
        have hcz27_1 : w20.cell? ⟨gb140, 1, none⟩ = some (.int .i64 0) := (bC BK140.out 1).trans rfl
        have hcz27_2 : w20.cell? ⟨gb140, 2, none⟩ = some (.int .i64 0) := (bC BK140.out 2).trans rfl
        have hcz27_3 : w20.cell? ⟨gb140, 3, none⟩ = some (.int .i64 0) := (bC BK140.out 3).trans rfl
        have hcz27_4 : w20.cell? ⟨gb140, 4, none⟩ = some (.int .i64 0) := (bC BK140.out 4).trans rfl
        have hcz27_5 : w20.cell? ⟨gb140, 5, none⟩ = some (.slice none 0 0) := (bC BK140.out 5).trans rfl
        have hfz27_0 := bF BK140.out 0
        have hfz27_1 := bF BK140.out 1
        have hfz27_2 := bF BK140.out 2
        have hfz27_3 := bF BK140.out 3
        have hfz27_4 := bF BK140.out 4
        have hfz27_5 := bF BK140.out 5
        have hnb28 := NB138_137.out
        have hnc28 := NB137_138.out
        have hcz29_0 : w20.cell? ⟨gb138, 0, none⟩ = some (.int .i64 a2_0) := (bC BK138.out 0).trans rfl
        have hcz29_1 : w20.cell? ⟨gb138, 1, none⟩ = some (.int .i64 a2_1) := (bC BK138.out 1).trans rfl
        have hcz29_2 : w20.cell? ⟨gb138, 2, none⟩ = some (.int .i64 a2_2) := (bC BK138.out 2).trans rfl
        have hcz29_3 : w20.cell? ⟨gb138, 3, none⟩ = some (.string a2_3) := (bC BK138.out 3).trans rfl
        have hcz29_4 : w20.cell? ⟨gb138, 4, none⟩ = some (.slice A2_4 l2_4.length c2_4) := (bC BK138.out 4).trans rfl
        have hfz29_0 := bF BK138.out 0
        have hfz29_1 := bF BK138.out 1
        have hfz29_2 := bF BK138.out 2
        have hfz29_3 := bF BK138.out 3
        have hfz29_4 := bF BK138.out 4
        go_wp2
        go_meet
        case rel => exact ⟨_, (((l2_4.length : Int) != ((R3 lA a2_1).f3))), pv, H', ⟨by have := HJ3.out; first | omega | exact Nat.le_refl _⟩, ⟨bt⟩, ⟨bt⟩, ⟨bt⟩, ⟨bel⟩⟩
       ·rw [if_neg c24] at H
        have c24b0 : (((R3 lA a2_1).f1) == (-1)) = false := beq_eq_false_iff_ne.mpr c24
        have c24b1 : (((R3 lA a2_1).f1) != (-1)) = true := bne_iff_ne.mpr c24
        (first | rw [c24b0] | (simp only [i64_w, i32_w]; rw [c24b0]) | skip)
        have H' := Ae.mk H
        clear H
        have hnb30 := NB140_137.out
        have hnc30 := NB137_140.out
        have hnb31 := NB140_138.out
        have hnc31 := NB138_140.out
        have hcz32_0 : w20.cell? ⟨gb140, 0, none⟩ = some (.string (⟨#[]⟩ : ByteArray)) := (bC BK140.out 0).trans rfl
        have hcz32_1 : w20.cell? ⟨gb140, 1, none⟩ = some (.int .i64 0) := (bC BK140.out 1).trans rfl
        have hcz32_2 : w20.cell? ⟨gb140, 2, none⟩ = some (.int .i64 0) := (bC BK140.out 2).trans rfl
        have hcz32_3 : w20.cell? ⟨gb140, 3, none⟩ = some (.int .i64 0) := (bC BK140.out 3).trans rfl
        have hcz32_4 : w20.cell? ⟨gb140, 4, none⟩ = some (.int .i64 0) := (bC BK140.out 4).trans rfl
        have hcz32_5 : w20.cell? ⟨gb140, 5, none⟩ = some (.slice none 0 0) := (bC BK140.out 5).trans rfl
        have hfz32_0 := bF BK140.out 0
        have hfz32_1 := bF BK140.out 1
        have hfz32_2 := bF BK140.out 2
        have hfz32_3 := bF BK140.out 3
        have hfz32_4 := bF BK140.out 4
        have hfz32_5 := bF BK140.out 5
        go_wp2
        go_meet
        case rel => exact ⟨_, (true), pv, H', ⟨by have := HJ3.out; first | omega | exact Nat.le_refl _⟩, ⟨bt⟩, ⟨bt⟩, ⟨bt⟩, ⟨bel⟩⟩
      case rest =>
       clear HC16
       obtain ⟨kq, x39_15, rfl, HA, HJ15, BK137, BK138, BK140, HB⟩ := hcut
       cases kq with
       | zero => exact absurd HA.out (by simp [cL.j1])
       | succ kj15 =>
        have H := HA.out
        clear HA
        simp only [cL.j1] at H
        by_cases c33 : x39_15 = true
        ·subst c33
         have H1 : (some false) = some r := by rw [if_pos rfl] at H; exact H
         clear H
         have H := H1
         clear H1
         obtain rfl := Option.some.inj H
         go_wp2
         go_ret
         exact fn
        ·replace c33 := Bool.eq_false_iff.mpr c33
         subst c33
         have H1 : (if ((R3 lA a2_1).f2) < 0 then (if a2_2 = (-1) then (if ((R3 lA a2_1).f2) ≥ 0 then (if a2_2 < 0 then (cL.j2 kj15 a1 true lA lB a2_0 a2_1 a2_2 a2_3 l2_4) else ((oU.f kj15 lA lB a1 a2_2).bind fun t141 => (cL.j2 kj15 a1 (t141 != ((R3 lA a2_1).f2)) lA lB a2_0 a2_1 a2_2 a2_3 l2_4))) else (cL.j2 kj15 a1 false lA lB a2_0 a2_1 a2_2 a2_3 l2_4)) else (cL.j2 kj15 a1 true lA lB a2_0 a2_1 a2_2 a2_3 l2_4)) else (if ((R3 lA a2_1).f2) ≥ 0 then (if a2_2 < 0 then (cL.j2 kj15 a1 true lA lB a2_0 a2_1 a2_2 a2_3 l2_4) else ((oU.f kj15 lA lB a1 a2_2).bind fun t142 => (cL.j2 kj15 a1 (t142 != ((R3 lA a2_1).f2)) lA lB a2_0 a2_1 a2_2 a2_3 l2_4))) else (cL.j2 kj15 a1 false lA lB a2_0 a2_1 a2_2 a2_3 l2_4))) = some r := by rw [if_neg (show ¬ (false = true) by decide)] at H; exact H
         clear H
         have H := H1
         clear H1
         have HC34 := Ae.mk H
         clear H
         go_upto_region 6 with (fail)
         go_cut [67] (fun v67 wc => ∃ (kq : Nat) (x67_33 : Bool), v67 = .bool x67_33 ∧ Ae (cL.j2 kq a1 x67_33 lA lB a2_0 a2_1 a2_2 a2_3 l2_4 = some r) ∧ Ae (kq ≤ kj15) ∧ Ae (wc.heap[gb137]? = some (.cells #[(.slice (some ad139) lA.length c0_0), (.slice A0_1 lB.length c0_1)] 58 (0, 0))) ∧ Ae (wc.heap[gb138]? = some (.cells #[.int .i64 a2_0, .int .i64 a2_1, .int .i64 a2_2, .string a2_3, (.slice A2_4 l2_4.length c2_4)] 56 (0, 0))) ∧ Ae (wc.heap[gb140]? = some (.cells #[.string ((R3 lA a2_1).f0), .int .i64 ((R3 lA a2_1).f1), .int .i64 ((R3 lA a2_1).f2), .int .i64 ((R3 lA a2_1).f3), .int .i64 ((R3 lA a2_1).f4), (.slice A139_5 ((R3 lA a2_1).f5).length c139_5)] 30 (0, 0))) ∧ Ae (Below w.heap.size w wc))
         case first =>
          have H := HC34.out
          clear HC34
          by_cases c35 : ((R3 lA a2_1).f2) < 0
          ·rw [if_pos c35] at H
           have c35b0 : decide (((R3 lA a2_1).f2) < 0) = true := decide_eq_true c35
           clear c35
           (first | rw [c35b0] | (simp only [i64_w, i32_w]; rw [c35b0]) | skip)
           by_cases c36 : a2_2 = (-1)
           ·rw [if_pos c36] at H
            have c36b0 : (a2_2 == (-1)) = true := beq_iff_eq.mpr c36
            have c36b1 : (a2_2 != (-1)) = false := bne_eq_false_iff_eq.mpr c36
            clear c36
            by_cases c37 : ((R3 lA a2_1).f2) ≥ 0
            ·rw [if_pos c37] at H
             have c37b0 : decide (0 ≤ ((R3 lA a2_1).f2)) = true := decide_eq_true c37
             clear c37
             by_cases c38 : a2_2 < 0
             ·rw [if_pos c38] at H
              have c38b0 : decide (a2_2 < 0) = true := decide_eq_true c38
              clear c38
              have H' := Ae.mk H
              clear H
              try go_wp2
              have n0_ := Ae.mk (blk_drew BK137.out)
              have n1_ := Ae.mk (blk_drew BK138.out)
              have n2_ := Ae.mk (blk_drew BK140.out)
              have n3_ := Ae.mk (below_drew1 HB.out)
              clear BK137
              clear BK138
              clear BK140
              clear HB
              have BK137 := n0_
              have BK138 := n1_
              have BK140 := n2_
              have HB := n3_
              clear n0_ n1_ n2_ n3_
              refine start_ (n := 28) (S := fun w' => w'.cell? ⟨gb140, 0, none⟩ = some (.string ((R3 lA a2_1).f0)) ∧ w'.cell? ⟨gb140, 1, none⟩ = some (.int .i64 ((R3 lA a2_1).f1)) ∧ w'.cell? ⟨gb140, 2, none⟩ = some (.int .i64 ((R3 lA a2_1).f2)) ∧ w'.cell? ⟨gb140, 3, none⟩ = some (.int .i64 ((R3 lA a2_1).f3)) ∧ w'.cell? ⟨gb140, 4, none⟩ = some (.int .i64 ((R3 lA a2_1).f4)) ∧ w'.cell? ⟨gb140, 5, none⟩ = some (.slice A139_5 ((R3 lA a2_1).f5).length c139_5) ∧ w'.cell? ⟨gb138, 0, none⟩ = some (.int .i64 a2_0) ∧ w'.cell? ⟨gb138, 1, none⟩ = some (.int .i64 a2_1) ∧ w'.cell? ⟨gb138, 2, none⟩ = some (.int .i64 a2_2) ∧ w'.cell? ⟨gb138, 3, none⟩ = some (.string a2_3) ∧ w'.cell? ⟨gb138, 4, none⟩ = some (.slice A2_4 l2_4.length c2_4)) (ds := []) mkA9_0 (by kernel_rfl) rfl rfl ⟨(bC BK140.out 0).trans rfl, (bC BK140.out 1).trans rfl, (bC BK140.out 2).trans rfl, (bC BK140.out 3).trans rfl, (bC BK140.out 4).trans rfl, (bC BK140.out 5).trans rfl, (bC BK138.out 0).trans rfl, (bC BK138.out 1).trans rfl, (bC BK138.out 2).trans rfl, (bC BK138.out 3).trans rfl, (bC BK138.out 4).trans rfl⟩ (fun hHeld => ?_); refine with_tabW cL.tab6 cL.bits6 (fun HT_ HW_ => ?_)
              generalize wc.drew = w39 at BK137 BK138 BK140 HB hHeld ⊢
              refine pq 0 40 mkA9_1 ?_
              refine tq 1 41 mkA9_2 ?_
              refine pq 2 42 mkA9_3 ?_
              refine pq 3 43 mkA9_4 ?_
              refine pq 4 44 mkA9_5 ?_
              refine tq 5 45 mkA9_6 ?_
              refine pq 6 46 mkA9_7 ?_
              refine pq 7 47 mkA9_8 ?_
              refine pq 8 48 mkA9_9 ?_
              refine pq 9 49 mkA9_10 ?_
              refine tq 10 50 mkA9_11 ?_
              refine pq 11 51 mkA9_12 ?_
              refine pq 12 52 mkA9_13 ?_
              refine pq 13 53 mkA9_14 ?_
              refine tq 14 54 mkA9_15 ?_
              refine pq 15 55 mkA9_16 ?_
              refine pq 16 56 mkA9_17 ?_
              refine uq 17 57 mkA9_18 ?_
              refine uq 18 58 mkA9_19 ?_
              refine uq 19 59 mkA9_20 ?_
              refine uq 20 60 mkA9_21 ?_
              refine uq 21 61 mkA9_22 ?_
              refine uq 22 62 mkA9_23 ?_
              refine uq 23 63 mkA9_24 ?_
              refine uq 24 64 mkA9_25 ?_
              refine pq 25 65 mkA9_26 ?_
              refine pq 26 66 mkA9_27 ?_
              refine pq 27 67 mkA9_28 ?_
              refine done_ (done_of HT_.out (by kernel_rfl)) ?_
              try go_wp2
              go_meet
              case rel => exact ⟨_, (true), pv, H', ⟨by have := HJ3.out; have := HJ15.out; first | omega | exact Nat.le_refl _⟩, ⟨bt⟩, ⟨bt⟩, ⟨bt⟩, ⟨bel⟩⟩
             ·rw [if_neg c38] at H
              have c38b0 : decide (a2_2 < 0) = false := decide_eq_false c38
              clear c38
              replace H := Option.bind_eq_some_iff.mp H
              obtain ⟨t141, A400, H⟩ := H
              replace H : (cL.j2 kj15 a1 (t141 != ((R3 lA a2_1).f2)) lA lB a2_0 a2_1 a2_2 a2_3 l2_4) = some r := H
              have A40 := Ae.mk A400
              clear A400
              have H' := Ae.mk H
              clear H
              try go_wp2
              have n0_ := Ae.mk (blk_drew BK137.out)
              have n1_ := Ae.mk (blk_drew BK138.out)
              have n2_ := Ae.mk (blk_drew BK140.out)
              have n3_ := Ae.mk (below_drew1 HB.out)
              clear BK137
              clear BK138
              clear BK140
              clear HB
              have BK137 := n0_
              have BK138 := n1_
              have BK140 := n2_
              have HB := n3_
              clear n0_ n1_ n2_ n3_
              refine start_ (n := 28) (S := fun w' => w'.cell? ⟨gb140, 0, none⟩ = some (.string ((R3 lA a2_1).f0)) ∧ w'.cell? ⟨gb140, 1, none⟩ = some (.int .i64 ((R3 lA a2_1).f1)) ∧ w'.cell? ⟨gb140, 2, none⟩ = some (.int .i64 ((R3 lA a2_1).f2)) ∧ w'.cell? ⟨gb140, 3, none⟩ = some (.int .i64 ((R3 lA a2_1).f3)) ∧ w'.cell? ⟨gb140, 4, none⟩ = some (.int .i64 ((R3 lA a2_1).f4)) ∧ w'.cell? ⟨gb140, 5, none⟩ = some (.slice A139_5 ((R3 lA a2_1).f5).length c139_5) ∧ w'.cell? ⟨gb138, 0, none⟩ = some (.int .i64 a2_0) ∧ w'.cell? ⟨gb138, 1, none⟩ = some (.int .i64 a2_1) ∧ w'.cell? ⟨gb138, 2, none⟩ = some (.int .i64 a2_2) ∧ w'.cell? ⟨gb138, 3, none⟩ = some (.string a2_3) ∧ w'.cell? ⟨gb138, 4, none⟩ = some (.slice A2_4 l2_4.length c2_4) ∧ w'.cell? ⟨gb137, 0, none⟩ = some (.slice (some ad139) lA.length c0_0) ∧ w'.cell? ⟨gb137, 1, none⟩ = some (.slice A0_1 lB.length c0_1)) (ds := []) mkA9_0 (by kernel_rfl) rfl rfl ⟨(bC BK140.out 0).trans rfl, (bC BK140.out 1).trans rfl, (bC BK140.out 2).trans rfl, (bC BK140.out 3).trans rfl, (bC BK140.out 4).trans rfl, (bC BK140.out 5).trans rfl, (bC BK138.out 0).trans rfl, (bC BK138.out 1).trans rfl, (bC BK138.out 2).trans rfl, (bC BK138.out 3).trans rfl, (bC BK138.out 4).trans rfl, (bC BK137.out 0).trans rfl, (bC BK137.out 1).trans rfl⟩ (fun hHeld => ?_); refine with_tabW cL.tab6 cL.bits6 (fun HT_ HW_ => ?_)
              generalize wc.drew = w41 at BK137 BK138 BK140 HB hHeld ⊢
              refine pq 0 40 mkA9_1 ?_
              refine tq 1 41 mkA9_2 ?_
              refine pq 2 42 mkA9_3 ?_
              refine pq 3 43 mkA9_4 ?_
              refine pq 4 44 mkA9_5 ?_
              refine tq 5 45 mkA9_6 ?_
              refine pq 6 46 mkA9_7 ?_
              refine pq 7 47 mkA9_8 ?_
              refine pq 8 48 mkA9_9 ?_
              refine pq 9 49 mkA9_10 ?_
              refine tq 10 50 mkA9_11 ?_
              refine pq 11 51 mkA9_12 ?_
              refine pq 12 52 mkA9_13 ?_
              refine pq 13 53 mkA9_14 ?_
              refine tq 14 54 mkA9_15 ?_
              refine pq 15 55 mkA9_16 ?_
              refine pq 16 56 mkA9_17 ?_
              refine pq 18 58 mkA9_29 ?_
              refine pq 19 59 mkA9_30 ?_
              refine pq 22 62 mkA9_31 ?_
              refine tq 17 57 mkA9_32 ?_
              refine tq 20 60 mkA9_33 ?_
              refine tq 23 63 mkA9_34 ?_
              refine one_ (i := 21) (N := some 61) mkA9_24 rfl rfl (one_of HT_.out (by kernel_rfl)) (by decide) (fun K hK => ?_)
              refine goes_ Tryz.func72 (by kernel_rfl) rfl #[.agg #[.slice (some ad139) lA.length c0_0, .slice A0_1 lB.length c0_1], .int .i64 a1, .int .i64 a2_2] (by rfl) rfl rfl am ?_
              with_reducible refine (oU.calls kj15 _ _ lA _ _ lB a1 a2_2 t141 _ ?side1 ?side2 ?side3 ?side4 A40.out).mono ?_
              (case side1 => exact cb HR0_0)
              (case side2 => exact HC0_0.out)
              (case side3 => exact cb HR0_1)
              (case side4 => exact HC0_1.out)
              rintro e w42 ⟨rfl, hb⟩
              refine ⟨_, rfl, ?_⟩
              have n0_ := bb BK137 hb
              have n1_ := bb BK138 hb
              have n2_ := bb BK140 hb
              have n3_ := bes hb
              clear BK137
              clear BK138
              clear BK140
              clear HB
              have BK137 := n0_
              have BK138 := n1_
              have BK140 := n2_
              have HB := n3_
              clear n0_ n1_ n2_ n3_
              refine hK.out _ _ ⟨(bC BK140.out 0).trans rfl, (bC BK140.out 1).trans rfl, (bC BK140.out 2).trans rfl, (bC BK140.out 3).trans rfl, (bC BK140.out 4).trans rfl, (bC BK140.out 5).trans rfl, (bC BK138.out 0).trans rfl, (bC BK138.out 1).trans rfl, (bC BK138.out 2).trans rfl, (bC BK138.out 3).trans rfl, (bC BK138.out 4).trans rfl, (bC BK137.out 0).trans rfl, (bC BK137.out 1).trans rfl⟩ (fun hHeld => ?_)
              clear hK K
              refine norm_ (a' := ?_) ?_ ?_
              rotate_left
              ·show Act.put _ (some 61) _ = _
               simp only [Act.put, List.setIfInBounds_toArray, List.set_cons_zero, List.set_cons_succ, i64_w, i32_w]
               rfl
              refine pq 24 64 mkA9_25 ?_
              refine pq 25 65 mkA9_26 ?_
              refine pq 26 66 mkA9_27 ?_
              refine pq 27 67 mkA9_28 ?_
              refine done_ (done_of HT_.out (by kernel_rfl)) ?_
              try go_wp2
              go_meet
              case rel => exact ⟨_, ((t141 != ((R3 lA a2_1).f2))), pv, H', ⟨by have := HJ3.out; have := HJ15.out; first | omega | exact Nat.le_refl _⟩, ⟨bt⟩, ⟨bt⟩, ⟨bt⟩, ⟨bel⟩⟩
            ·rw [if_neg c37] at H
             have c37b0 : decide (0 ≤ ((R3 lA a2_1).f2)) = false := decide_eq_false c37
             clear c37
             have H' := Ae.mk H
             clear H
             try go_wp2
             have n0_ := Ae.mk (blk_drew BK137.out)
             have n1_ := Ae.mk (blk_drew BK138.out)
             have n2_ := Ae.mk (blk_drew BK140.out)
             have n3_ := Ae.mk (below_drew1 HB.out)
             clear BK137
             clear BK138
             clear BK140
             clear HB
             have BK137 := n0_
             have BK138 := n1_
             have BK140 := n2_
             have HB := n3_
             clear n0_ n1_ n2_ n3_
             refine start_ (n := 28) (S := fun w' => w'.cell? ⟨gb140, 0, none⟩ = some (.string ((R3 lA a2_1).f0)) ∧ w'.cell? ⟨gb140, 1, none⟩ = some (.int .i64 ((R3 lA a2_1).f1)) ∧ w'.cell? ⟨gb140, 2, none⟩ = some (.int .i64 ((R3 lA a2_1).f2)) ∧ w'.cell? ⟨gb140, 3, none⟩ = some (.int .i64 ((R3 lA a2_1).f3)) ∧ w'.cell? ⟨gb140, 4, none⟩ = some (.int .i64 ((R3 lA a2_1).f4)) ∧ w'.cell? ⟨gb140, 5, none⟩ = some (.slice A139_5 ((R3 lA a2_1).f5).length c139_5) ∧ w'.cell? ⟨gb138, 0, none⟩ = some (.int .i64 a2_0) ∧ w'.cell? ⟨gb138, 1, none⟩ = some (.int .i64 a2_1) ∧ w'.cell? ⟨gb138, 2, none⟩ = some (.int .i64 a2_2) ∧ w'.cell? ⟨gb138, 3, none⟩ = some (.string a2_3) ∧ w'.cell? ⟨gb138, 4, none⟩ = some (.slice A2_4 l2_4.length c2_4)) (ds := []) mkA9_0 (by kernel_rfl) rfl rfl ⟨(bC BK140.out 0).trans rfl, (bC BK140.out 1).trans rfl, (bC BK140.out 2).trans rfl, (bC BK140.out 3).trans rfl, (bC BK140.out 4).trans rfl, (bC BK140.out 5).trans rfl, (bC BK138.out 0).trans rfl, (bC BK138.out 1).trans rfl, (bC BK138.out 2).trans rfl, (bC BK138.out 3).trans rfl, (bC BK138.out 4).trans rfl⟩ (fun hHeld => ?_); refine with_tabW cL.tab6 cL.bits6 (fun HT_ HW_ => ?_)
             generalize wc.drew = w43 at BK137 BK138 BK140 HB hHeld ⊢
             refine pq 0 40 mkA9_1 ?_
             refine tq 1 41 mkA9_2 ?_
             refine pq 2 42 mkA9_3 ?_
             refine pq 3 43 mkA9_4 ?_
             refine pq 4 44 mkA9_5 ?_
             refine tq 5 45 mkA9_6 ?_
             refine pq 6 46 mkA9_7 ?_
             refine pq 7 47 mkA9_8 ?_
             refine pq 8 48 mkA9_9 ?_
             refine pq 9 49 mkA9_10 ?_
             refine tq 10 50 mkA9_11 ?_
             refine pq 11 51 mkA9_12 ?_
             refine pq 12 52 mkA9_13 ?_
             refine uq 13 53 mkA9_14 ?_
             refine uq 14 54 mkA9_15 ?_
             refine uq 15 55 mkA9_16 ?_
             refine uq 16 56 mkA9_17 ?_
             refine uq 17 57 mkA9_18 ?_
             refine uq 18 58 mkA9_19 ?_
             refine uq 19 59 mkA9_20 ?_
             refine uq 20 60 mkA9_21 ?_
             refine uq 21 61 mkA9_22 ?_
             refine uq 22 62 mkA9_23 ?_
             refine uq 23 63 mkA9_24 ?_
             refine uq 24 64 mkA9_25 ?_
             refine uq 25 65 mkA9_26 ?_
             refine pq 26 66 mkA9_27 ?_
             refine pq 27 67 mkA9_28 ?_
             refine done_ (done_of HT_.out (by kernel_rfl)) ?_
             try go_wp2
             go_meet
             case rel => exact ⟨_, (false), pv, H', ⟨by have := HJ3.out; have := HJ15.out; first | omega | exact Nat.le_refl _⟩, ⟨bt⟩, ⟨bt⟩, ⟨bt⟩, ⟨bel⟩⟩
           ·rw [if_neg c36] at H
            have c36b0 : (a2_2 == (-1)) = false := beq_eq_false_iff_ne.mpr c36
            have c36b1 : (a2_2 != (-1)) = true := bne_iff_ne.mpr c36
            have H' := Ae.mk H
            clear H
            try go_wp2
            have n0_ := Ae.mk (blk_drew BK137.out)
            have n1_ := Ae.mk (blk_drew BK138.out)
            have n2_ := Ae.mk (blk_drew BK140.out)
            have n3_ := Ae.mk (below_drew1 HB.out)
            clear BK137
            clear BK138
            clear BK140
            clear HB
            have BK137 := n0_
            have BK138 := n1_
            have BK140 := n2_
            have HB := n3_
            clear n0_ n1_ n2_ n3_
            refine start_ (n := 28) (S := fun w' => w'.cell? ⟨gb140, 0, none⟩ = some (.string ((R3 lA a2_1).f0)) ∧ w'.cell? ⟨gb140, 1, none⟩ = some (.int .i64 ((R3 lA a2_1).f1)) ∧ w'.cell? ⟨gb140, 2, none⟩ = some (.int .i64 ((R3 lA a2_1).f2)) ∧ w'.cell? ⟨gb140, 3, none⟩ = some (.int .i64 ((R3 lA a2_1).f3)) ∧ w'.cell? ⟨gb140, 4, none⟩ = some (.int .i64 ((R3 lA a2_1).f4)) ∧ w'.cell? ⟨gb140, 5, none⟩ = some (.slice A139_5 ((R3 lA a2_1).f5).length c139_5) ∧ w'.cell? ⟨gb138, 0, none⟩ = some (.int .i64 a2_0) ∧ w'.cell? ⟨gb138, 1, none⟩ = some (.int .i64 a2_1) ∧ w'.cell? ⟨gb138, 2, none⟩ = some (.int .i64 a2_2) ∧ w'.cell? ⟨gb138, 3, none⟩ = some (.string a2_3) ∧ w'.cell? ⟨gb138, 4, none⟩ = some (.slice A2_4 l2_4.length c2_4)) (ds := []) mkA9_0 (by kernel_rfl) rfl rfl ⟨(bC BK140.out 0).trans rfl, (bC BK140.out 1).trans rfl, (bC BK140.out 2).trans rfl, (bC BK140.out 3).trans rfl, (bC BK140.out 4).trans rfl, (bC BK140.out 5).trans rfl, (bC BK138.out 0).trans rfl, (bC BK138.out 1).trans rfl, (bC BK138.out 2).trans rfl, (bC BK138.out 3).trans rfl, (bC BK138.out 4).trans rfl⟩ (fun hHeld => ?_); refine with_tabW cL.tab6 cL.bits6 (fun HT_ HW_ => ?_)
            generalize wc.drew = w44 at BK137 BK138 BK140 HB hHeld ⊢
            refine pq 0 40 mkA9_1 ?_
            refine tq 1 41 mkA9_2 ?_
            refine pq 2 42 mkA9_3 ?_
            refine pq 3 43 mkA9_4 ?_
            refine pq 4 44 mkA9_5 ?_
            refine tq 5 45 mkA9_6 ?_
            refine pq 6 46 mkA9_7 ?_
            refine pq 7 47 mkA9_8 ?_
            refine pq 8 48 mkA9_9 ?_
            refine uq 9 49 mkA9_10 ?_
            refine uq 10 50 mkA9_11 ?_
            refine uq 11 51 mkA9_12 ?_
            refine uq 12 52 mkA9_13 ?_
            refine uq 13 53 mkA9_14 ?_
            refine uq 14 54 mkA9_15 ?_
            refine uq 15 55 mkA9_16 ?_
            refine uq 16 56 mkA9_17 ?_
            refine uq 17 57 mkA9_18 ?_
            refine uq 18 58 mkA9_19 ?_
            refine uq 19 59 mkA9_20 ?_
            refine uq 20 60 mkA9_21 ?_
            refine uq 21 61 mkA9_22 ?_
            refine uq 22 62 mkA9_23 ?_
            refine uq 23 63 mkA9_24 ?_
            refine uq 24 64 mkA9_25 ?_
            refine uq 25 65 mkA9_26 ?_
            refine uq 26 66 mkA9_27 ?_
            refine pq 27 67 mkA9_28 ?_
            refine done_ (done_of HT_.out (by kernel_rfl)) ?_
            try go_wp2
            go_meet
            case rel => exact ⟨_, (true), pv, H', ⟨by have := HJ3.out; have := HJ15.out; first | omega | exact Nat.le_refl _⟩, ⟨bt⟩, ⟨bt⟩, ⟨bt⟩, ⟨bel⟩⟩
          ·rw [if_neg c35] at H
           have c35b0 : decide (((R3 lA a2_1).f2) < 0) = false := decide_eq_false c35
           clear c35
           (first | rw [c35b0] | (simp only [i64_w, i32_w]; rw [c35b0]) | skip)
           by_cases c45 : ((R3 lA a2_1).f2) ≥ 0
           ·rw [if_pos c45] at H
            have c45b0 : decide (0 ≤ ((R3 lA a2_1).f2)) = true := decide_eq_true c45
            clear c45
            by_cases c46 : a2_2 < 0
            ·rw [if_pos c46] at H
             have c46b0 : decide (a2_2 < 0) = true := decide_eq_true c46
             clear c46
             have H' := Ae.mk H
             clear H
             try go_wp2
             have n0_ := Ae.mk (blk_drew BK137.out)
             have n1_ := Ae.mk (blk_drew BK138.out)
             have n2_ := Ae.mk (blk_drew BK140.out)
             have n3_ := Ae.mk (below_drew1 HB.out)
             clear BK137
             clear BK138
             clear BK140
             clear HB
             have BK137 := n0_
             have BK138 := n1_
             have BK140 := n2_
             have HB := n3_
             clear n0_ n1_ n2_ n3_
             refine start_ (n := 28) (S := fun w' => w'.cell? ⟨gb140, 0, none⟩ = some (.string ((R3 lA a2_1).f0)) ∧ w'.cell? ⟨gb140, 1, none⟩ = some (.int .i64 ((R3 lA a2_1).f1)) ∧ w'.cell? ⟨gb140, 2, none⟩ = some (.int .i64 ((R3 lA a2_1).f2)) ∧ w'.cell? ⟨gb140, 3, none⟩ = some (.int .i64 ((R3 lA a2_1).f3)) ∧ w'.cell? ⟨gb140, 4, none⟩ = some (.int .i64 ((R3 lA a2_1).f4)) ∧ w'.cell? ⟨gb140, 5, none⟩ = some (.slice A139_5 ((R3 lA a2_1).f5).length c139_5) ∧ w'.cell? ⟨gb138, 0, none⟩ = some (.int .i64 a2_0) ∧ w'.cell? ⟨gb138, 1, none⟩ = some (.int .i64 a2_1) ∧ w'.cell? ⟨gb138, 2, none⟩ = some (.int .i64 a2_2) ∧ w'.cell? ⟨gb138, 3, none⟩ = some (.string a2_3) ∧ w'.cell? ⟨gb138, 4, none⟩ = some (.slice A2_4 l2_4.length c2_4)) (ds := []) mkA9_0 (by kernel_rfl) rfl rfl ⟨(bC BK140.out 0).trans rfl, (bC BK140.out 1).trans rfl, (bC BK140.out 2).trans rfl, (bC BK140.out 3).trans rfl, (bC BK140.out 4).trans rfl, (bC BK140.out 5).trans rfl, (bC BK138.out 0).trans rfl, (bC BK138.out 1).trans rfl, (bC BK138.out 2).trans rfl, (bC BK138.out 3).trans rfl, (bC BK138.out 4).trans rfl⟩ (fun hHeld => ?_); refine with_tabW cL.tab6 cL.bits6 (fun HT_ HW_ => ?_)
             generalize wc.drew = w47 at BK137 BK138 BK140 HB hHeld ⊢
             refine pq 0 40 mkA9_1 ?_
             refine tq 1 41 mkA9_2 ?_
             refine pq 2 42 mkA9_3 ?_
             refine pq 3 43 mkA9_4 ?_
             refine uq 4 44 mkA9_5 ?_
             refine uq 5 45 mkA9_6 ?_
             refine uq 6 46 mkA9_7 ?_
             refine pq 7 47 mkA9_8 ?_
             refine pq 8 48 mkA9_9 ?_
             refine pq 9 49 mkA9_10 ?_
             refine tq 10 50 mkA9_11 ?_
             refine pq 11 51 mkA9_12 ?_
             refine pq 12 52 mkA9_13 ?_
             refine pq 13 53 mkA9_14 ?_
             refine tq 14 54 mkA9_15 ?_
             refine pq 15 55 mkA9_16 ?_
             refine pq 16 56 mkA9_17 ?_
             refine uq 17 57 mkA9_18 ?_
             refine uq 18 58 mkA9_19 ?_
             refine uq 19 59 mkA9_20 ?_
             refine uq 20 60 mkA9_21 ?_
             refine uq 21 61 mkA9_22 ?_
             refine uq 22 62 mkA9_23 ?_
             refine uq 23 63 mkA9_24 ?_
             refine uq 24 64 mkA9_25 ?_
             refine pq 25 65 mkA9_26 ?_
             refine pq 26 66 mkA9_27 ?_
             refine pq 27 67 mkA9_28 ?_
             refine done_ (done_of HT_.out (by kernel_rfl)) ?_
             try go_wp2
             go_meet
             case rel => exact ⟨_, (true), pv, H', ⟨by have := HJ3.out; have := HJ15.out; first | omega | exact Nat.le_refl _⟩, ⟨bt⟩, ⟨bt⟩, ⟨bt⟩, ⟨bel⟩⟩
            ·rw [if_neg c46] at H
             have c46b0 : decide (a2_2 < 0) = false := decide_eq_false c46
             clear c46
             replace H := Option.bind_eq_some_iff.mp H
             obtain ⟨t142, A480, H⟩ := H
             replace H : (cL.j2 kj15 a1 (t142 != ((R3 lA a2_1).f2)) lA lB a2_0 a2_1 a2_2 a2_3 l2_4) = some r := H
             have A48 := Ae.mk A480
             clear A480
             have H' := Ae.mk H
             clear H
             try go_wp2
             have n0_ := Ae.mk (blk_drew BK137.out)
             have n1_ := Ae.mk (blk_drew BK138.out)
             have n2_ := Ae.mk (blk_drew BK140.out)
             have n3_ := Ae.mk (below_drew1 HB.out)
             clear BK137
             clear BK138
             clear BK140
             clear HB
             have BK137 := n0_
             have BK138 := n1_
             have BK140 := n2_
             have HB := n3_
             clear n0_ n1_ n2_ n3_
             refine start_ (n := 28) (S := fun w' => w'.cell? ⟨gb140, 0, none⟩ = some (.string ((R3 lA a2_1).f0)) ∧ w'.cell? ⟨gb140, 1, none⟩ = some (.int .i64 ((R3 lA a2_1).f1)) ∧ w'.cell? ⟨gb140, 2, none⟩ = some (.int .i64 ((R3 lA a2_1).f2)) ∧ w'.cell? ⟨gb140, 3, none⟩ = some (.int .i64 ((R3 lA a2_1).f3)) ∧ w'.cell? ⟨gb140, 4, none⟩ = some (.int .i64 ((R3 lA a2_1).f4)) ∧ w'.cell? ⟨gb140, 5, none⟩ = some (.slice A139_5 ((R3 lA a2_1).f5).length c139_5) ∧ w'.cell? ⟨gb138, 0, none⟩ = some (.int .i64 a2_0) ∧ w'.cell? ⟨gb138, 1, none⟩ = some (.int .i64 a2_1) ∧ w'.cell? ⟨gb138, 2, none⟩ = some (.int .i64 a2_2) ∧ w'.cell? ⟨gb138, 3, none⟩ = some (.string a2_3) ∧ w'.cell? ⟨gb138, 4, none⟩ = some (.slice A2_4 l2_4.length c2_4) ∧ w'.cell? ⟨gb137, 0, none⟩ = some (.slice (some ad139) lA.length c0_0) ∧ w'.cell? ⟨gb137, 1, none⟩ = some (.slice A0_1 lB.length c0_1)) (ds := []) mkA9_0 (by kernel_rfl) rfl rfl ⟨(bC BK140.out 0).trans rfl, (bC BK140.out 1).trans rfl, (bC BK140.out 2).trans rfl, (bC BK140.out 3).trans rfl, (bC BK140.out 4).trans rfl, (bC BK140.out 5).trans rfl, (bC BK138.out 0).trans rfl, (bC BK138.out 1).trans rfl, (bC BK138.out 2).trans rfl, (bC BK138.out 3).trans rfl, (bC BK138.out 4).trans rfl, (bC BK137.out 0).trans rfl, (bC BK137.out 1).trans rfl⟩ (fun hHeld => ?_); refine with_tabW cL.tab6 cL.bits6 (fun HT_ HW_ => ?_)
             generalize wc.drew = w49 at BK137 BK138 BK140 HB hHeld ⊢
             refine pq 0 40 mkA9_1 ?_
             refine tq 1 41 mkA9_2 ?_
             refine pq 2 42 mkA9_3 ?_
             refine pq 3 43 mkA9_4 ?_
             refine uq 4 44 mkA9_5 ?_
             refine uq 5 45 mkA9_6 ?_
             refine uq 6 46 mkA9_7 ?_
             refine pq 7 47 mkA9_8 ?_
             refine pq 8 48 mkA9_9 ?_
             refine pq 9 49 mkA9_10 ?_
             refine tq 10 50 mkA9_11 ?_
             refine pq 11 51 mkA9_12 ?_
             refine pq 12 52 mkA9_13 ?_
             refine pq 13 53 mkA9_14 ?_
             refine tq 14 54 mkA9_15 ?_
             refine pq 15 55 mkA9_16 ?_
             refine pq 16 56 mkA9_17 ?_
             refine pq 18 58 mkA9_29 ?_
             refine pq 19 59 mkA9_30 ?_
             refine pq 22 62 mkA9_31 ?_
             refine tq 17 57 mkA9_32 ?_
             refine tq 20 60 mkA9_33 ?_
             refine tq 23 63 mkA9_34 ?_
             refine one_ (i := 21) (N := some 61) mkA9_24 rfl rfl (one_of HT_.out (by kernel_rfl)) (by decide) (fun K hK => ?_)
             refine goes_ Tryz.func72 (by kernel_rfl) rfl #[.agg #[.slice (some ad139) lA.length c0_0, .slice A0_1 lB.length c0_1], .int .i64 a1, .int .i64 a2_2] (by rfl) rfl rfl am ?_
             with_reducible refine (oU.calls kj15 _ _ lA _ _ lB a1 a2_2 t142 _ ?side1 ?side2 ?side3 ?side4 A48.out).mono ?_
             (case side1 => exact cb HR0_0)
             (case side2 => exact HC0_0.out)
             (case side3 => exact cb HR0_1)
             (case side4 => exact HC0_1.out)
             rintro e w50 ⟨rfl, hb⟩
             refine ⟨_, rfl, ?_⟩
             have n0_ := bb BK137 hb
             have n1_ := bb BK138 hb
             have n2_ := bb BK140 hb
             have n3_ := bes hb
             clear BK137
             clear BK138
             clear BK140
             clear HB
             have BK137 := n0_
             have BK138 := n1_
             have BK140 := n2_
             have HB := n3_
             clear n0_ n1_ n2_ n3_
             refine hK.out _ _ ⟨(bC BK140.out 0).trans rfl, (bC BK140.out 1).trans rfl, (bC BK140.out 2).trans rfl, (bC BK140.out 3).trans rfl, (bC BK140.out 4).trans rfl, (bC BK140.out 5).trans rfl, (bC BK138.out 0).trans rfl, (bC BK138.out 1).trans rfl, (bC BK138.out 2).trans rfl, (bC BK138.out 3).trans rfl, (bC BK138.out 4).trans rfl, (bC BK137.out 0).trans rfl, (bC BK137.out 1).trans rfl⟩ (fun hHeld => ?_)
             clear hK K
             refine norm_ (a' := ?_) ?_ ?_
             rotate_left
             ·show Act.put _ (some 61) _ = _
              simp only [Act.put, List.setIfInBounds_toArray, List.set_cons_zero, List.set_cons_succ, i64_w, i32_w]
              rfl
             refine pq 24 64 mkA9_25 ?_
             refine pq 25 65 mkA9_26 ?_
             refine pq 26 66 mkA9_27 ?_
             refine pq 27 67 mkA9_28 ?_
             refine done_ (done_of HT_.out (by kernel_rfl)) ?_
             try go_wp2
             go_meet
             case rel => exact ⟨_, ((t142 != ((R3 lA a2_1).f2))), pv, H', ⟨by have := HJ3.out; have := HJ15.out; first | omega | exact Nat.le_refl _⟩, ⟨bt⟩, ⟨bt⟩, ⟨bt⟩, ⟨bel⟩⟩
           ·rw [if_neg c45] at H
            have c45b0 : decide (0 ≤ ((R3 lA a2_1).f2)) = false := decide_eq_false c45
            clear c45
            have H' := Ae.mk H
            clear H
            try go_wp2
            have n0_ := Ae.mk (blk_drew BK137.out)
            have n1_ := Ae.mk (blk_drew BK138.out)
            have n2_ := Ae.mk (blk_drew BK140.out)
            have n3_ := Ae.mk (below_drew1 HB.out)
            clear BK137
            clear BK138
            clear BK140
            clear HB
            have BK137 := n0_
            have BK138 := n1_
            have BK140 := n2_
            have HB := n3_
            clear n0_ n1_ n2_ n3_
            refine start_ (n := 28) (S := fun w' => w'.cell? ⟨gb140, 0, none⟩ = some (.string ((R3 lA a2_1).f0)) ∧ w'.cell? ⟨gb140, 1, none⟩ = some (.int .i64 ((R3 lA a2_1).f1)) ∧ w'.cell? ⟨gb140, 2, none⟩ = some (.int .i64 ((R3 lA a2_1).f2)) ∧ w'.cell? ⟨gb140, 3, none⟩ = some (.int .i64 ((R3 lA a2_1).f3)) ∧ w'.cell? ⟨gb140, 4, none⟩ = some (.int .i64 ((R3 lA a2_1).f4)) ∧ w'.cell? ⟨gb140, 5, none⟩ = some (.slice A139_5 ((R3 lA a2_1).f5).length c139_5)) (ds := []) mkA9_0 (by kernel_rfl) rfl rfl ⟨(bC BK140.out 0).trans rfl, (bC BK140.out 1).trans rfl, (bC BK140.out 2).trans rfl, (bC BK140.out 3).trans rfl, (bC BK140.out 4).trans rfl, (bC BK140.out 5).trans rfl⟩ (fun hHeld => ?_); refine with_tabW cL.tab6 cL.bits6 (fun HT_ HW_ => ?_)
            generalize wc.drew = w51 at BK137 BK138 BK140 HB hHeld ⊢
            refine pq 0 40 mkA9_1 ?_
            refine tq 1 41 mkA9_2 ?_
            refine pq 2 42 mkA9_3 ?_
            refine pq 3 43 mkA9_4 ?_
            refine uq 4 44 mkA9_5 ?_
            refine uq 5 45 mkA9_6 ?_
            refine uq 6 46 mkA9_7 ?_
            refine pq 7 47 mkA9_8 ?_
            refine pq 8 48 mkA9_9 ?_
            refine pq 9 49 mkA9_10 ?_
            refine tq 10 50 mkA9_11 ?_
            refine pq 11 51 mkA9_12 ?_
            refine pq 12 52 mkA9_13 ?_
            refine uq 13 53 mkA9_14 ?_
            refine uq 14 54 mkA9_15 ?_
            refine uq 15 55 mkA9_16 ?_
            refine uq 16 56 mkA9_17 ?_
            refine uq 17 57 mkA9_18 ?_
            refine uq 18 58 mkA9_19 ?_
            refine uq 19 59 mkA9_20 ?_
            refine uq 20 60 mkA9_21 ?_
            refine uq 21 61 mkA9_22 ?_
            refine uq 22 62 mkA9_23 ?_
            refine uq 23 63 mkA9_24 ?_
            refine uq 24 64 mkA9_25 ?_
            refine uq 25 65 mkA9_26 ?_
            refine pq 26 66 mkA9_27 ?_
            refine pq 27 67 mkA9_28 ?_
            refine done_ (done_of HT_.out (by kernel_rfl)) ?_
            try go_wp2
            go_meet
            case rel => exact ⟨_, (false), pv, H', ⟨by have := HJ3.out; have := HJ15.out; first | omega | exact Nat.le_refl _⟩, ⟨bt⟩, ⟨bt⟩, ⟨bt⟩, ⟨bel⟩⟩
         case rest =>
          clear HC34
          obtain ⟨kq, x67_33, rfl, HA, HJ33, BK137, BK138, BK140, HB⟩ := hcut
          cases kq with
          | zero => exact absurd HA.out (by simp [cL.j2])
          | succ kj33 =>
           have H := HA.out
           clear HA
           simp only [cL.j2] at H
           by_cases c52 : x67_33 = true
           ·subst c52
            have H1 : (some false) = some r := by rw [if_pos rfl] at H; exact H
            clear H
            have H := H1
            clear H1
            obtain rfl := Option.some.inj H
            go_wp2
            go_ret
            exact fn
           ·replace c52 := Bool.eq_false_iff.mpr c52
            subst c52
            have H1 : (cL.l0 kj33 a1 l2_4 (l2_4.length : Int) 0 lA lB) = some r := by rw [if_neg (show ¬ (false = true) by decide)] at H; exact H
            clear H
            have H := H1
            clear H1
            have H' := Ae.mk H
            clear H
            have hnb53 := NB138_137.out
            have hnc53 := NB137_138.out
            have hnb54 := NB138_140.out
            have hnc54 := NB140_138.out
            have hcz55_0 : wc.cell? ⟨gb138, 0, none⟩ = some (.int .i64 a2_0) := (bC BK138.out 0).trans rfl
            have hcz55_1 : wc.cell? ⟨gb138, 1, none⟩ = some (.int .i64 a2_1) := (bC BK138.out 1).trans rfl
            have hcz55_2 : wc.cell? ⟨gb138, 2, none⟩ = some (.int .i64 a2_2) := (bC BK138.out 2).trans rfl
            have hcz55_3 : wc.cell? ⟨gb138, 3, none⟩ = some (.string a2_3) := (bC BK138.out 3).trans rfl
            have hcz55_4 : wc.cell? ⟨gb138, 4, none⟩ = some (.slice A2_4 l2_4.length c2_4) := (bC BK138.out 4).trans rfl
            have hfz55_0 := bF BK138.out 0
            have hfz55_1 := bF BK138.out 1
            have hfz55_2 := bF BK138.out 2
            have hfz55_3 := bF BK138.out 3
            have hfz55_4 := bF BK138.out 4
            go_wp2
            go_loopg [71] kj33 (fun kq v71 w' => ∃ (x71_4 : Int), v71 = .int .i64 x71_4 ∧ Ae (cL.l0 kq a1 l2_4 (l2_4.length : Int) x71_4 lA lB = some r) ∧ Ae (kq ≤ kj33) ∧ Ae (w'.heap[gb137]? = some (.cells #[(.slice (some ad139) lA.length c0_0), (.slice A0_1 lB.length c0_1)] 58 (0, 0))) ∧ Ae (w'.heap[gb138]? = some (.cells #[.int .i64 a2_0, .int .i64 a2_1, .int .i64 a2_2, .string a2_3, (.slice A2_4 l2_4.length c2_4)] 56 (0, 0))) ∧ Ae (w'.heap[gb140]? = some (.cells #[.string ((R3 lA a2_1).f0), .int .i64 ((R3 lA a2_1).f1), .int .i64 ((R3 lA a2_1).f2), .int .i64 ((R3 lA a2_1).f3), .int .i64 ((R3 lA a2_1).f4), (.slice A139_5 ((R3 lA a2_1).f5).length c139_5)] 30 (0, 0))) ∧ Ae (Below w.heap.size w w'))
            case atStart => exact ⟨(0), pv, H', ⟨Nat.le_refl _⟩, ⟨bt⟩, ⟨bt⟩, ⟨bt⟩, ⟨bel⟩⟩
            case round =>
             clear H'
             obtain ⟨x71_4, rfl, HA, HK4, BK137, BK138, BK140, HB⟩ := hrel
             cases gk with
             | zero => exact absurd HA.out (by simp [cL.l0])
             | succ k4 =>
              have H := HA.out
              clear HA
              simp only [cL.l0] at H
              by_cases c56 : x71_4 < (l2_4.length : Int)
              ·rw [if_pos c56] at H
               have c56b0 : decide (x71_4 < (l2_4.length : Int)) = true := decide_eq_true c56
               clear c56
               by_cases c57 : 0 ≤ x71_4
               ·rw [if_pos c57] at H
                have c57b0 : decide (0 ≤ x71_4) = true := decide_eq_true c57
                clear c57
                by_cases c58 : x71_4 < (l2_4.length : Int)
                ·rw [if_pos c58] at H
                 have c58b0 : decide (x71_4 < (l2_4.length : Int)) = true := decide_eq_true c58
                 clear c58
                 replace H := Option.bind_eq_some_iff.mp H
                 obtain ⟨t145, A590, H⟩ := H
                 replace H : (if t145 = true then (cL.l0 k4 a1 l2_4 (l2_4.length : Int) (wrap64 (x71_4 + 1)) lA lB) else (some false)) = some r := H
                 have A59 := Ae.mk A590
                 clear A590
                 by_cases c60 : t145 = true
                 ·subst c60
                  have H1 : (cL.l0 k4 a1 l2_4 (l2_4.length : Int) (wrap64 (x71_4 + 1)) lA lB) = some r := by rw [if_pos rfl] at H; exact H
                  clear H
                  have H := H1
                  clear H1
                  have H' := Ae.mk H
                  clear H
                  have p143 : 0 ≤ (x71_4 : Int) := of_decide_eq_true ass
                  have q143 : x71_4 < (l2_4.length : Int) := of_decide_eq_true ass
                  obtain ⟨ad143, e143, hx143_0, hx143_1, hx143_2⟩ := at_T99 HR2_4.out x71_4 p143 q143
                  cases e143
                  replace hx143_0 := cq HB hx143_0
                  replace hx143_1 := cq HB hx143_1
                  replace hx143_2 := cq HB hx143_2
                  replace p143 := eq_true p143
                  replace q143 := eq_true q143
                  go_wp2_with (first | ((with_reducible refine gD (N := 9) rfl ?_); (try (refine gate_guard (by rfl) ?_; dsimp only)); refine bE ?hg (N := 9) ?hd (cs := #[.int .i64 0, .int .i64 0, .int .i64 0]) (t := 99) ?hr ?_; (case hd => rfl); (case hg => rfl); (case hr => first | (go_simp; done) | (go_simp; rfl)); intro gb144 hg w61 hbox hb; have n0_ := bb BK137 hb; have n1_ := bb BK138 hb; have n2_ := bb BK140 hb; have n3_ := bes hb; have n4_ := Ae.mk (hbox); have n5_ := Ae.mk ((bez hg : w.heap.size ≤ gb144)); have n6_ := Ae.mk ((bez hg : w.heap.size ≤ gb144)); have n7_ := Ae.mk ((by rw [hg]; exact Nat.ne_of_lt (blk_lt (g := gb137) (o := .cells #[.slice (some ad139) lA.length c0_0, .slice A0_1 lB.length c0_1] 58 (0, 0)) bt) : gb137 ≠ gb144)); have n8_ := Ae.mk ((by rw [hg]; exact Nat.ne_of_gt (blk_lt (g := gb137) (o := .cells #[.slice (some ad139) lA.length c0_0, .slice A0_1 lB.length c0_1] 58 (0, 0)) bt) : gb144 ≠ gb137)); have n9_ := Ae.mk ((by rw [hg]; exact Nat.ne_of_lt (blk_lt (g := gb138) (o := .cells #[.int .i64 a2_0, .int .i64 a2_1, .int .i64 a2_2, .string a2_3, .slice (some ad143) l2_4.length c2_4] 56 (0, 0)) bt) : gb138 ≠ gb144)); have n10_ := Ae.mk ((by rw [hg]; exact Nat.ne_of_gt (blk_lt (g := gb138) (o := .cells #[.int .i64 a2_0, .int .i64 a2_1, .int .i64 a2_2, .string a2_3, .slice (some ad143) l2_4.length c2_4] 56 (0, 0)) bt) : gb144 ≠ gb138)); have n11_ := Ae.mk ((by rw [hg]; exact Nat.ne_of_lt (blk_lt (g := gb140) (o := .cells #[.string ((R3 lA a2_1).f0), .int .i64 ((R3 lA a2_1).f1), .int .i64 ((R3 lA a2_1).f2), .int .i64 ((R3 lA a2_1).f3), .int .i64 ((R3 lA a2_1).f4), .slice A139_5 ((R3 lA a2_1).f5).length c139_5] 30 (0, 0)) bt) : gb140 ≠ gb144)); have n12_ := Ae.mk ((by rw [hg]; exact Nat.ne_of_gt (blk_lt (g := gb140) (o := .cells #[.string ((R3 lA a2_1).f0), .int .i64 ((R3 lA a2_1).f1), .int .i64 ((R3 lA a2_1).f2), .int .i64 ((R3 lA a2_1).f3), .int .i64 ((R3 lA a2_1).f4), .slice A139_5 ((R3 lA a2_1).f5).length c139_5] 30 (0, 0)) bt) : gb144 ≠ gb140)); clear BK137; clear BK138; clear BK140; clear HB; have BK137 := n0_; have BK138 := n1_; have BK140 := n2_; have HB := n3_; have BK144 := n4_; have GW144 := n5_; have GE144 := n6_; have NB137_144 := n7_; have NB144_137 := n8_; have NB138_144 := n9_; have NB144_138 := n10_; have NB140_144 := n11_; have NB144_140 := n12_; clear n0_ n1_ n2_ n3_ n4_ n5_ n6_ n7_ n8_ n9_ n10_ n11_ n12_; clear hb hbox hg; have hnb62 := NB144_137.out; have hnc62 := NB137_144.out; have hnb63 := NB144_138.out; have hnc63 := NB138_144.out; have hnb64 := NB144_140.out; have hnc64 := NB140_144.out; have hcz65_0 : w61.cell? ⟨gb144, 0, none⟩ = some (.int .i64 0) := (bC BK144.out 0).trans rfl; have hcz65_1 : w61.cell? ⟨gb144, 1, none⟩ = some (.int .i64 0) := (bC BK144.out 1).trans rfl; have hcz65_2 : w61.cell? ⟨gb144, 2, none⟩ = some (.int .i64 0) := (bC BK144.out 2).trans rfl; have hfz65_0 := bF BK144.out 0; have hfz65_1 := bF BK144.out 1; have hfz65_2 := bF BK144.out 2; have hnb66 := NB137_138.out; have hnc66 := NB138_137.out; have hnb67 := NB137_140.out; have hnc67 := NB140_137.out; have hcz68_0 : w61.cell? ⟨gb137, 0, none⟩ = some (.slice (some ad139) lA.length c0_0) := (bC BK137.out 0).trans rfl; have hcz68_1 : w61.cell? ⟨gb137, 1, none⟩ = some (.slice A0_1 lB.length c0_1) := (bC BK137.out 1).trans rfl; have hfz68_0 := bF BK137.out 0; have hfz68_1 := bF BK137.out 1) | ((with_reducible refine gate_callee (f := 73) rfl ?_); refine goesL_ (some 78) rfl rfl Tryz.func73 (by kernel_rfl) rfl #[.agg #[.slice (some ad139) lA.length c0_0, .slice A0_1 lB.length c0_1], .int .i64 a1, .agg #[.int .i64 ((rd_T99 l2_4 x71_4).f0), .int .i64 ((rd_T99 l2_4 x71_4).f1), .int .i64 ((rd_T99 l2_4 x71_4).f2)]] rfl am ?_; (with_reducible refine (cO.calls k4 _ _ lA _ _ lB a1 ((rd_T99 l2_4 x71_4).f0) ((rd_T99 l2_4 x71_4).f1) ((rd_T99 l2_4 x71_4).f2) true _ ?side1 ?side2 ?side3 ?side4 A59.out).mono ?_); (case side1 => exact Kd.C_below HR0_0.out bel); (case side2 => exact HC0_0.out); (case side3 => exact Kd.C_below HR0_1.out bel); (case side4 => exact HC0_1.out); rintro e w69 ⟨rfl, hb⟩; refine ⟨_, rfl, ?_⟩; have n0_ := bb BK137 hb; have n1_ := bb BK138 hb; have n2_ := bb BK140 hb; have n3_ := Ae.mk (blk_below (g := gb144) (o := .cells #[.int .i64 ((rd_T99 l2_4 x71_4).f0), .int .i64 ((rd_T99 l2_4 x71_4).f1), .int .i64 ((rd_T99 l2_4 x71_4).f2)] 99 (0, 0)) bt hb); have n4_ := bes hb; clear BK137; clear BK138; clear BK140; clear BK144; clear HB; have BK137 := n0_; have BK138 := n1_; have BK140 := n2_; have BK144 := n3_; have HB := n4_; clear n0_ n1_ n2_ n3_ n4_; (try clear hb); (try clear hb2); (try clear hk); (try clear hi)))
                  go_roundg k4
                  case measure => have := HJ3.out; have := HJ15.out; have := HJ33.out; have := HK4.out; omega
                  case rel => exact ⟨(wrap64 (x71_4 + 1)), pv, H', ⟨by have := HJ3.out; have := HJ15.out; have := HJ33.out; have := HK4.out; omega⟩, ⟨bt⟩, ⟨bt⟩, ⟨bt⟩, ⟨bel⟩⟩
                 ·replace c60 := Bool.eq_false_iff.mpr c60
                  subst c60
                  have H1 : (some false) = some r := by rw [if_neg (show ¬ (false = true) by decide)] at H; exact H
                  clear H
                  have H := H1
                  clear H1
                  obtain rfl := Option.some.inj H
                  have p143 : 0 ≤ (x71_4 : Int) := of_decide_eq_true ass
                  have q143 : x71_4 < (l2_4.length : Int) := of_decide_eq_true ass
                  obtain ⟨ad143, e143, hx143_0, hx143_1, hx143_2⟩ := at_T99 HR2_4.out x71_4 p143 q143
                  cases e143
                  replace hx143_0 := cq HB hx143_0
                  replace hx143_1 := cq HB hx143_1
                  replace hx143_2 := cq HB hx143_2
                  replace p143 := eq_true p143
                  replace q143 := eq_true q143
                  go_wp2_with (first | ((with_reducible refine gD (N := 9) rfl ?_); (try (refine gate_guard (by rfl) ?_; dsimp only)); refine bE ?hg (N := 9) ?hd (cs := #[.int .i64 0, .int .i64 0, .int .i64 0]) (t := 99) ?hr ?_; (case hd => rfl); (case hg => rfl); (case hr => first | (go_simp; done) | (go_simp; rfl)); intro gb144 hg w70 hbox hb; have n0_ := bb BK137 hb; have n1_ := bb BK138 hb; have n2_ := bb BK140 hb; have n3_ := bes hb; have n4_ := Ae.mk (hbox); have n5_ := Ae.mk ((bez hg : w.heap.size ≤ gb144)); have n6_ := Ae.mk ((bez hg : w.heap.size ≤ gb144)); have n7_ := Ae.mk ((by rw [hg]; exact Nat.ne_of_lt (blk_lt (g := gb137) (o := .cells #[.slice (some ad139) lA.length c0_0, .slice A0_1 lB.length c0_1] 58 (0, 0)) bt) : gb137 ≠ gb144)); have n8_ := Ae.mk ((by rw [hg]; exact Nat.ne_of_gt (blk_lt (g := gb137) (o := .cells #[.slice (some ad139) lA.length c0_0, .slice A0_1 lB.length c0_1] 58 (0, 0)) bt) : gb144 ≠ gb137)); have n9_ := Ae.mk ((by rw [hg]; exact Nat.ne_of_lt (blk_lt (g := gb138) (o := .cells #[.int .i64 a2_0, .int .i64 a2_1, .int .i64 a2_2, .string a2_3, .slice (some ad143) l2_4.length c2_4] 56 (0, 0)) bt) : gb138 ≠ gb144)); have n10_ := Ae.mk ((by rw [hg]; exact Nat.ne_of_gt (blk_lt (g := gb138) (o := .cells #[.int .i64 a2_0, .int .i64 a2_1, .int .i64 a2_2, .string a2_3, .slice (some ad143) l2_4.length c2_4] 56 (0, 0)) bt) : gb144 ≠ gb138)); have n11_ := Ae.mk ((by rw [hg]; exact Nat.ne_of_lt (blk_lt (g := gb140) (o := .cells #[.string ((R3 lA a2_1).f0), .int .i64 ((R3 lA a2_1).f1), .int .i64 ((R3 lA a2_1).f2), .int .i64 ((R3 lA a2_1).f3), .int .i64 ((R3 lA a2_1).f4), .slice A139_5 ((R3 lA a2_1).f5).length c139_5] 30 (0, 0)) bt) : gb140 ≠ gb144)); have n12_ := Ae.mk ((by rw [hg]; exact Nat.ne_of_gt (blk_lt (g := gb140) (o := .cells #[.string ((R3 lA a2_1).f0), .int .i64 ((R3 lA a2_1).f1), .int .i64 ((R3 lA a2_1).f2), .int .i64 ((R3 lA a2_1).f3), .int .i64 ((R3 lA a2_1).f4), .slice A139_5 ((R3 lA a2_1).f5).length c139_5] 30 (0, 0)) bt) : gb144 ≠ gb140)); clear BK137; clear BK138; clear BK140; clear HB; have BK137 := n0_; have BK138 := n1_; have BK140 := n2_; have HB := n3_; have BK144 := n4_; have GW144 := n5_; have GE144 := n6_; have NB137_144 := n7_; have NB144_137 := n8_; have NB138_144 := n9_; have NB144_138 := n10_; have NB140_144 := n11_; have NB144_140 := n12_; clear n0_ n1_ n2_ n3_ n4_ n5_ n6_ n7_ n8_ n9_ n10_ n11_ n12_; clear hb hbox hg; have hnb71 := NB144_137.out; have hnc71 := NB137_144.out; have hnb72 := NB144_138.out; have hnc72 := NB138_144.out; have hnb73 := NB144_140.out; have hnc73 := NB140_144.out; have hcz74_0 : w70.cell? ⟨gb144, 0, none⟩ = some (.int .i64 0) := (bC BK144.out 0).trans rfl; have hcz74_1 : w70.cell? ⟨gb144, 1, none⟩ = some (.int .i64 0) := (bC BK144.out 1).trans rfl; have hcz74_2 : w70.cell? ⟨gb144, 2, none⟩ = some (.int .i64 0) := (bC BK144.out 2).trans rfl; have hfz74_0 := bF BK144.out 0; have hfz74_1 := bF BK144.out 1; have hfz74_2 := bF BK144.out 2; have hnb75 := NB137_138.out; have hnc75 := NB138_137.out; have hnb76 := NB137_140.out; have hnc76 := NB140_137.out; have hcz77_0 : w70.cell? ⟨gb137, 0, none⟩ = some (.slice (some ad139) lA.length c0_0) := (bC BK137.out 0).trans rfl; have hcz77_1 : w70.cell? ⟨gb137, 1, none⟩ = some (.slice A0_1 lB.length c0_1) := (bC BK137.out 1).trans rfl; have hfz77_0 := bF BK137.out 0; have hfz77_1 := bF BK137.out 1) | ((with_reducible refine gate_callee (f := 73) rfl ?_); refine goesL_ (some 78) rfl rfl Tryz.func73 (by kernel_rfl) rfl #[.agg #[.slice (some ad139) lA.length c0_0, .slice A0_1 lB.length c0_1], .int .i64 a1, .agg #[.int .i64 ((rd_T99 l2_4 x71_4).f0), .int .i64 ((rd_T99 l2_4 x71_4).f1), .int .i64 ((rd_T99 l2_4 x71_4).f2)]] rfl am ?_; (with_reducible refine (cO.calls k4 _ _ lA _ _ lB a1 ((rd_T99 l2_4 x71_4).f0) ((rd_T99 l2_4 x71_4).f1) ((rd_T99 l2_4 x71_4).f2) false _ ?side1 ?side2 ?side3 ?side4 A59.out).mono ?_); (case side1 => exact Kd.C_below HR0_0.out bel); (case side2 => exact HC0_0.out); (case side3 => exact Kd.C_below HR0_1.out bel); (case side4 => exact HC0_1.out); rintro e w78 ⟨rfl, hb⟩; refine ⟨_, rfl, ?_⟩; have n0_ := bb BK137 hb; have n1_ := bb BK138 hb; have n2_ := bb BK140 hb; have n3_ := Ae.mk (blk_below (g := gb144) (o := .cells #[.int .i64 ((rd_T99 l2_4 x71_4).f0), .int .i64 ((rd_T99 l2_4 x71_4).f1), .int .i64 ((rd_T99 l2_4 x71_4).f2)] 99 (0, 0)) bt hb); have n4_ := bes hb; clear BK137; clear BK138; clear BK140; clear BK144; clear HB; have BK137 := n0_; have BK138 := n1_; have BK140 := n2_; have BK144 := n3_; have HB := n4_; clear n0_ n1_ n2_ n3_ n4_; (try clear hb); (try clear hb2); (try clear hk); (try clear hi)))
                  go_ret
                  exact fn
                ·rw [if_neg c58] at H
                 exact absurd H (by simp)
               ·rw [if_neg c57] at H
                exact absurd H (by simp)
              ·rw [if_neg c56] at H
               have c56b0 : decide (x71_4 < (l2_4.length : Int)) = false := decide_eq_false c56
               clear c56
               obtain rfl := Option.some.inj H
               go_wp2
               go_ret
               exact fn
     ·rw [if_neg c15] at H
      exact absurd H (by simp)
    ·rw [if_neg c14] at H
     exact absurd H (by simp)
end Go.Proofs.YtlbcnacfgickcaaGreatDoor.A
