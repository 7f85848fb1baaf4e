/- Printed by this session's own copy of the printer (wip/tools/mkprint.py): functions, and that the Go code answers as they do. -/
import Derived.Test.YtomkhipfooafnaaP0
import Derived.Test.YtomkhipfooafnaaP3
import Derived.Test.YtomkhipfooafnaaP4
import Derived.Test.YtomkhipfooafnaaP5
namespace Go.Proofs.Ytomkhipfooafnaa.P
open Go.RowKit Go.Proofs.YtomkhipfooafnaaW.PrintWords Go.Proofs.YtomkhipfooafnaaW.PrintLast Go.Proofs.YtomkhipfooafnaaW.PrintMore
attribute [local go_sem] max2_int min2_int max_two min_two max_three min_three max_four min_four   -- for this text's walks alone
set_option linter.unusedVariables false
set_option linter.unusedSimpArgs false

/-! ### colanderref11_Day: function 10 -/
def colanderref11_Day.f (k : Nat) (a0 : Int) (a1 : Int) (a2 : Int) : Option (Int × Int) := (colanderref11_known.f a0).bind fun t113 => (if t113 = true then (if a2 < 1 then (some (0, 110)) else ((colanderref11_Length.f k a0 a1).bind fun t114 => (if a2 > t114 then (some (0, 110)) else ((colanderref11_begin.f k a0 a1).bind fun t115 => (some (wrap64 ((wrap64 (t115 + a2)) - 1), 0)))))) else (some (0, 110)))
theorem colanderref11_Day.mono : ∀ a0 a1 a2 k, LeO (colanderref11_Day.f k a0 a1 a2) (colanderref11_Day.f (k + 1) a0 a1 a2) := by
  intro a0 a1 a2 k
  unfold colanderref11_Day.f
  repeat' first
      | (with_reducible exact colanderref11_Length.mono _ _ _)
      | (with_reducible exact colanderref11_begin.mono _ _ _)
      | (with_reducible exact LeO.refl _)
      | (with_reducible exact LeO.none _)
      | (with_reducible refine LeO.ite ?_ ?_)
      | (with_reducible refine LeO.bind ?_ (fun _ => ?_))
      | exact colanderref11_Length.mono _ _ _
      | exact colanderref11_begin.mono _ _ _
      | exact LeO.none _
      | refine LeO.ite ?_ ?_
      | refine LeO.bind ?_ (fun _ => ?_)
set_option maxHeartbeats 8000000 in
set_option maxRecDepth 100000 in
theorem colanderref11_Day.calls (k : Nat) (a0 : Int) (a1 : Int) (a2 : Int) (r1 : Int) (r2 : Int) (w : World) (h : colanderref11_Day.f k a0 a1 a2 = some (r1, r2)) :
    Calls Try.prog 10 #[.int .i64 a0, .int .i64 a1, .int .i64 a2] w fun e w' => e = .returned (.tuple #[.int .i64 r1, .int .i64 r2]) ∧ Drawn0 w w' := by
  have H : ((colanderref11_known.f a0).bind fun t113 => (if t113 = true then (if a2 < 1 then (some (0, 110)) else ((colanderref11_Length.f k a0 a1).bind fun t114 => (if a2 > t114 then (some (0, 110)) else ((colanderref11_begin.f k a0 a1).bind fun t115 => (some (wrap64 ((wrap64 (t115 + a2)) - 1), 0)))))) else (some (0, 110)))) = some (r1, r2) := h
  clear h
  replace H := Option.bind_eq_some_iff.mp H
  obtain ⟨t113, A40, H⟩ := H
  replace H : (if t113 = true then (if a2 < 1 then (some (0, 110)) else ((colanderref11_Length.f k a0 a1).bind fun t114 => (if a2 > t114 then (some (0, 110)) else ((colanderref11_begin.f k a0 a1).bind fun t115 => (some (wrap64 ((wrap64 (t115 + a2)) - 1), 0)))))) else (some (0, 110))) = some (r1, r2) := H
  have A4 := Aside0.mk A40
  clear A40
  by_cases c5 : t113 = true
  · subst c5
    have H1 : (if a2 < 1 then (some (0, 110)) else ((colanderref11_Length.f k a0 a1).bind fun t114 => (if a2 > t114 then (some (0, 110)) else ((colanderref11_begin.f k a0 a1).bind fun t115 => (some (wrap64 ((wrap64 (t115 + a2)) - 1), 0)))))) = some (r1, r2) := by rw [if_pos rfl] at H; exact H
    clear H
    have H := H1
    clear H1
    by_cases c6 : a2 < 1
    · rw [if_pos c6] at H
      have c6b0 : decide (a2 < 1) = true := decide_eq_true c6
      clear c6
      simp only [Option.some.injEq, Prod.mk.injEq] at H
      obtain ⟨rfl, rfl⟩ := H
      go_enter Try.func10, Try.ntmps10
      go_wp2_with (first | ((with_reducible refine gate_callee (f := 26) rfl ?_); refine goesL_ (some 9) rfl rfl Try.func26 (by kernel_rfl) rfl #[.int .i64 a0] rfl (by (try simp only [List.map_toArray, List.map_cons, List.map_nil]); first | done | rfl | (simp only [List.length_drop, List.length_take]; rfl)) ?_; (with_reducible refine (colanderref11_known.calls a0 true _ A4.out).mono ?_); rintro e w' ⟨rfl, ⟨nd, rfl⟩⟩; refine ⟨_, rfl, ?_⟩))
      go_ret2
      exact ⟨by first | rfl | (simp; done) | (simp [*]; done), by repeat (first | exact Drawn0.refl _ | apply Drawn0.step)⟩
    · rw [if_neg c6] at H
      have c6b0 : decide (a2 < 1) = false := decide_eq_false c6
      clear c6
      replace H := Option.bind_eq_some_iff.mp H
      obtain ⟨t114, A70, H⟩ := H
      replace H : (if a2 > t114 then (some (0, 110)) else ((colanderref11_begin.f k a0 a1).bind fun t115 => (some (wrap64 ((wrap64 (t115 + a2)) - 1), 0)))) = some (r1, r2) := H
      have A7 := Aside0.mk A70
      clear A70
      by_cases c8 : a2 > t114
      · rw [if_pos c8] at H
        have c8b0 : decide (t114 < a2) = true := decide_eq_true c8
        clear c8
        simp only [Option.some.injEq, Prod.mk.injEq] at H
        obtain ⟨rfl, rfl⟩ := H
        go_enter Try.func10, Try.ntmps10
        go_wp2_with (first | ((with_reducible refine gate_callee (f := 26) rfl ?_); refine goesL_ (some 9) rfl rfl Try.func26 (by kernel_rfl) rfl #[.int .i64 a0] rfl (by (try simp only [List.map_toArray, List.map_cons, List.map_nil]); first | done | rfl | (simp only [List.length_drop, List.length_take]; rfl)) ?_; (with_reducible refine (colanderref11_known.calls a0 true _ A4.out).mono ?_); rintro e w' ⟨rfl, ⟨nd, rfl⟩⟩; refine ⟨_, rfl, ?_⟩) | (go_at_call 16; (with_reducible refine (colanderref11_Length.calls k a0 a1 t114 _ A7.out).mono ?_); rintro e w' ⟨rfl, ⟨nd, rfl⟩⟩))
        go_ret2
        exact ⟨by first | rfl | (simp; done) | (simp [*]; done), by repeat (first | exact Drawn0.refl _ | apply Drawn0.step)⟩
      · rw [if_neg c8] at H
        have c8b0 : decide (t114 < a2) = false := decide_eq_false c8
        clear c8
        replace H := Option.bind_eq_some_iff.mp H
        obtain ⟨t115, A90, H⟩ := H
        replace H : (some (wrap64 ((wrap64 (t115 + a2)) - 1), 0)) = some (r1, r2) := H
        have A9 := Aside0.mk A90
        clear A90
        simp only [Option.some.injEq, Prod.mk.injEq] at H
        obtain ⟨rfl, rfl⟩ := H
        go_enter Try.func10, Try.ntmps10
        go_wp2_with (first | ((with_reducible refine gate_callee (f := 26) rfl ?_); refine goesL_ (some 9) rfl rfl Try.func26 (by kernel_rfl) rfl #[.int .i64 a0] rfl (by (try simp only [List.map_toArray, List.map_cons, List.map_nil]); first | done | rfl | (simp only [List.length_drop, List.length_take]; rfl)) ?_; (with_reducible refine (colanderref11_known.calls a0 true _ A4.out).mono ?_); rintro e w' ⟨rfl, ⟨nd, rfl⟩⟩; refine ⟨_, rfl, ?_⟩) | (go_at_call 16; (with_reducible refine (colanderref11_Length.calls k a0 a1 t114 _ A7.out).mono ?_); rintro e w' ⟨rfl, ⟨nd, rfl⟩⟩) | ((with_reducible refine gate_callee (f := 27) rfl ?_); refine goesL_ (some 24) rfl rfl Try.func27 (by kernel_rfl) rfl #[.int .i64 a0, .int .i64 a1] rfl (by (try simp only [List.map_toArray, List.map_cons, List.map_nil]); first | done | rfl | (simp only [List.length_drop, List.length_take]; rfl)) ?_; (with_reducible refine (colanderref11_begin.calls k a0 a1 t115 _ A9.out).mono ?_); rintro e w' ⟨rfl, ⟨nd, rfl⟩⟩; refine ⟨_, rfl, ?_⟩))
        go_ret2
        exact ⟨by first | rfl | (simp; done) | (simp [*]; done), by repeat (first | exact Drawn0.refl _ | apply Drawn0.step)⟩
  · replace c5 := Bool.eq_false_iff.mpr c5
    subst c5
    have H1 : (some (0, 110)) = some (r1, r2) := by rw [if_neg (show ¬ (false = true) by decide)] at H; exact H
    clear H
    have H := H1
    clear H1
    simp only [Option.some.injEq, Prod.mk.injEq] at H
    obtain ⟨rfl, rfl⟩ := H
    go_enter Try.func10, Try.ntmps10
    go_wp2_with (first | ((with_reducible refine gate_callee (f := 26) rfl ?_); refine goesL_ (some 9) rfl rfl Try.func26 (by kernel_rfl) rfl #[.int .i64 a0] rfl (by (try simp only [List.map_toArray, List.map_cons, List.map_nil]); first | done | rfl | (simp only [List.length_drop, List.length_take]; rfl)) ?_; (with_reducible refine (colanderref11_known.calls a0 false _ A4.out).mono ?_); rintro e w' ⟨rfl, ⟨nd, rfl⟩⟩; refine ⟨_, rfl, ?_⟩))
    go_ret2
    exact ⟨by first | rfl | (simp; done) | (simp [*]; done), by repeat (first | exact Drawn0.refl _ | apply Drawn0.step)⟩

/-! ### calendar_Date: function 11 -/
def calendar_Date.j0 : Nat → Int → Bool → Option (Int × Int × Int × Int)
  | 0, _, _ => none
  | k + 1, x0, x17 => if x17 = true then (some (0, 0, 0, 110)) else ((calendar_divide.f (wrap64 (x0 + 719468)) 146097).bind fun bt116 => (if (wrap64 (Int.tdiv (wrap64 ((wrap64 (5 * (wrap64 (bt116.2 - (wrap64 ((wrap64 ((wrap64 (365 * (wrap64 (Int.tdiv (wrap64 ((wrap64 ((wrap64 (bt116.2 - (wrap64 (Int.tdiv bt116.2 1460)))) + (wrap64 (Int.tdiv bt116.2 36524)))) - (wrap64 (Int.tdiv bt116.2 146096)))) 365)))) + (wrap64 (Int.tdiv (wrap64 (Int.tdiv (wrap64 ((wrap64 ((wrap64 (bt116.2 - (wrap64 (Int.tdiv bt116.2 1460)))) + (wrap64 (Int.tdiv bt116.2 36524)))) - (wrap64 (Int.tdiv bt116.2 146096)))) 365)) 4)))) - (wrap64 (Int.tdiv (wrap64 (Int.tdiv (wrap64 ((wrap64 ((wrap64 (bt116.2 - (wrap64 (Int.tdiv bt116.2 1460)))) + (wrap64 (Int.tdiv bt116.2 36524)))) - (wrap64 (Int.tdiv bt116.2 146096)))) 365)) 100)))))))) + 2)) 153)) ≥ 10 then (some (wrap64 ((wrap64 ((wrap64 (bt116.1 * 400)) + (wrap64 (Int.tdiv (wrap64 ((wrap64 ((wrap64 (bt116.2 - (wrap64 (Int.tdiv bt116.2 1460)))) + (wrap64 (Int.tdiv bt116.2 36524)))) - (wrap64 (Int.tdiv bt116.2 146096)))) 365)))) + 1), wrap64 ((wrap64 (Int.tdiv (wrap64 ((wrap64 (5 * (wrap64 (bt116.2 - (wrap64 ((wrap64 ((wrap64 (365 * (wrap64 (Int.tdiv (wrap64 ((wrap64 ((wrap64 (bt116.2 - (wrap64 (Int.tdiv bt116.2 1460)))) + (wrap64 (Int.tdiv bt116.2 36524)))) - (wrap64 (Int.tdiv bt116.2 146096)))) 365)))) + (wrap64 (Int.tdiv (wrap64 (Int.tdiv (wrap64 ((wrap64 ((wrap64 (bt116.2 - (wrap64 (Int.tdiv bt116.2 1460)))) + (wrap64 (Int.tdiv bt116.2 36524)))) - (wrap64 (Int.tdiv bt116.2 146096)))) 365)) 4)))) - (wrap64 (Int.tdiv (wrap64 (Int.tdiv (wrap64 ((wrap64 ((wrap64 (bt116.2 - (wrap64 (Int.tdiv bt116.2 1460)))) + (wrap64 (Int.tdiv bt116.2 36524)))) - (wrap64 (Int.tdiv bt116.2 146096)))) 365)) 100)))))))) + 2)) 153)) - 10), wrap64 ((wrap64 ((wrap64 (bt116.2 - (wrap64 ((wrap64 ((wrap64 (365 * (wrap64 (Int.tdiv (wrap64 ((wrap64 ((wrap64 (bt116.2 - (wrap64 (Int.tdiv bt116.2 1460)))) + (wrap64 (Int.tdiv bt116.2 36524)))) - (wrap64 (Int.tdiv bt116.2 146096)))) 365)))) + (wrap64 (Int.tdiv (wrap64 (Int.tdiv (wrap64 ((wrap64 ((wrap64 (bt116.2 - (wrap64 (Int.tdiv bt116.2 1460)))) + (wrap64 (Int.tdiv bt116.2 36524)))) - (wrap64 (Int.tdiv bt116.2 146096)))) 365)) 4)))) - (wrap64 (Int.tdiv (wrap64 (Int.tdiv (wrap64 ((wrap64 ((wrap64 (bt116.2 - (wrap64 (Int.tdiv bt116.2 1460)))) + (wrap64 (Int.tdiv bt116.2 36524)))) - (wrap64 (Int.tdiv bt116.2 146096)))) 365)) 100)))))) - (wrap64 (Int.tdiv (wrap64 ((wrap64 (153 * (wrap64 (Int.tdiv (wrap64 ((wrap64 (5 * (wrap64 (bt116.2 - (wrap64 ((wrap64 ((wrap64 (365 * (wrap64 (Int.tdiv (wrap64 ((wrap64 ((wrap64 (bt116.2 - (wrap64 (Int.tdiv bt116.2 1460)))) + (wrap64 (Int.tdiv bt116.2 36524)))) - (wrap64 (Int.tdiv bt116.2 146096)))) 365)))) + (wrap64 (Int.tdiv (wrap64 (Int.tdiv (wrap64 ((wrap64 ((wrap64 (bt116.2 - (wrap64 (Int.tdiv bt116.2 1460)))) + (wrap64 (Int.tdiv bt116.2 36524)))) - (wrap64 (Int.tdiv bt116.2 146096)))) 365)) 4)))) - (wrap64 (Int.tdiv (wrap64 (Int.tdiv (wrap64 ((wrap64 ((wrap64 (bt116.2 - (wrap64 (Int.tdiv bt116.2 1460)))) + (wrap64 (Int.tdiv bt116.2 36524)))) - (wrap64 (Int.tdiv bt116.2 146096)))) 365)) 100)))))))) + 2)) 153)))) + 2)) 5)))) + 1), 0)) else (some (wrap64 ((wrap64 (bt116.1 * 400)) + (wrap64 (Int.tdiv (wrap64 ((wrap64 ((wrap64 (bt116.2 - (wrap64 (Int.tdiv bt116.2 1460)))) + (wrap64 (Int.tdiv bt116.2 36524)))) - (wrap64 (Int.tdiv bt116.2 146096)))) 365))), wrap64 ((wrap64 (Int.tdiv (wrap64 ((wrap64 (5 * (wrap64 (bt116.2 - (wrap64 ((wrap64 ((wrap64 (365 * (wrap64 (Int.tdiv (wrap64 ((wrap64 ((wrap64 (bt116.2 - (wrap64 (Int.tdiv bt116.2 1460)))) + (wrap64 (Int.tdiv bt116.2 36524)))) - (wrap64 (Int.tdiv bt116.2 146096)))) 365)))) + (wrap64 (Int.tdiv (wrap64 (Int.tdiv (wrap64 ((wrap64 ((wrap64 (bt116.2 - (wrap64 (Int.tdiv bt116.2 1460)))) + (wrap64 (Int.tdiv bt116.2 36524)))) - (wrap64 (Int.tdiv bt116.2 146096)))) 365)) 4)))) - (wrap64 (Int.tdiv (wrap64 (Int.tdiv (wrap64 ((wrap64 ((wrap64 (bt116.2 - (wrap64 (Int.tdiv bt116.2 1460)))) + (wrap64 (Int.tdiv bt116.2 36524)))) - (wrap64 (Int.tdiv bt116.2 146096)))) 365)) 100)))))))) + 2)) 153)) + 2), wrap64 ((wrap64 ((wrap64 (bt116.2 - (wrap64 ((wrap64 ((wrap64 (365 * (wrap64 (Int.tdiv (wrap64 ((wrap64 ((wrap64 (bt116.2 - (wrap64 (Int.tdiv bt116.2 1460)))) + (wrap64 (Int.tdiv bt116.2 36524)))) - (wrap64 (Int.tdiv bt116.2 146096)))) 365)))) + (wrap64 (Int.tdiv (wrap64 (Int.tdiv (wrap64 ((wrap64 ((wrap64 (bt116.2 - (wrap64 (Int.tdiv bt116.2 1460)))) + (wrap64 (Int.tdiv bt116.2 36524)))) - (wrap64 (Int.tdiv bt116.2 146096)))) 365)) 4)))) - (wrap64 (Int.tdiv (wrap64 (Int.tdiv (wrap64 ((wrap64 ((wrap64 (bt116.2 - (wrap64 (Int.tdiv bt116.2 1460)))) + (wrap64 (Int.tdiv bt116.2 36524)))) - (wrap64 (Int.tdiv bt116.2 146096)))) 365)) 100)))))) - (wrap64 (Int.tdiv (wrap64 ((wrap64 (153 * (wrap64 (Int.tdiv (wrap64 ((wrap64 (5 * (wrap64 (bt116.2 - (wrap64 ((wrap64 ((wrap64 (365 * (wrap64 (Int.tdiv (wrap64 ((wrap64 ((wrap64 (bt116.2 - (wrap64 (Int.tdiv bt116.2 1460)))) + (wrap64 (Int.tdiv bt116.2 36524)))) - (wrap64 (Int.tdiv bt116.2 146096)))) 365)))) + (wrap64 (Int.tdiv (wrap64 (Int.tdiv (wrap64 ((wrap64 ((wrap64 (bt116.2 - (wrap64 (Int.tdiv bt116.2 1460)))) + (wrap64 (Int.tdiv bt116.2 36524)))) - (wrap64 (Int.tdiv bt116.2 146096)))) 365)) 4)))) - (wrap64 (Int.tdiv (wrap64 (Int.tdiv (wrap64 ((wrap64 ((wrap64 (bt116.2 - (wrap64 (Int.tdiv bt116.2 1460)))) + (wrap64 (Int.tdiv bt116.2 36524)))) - (wrap64 (Int.tdiv bt116.2 146096)))) 365)) 100)))))))) + 2)) 153)))) + 2)) 5)))) + 1), 0))))
def calendar_Date.f (k : Nat) (a0 : Int) : Option (Int × Int × Int × Int) := if a0 < (-4371587) then (calendar_Date.j0 k a0 true) else (calendar_Date.j0 k a0 (decide (a0 > 2932896)))
theorem calendar_Date.mono_l : ∀ k, (∀ y0 y1, LeO (calendar_Date.j0 k y0 y1) (calendar_Date.j0 (k + 1) y0 y1))
  | 0 => fun _ _ r h => by simp [calendar_Date.j0] at h
  | k + 1 => by
    have ih0 := calendar_Date.mono_l k
    · intro y0 y1
      unfold calendar_Date.j0
      repeat' first
      | (with_reducible exact ih0 _ _)
      | (with_reducible exact LeO.refl _)
      | (with_reducible exact LeO.none _)
      | (with_reducible refine LeO.ite ?_ ?_)
      | (with_reducible refine LeO.bind ?_ (fun _ => ?_))
      | exact ih0 _ _
      | exact LeO.none _
      | refine LeO.ite ?_ ?_
      | refine LeO.bind ?_ (fun _ => ?_)
theorem calendar_Date.mono : ∀ a0 k, LeO (calendar_Date.f k a0) (calendar_Date.f (k + 1) a0) := by
  intro a0 k
  have ih0 := calendar_Date.mono_l k
  unfold calendar_Date.f
  repeat' first
      | (with_reducible exact ih0 _ _)
      | (with_reducible exact LeO.refl _)
      | (with_reducible exact LeO.none _)
      | (with_reducible refine LeO.ite ?_ ?_)
      | (with_reducible refine LeO.bind ?_ (fun _ => ?_))
      | exact ih0 _ _
      | exact LeO.none _
      | refine LeO.ite ?_ ?_
      | refine LeO.bind ?_ (fun _ => ?_)
set_option maxHeartbeats 8000000 in
set_option maxRecDepth 100000 in
theorem calendar_Date.calls (k : Nat) (a0 : Int) (r1 : Int) (r2 : Int) (r3 : Int) (r4 : Int) (w : World) (h : calendar_Date.f k a0 = some (r1, r2, r3, r4)) :
    Calls Try.prog 11 #[.int .i64 a0] w fun e w' => e = .returned (.tuple #[.int .i64 r1, .int .i64 r2, .int .i64 r3, .int .i64 r4]) ∧ Drawn0 w w' := by
  have H : (if a0 < (-4371587) then (calendar_Date.j0 k a0 true) else (calendar_Date.j0 k a0 (decide (a0 > 2932896)))) = some (r1, r2, r3, r4) := h
  clear h
  have HC2 := Aside0.mk H
  clear H
  go_enter Try.func11, Try.ntmps11
  go_upto_region 1 with (fail)
  go_cut [17] (fun v17 wc => ∃ (kq : Nat) (x17_1 : Bool), v17 = .bool x17_1 ∧ Aside0 (calendar_Date.j0 kq a0 x17_1 = some (r1, r2, r3, r4)) ∧ Aside0 (kq ≤ k) ∧ Drawn0 w wc)
  case first =>
    have H := HC2.out
    clear HC2
    by_cases c3 : a0 < (-4371587)
    · rw [if_pos c3] at H
      have c3b0 : decide (a0 < (-4371587)) = true := decide_eq_true c3
      clear c3
      (first | rw [c3b0] | (simp only [i64_w, i32_w]; rw [c3b0]) | skip)
      have H' := Aside0.mk H
      clear H
      go_wp2
      go_meet
      case rel => exact ⟨_, (true), (by first | rfl | (simp; done) | (simp [*]; done)), H', ⟨by first | omega | exact Nat.le_refl _⟩, by repeat (first | exact Drawn0.refl _ | apply Drawn0.step)⟩
    · rw [if_neg c3] at H
      have c3b0 : decide (a0 < (-4371587)) = false := decide_eq_false c3
      clear c3
      (first | rw [c3b0] | (simp only [i64_w, i32_w]; rw [c3b0]) | skip)
      have H' := Aside0.mk H
      clear H
      go_wp2
      go_meet
      case rel => exact ⟨_, (decide (a0 > 2932896)), (by first | rfl | (simp; done) | (simp [*]; done)), H', ⟨by first | omega | exact Nat.le_refl _⟩, by repeat (first | exact Drawn0.refl _ | apply Drawn0.step)⟩
  case rest =>
    clear HC2
    try clear c1
    try clear p2
    try clear c3
    try clear c3b0
    obtain ⟨kq, x17_1, rfl, HA, HJ1, ⟨mc1, rfl⟩⟩ := hcut
    cases kq with
    | zero => exact absurd HA.out (by simp [calendar_Date.j0])
    | succ kj1 =>
      have H := HA.out
      clear HA
      simp only [calendar_Date.j0] at H
      by_cases c4 : x17_1 = true
      · subst c4
        have H1 : (some (0, 0, 0, 110)) = some (r1, r2, r3, r4) := by rw [if_pos rfl] at H; exact H
        clear H
        have H := H1
        clear H1
        simp only [Option.some.injEq, Prod.mk.injEq] at H
        obtain ⟨rfl, rfl, rfl, rfl⟩ := H
        go_wp2
        refine bodyPost_ret (results_list (rs := [.tmp 2, .tmp 3, .tmp 4, .tmp 5]) rfl (by simp) (.tmp (.tmp (.tmp (.tmp .nil))))) rfl ?_
        exact ⟨by first | rfl | (simp; done) | (simp [*]; done), by repeat (first | exact Drawn0.refl _ | apply Drawn0.step)⟩
      · replace c4 := Bool.eq_false_iff.mpr c4
        subst c4
        have H1 : ((calendar_divide.f (wrap64 (a0 + 719468)) 146097).bind fun bt116 => (if (wrap64 (Int.tdiv (wrap64 ((wrap64 (5 * (wrap64 (bt116.2 - (wrap64 ((wrap64 ((wrap64 (365 * (wrap64 (Int.tdiv (wrap64 ((wrap64 ((wrap64 (bt116.2 - (wrap64 (Int.tdiv bt116.2 1460)))) + (wrap64 (Int.tdiv bt116.2 36524)))) - (wrap64 (Int.tdiv bt116.2 146096)))) 365)))) + (wrap64 (Int.tdiv (wrap64 (Int.tdiv (wrap64 ((wrap64 ((wrap64 (bt116.2 - (wrap64 (Int.tdiv bt116.2 1460)))) + (wrap64 (Int.tdiv bt116.2 36524)))) - (wrap64 (Int.tdiv bt116.2 146096)))) 365)) 4)))) - (wrap64 (Int.tdiv (wrap64 (Int.tdiv (wrap64 ((wrap64 ((wrap64 (bt116.2 - (wrap64 (Int.tdiv bt116.2 1460)))) + (wrap64 (Int.tdiv bt116.2 36524)))) - (wrap64 (Int.tdiv bt116.2 146096)))) 365)) 100)))))))) + 2)) 153)) ≥ 10 then (some (wrap64 ((wrap64 ((wrap64 (bt116.1 * 400)) + (wrap64 (Int.tdiv (wrap64 ((wrap64 ((wrap64 (bt116.2 - (wrap64 (Int.tdiv bt116.2 1460)))) + (wrap64 (Int.tdiv bt116.2 36524)))) - (wrap64 (Int.tdiv bt116.2 146096)))) 365)))) + 1), wrap64 ((wrap64 (Int.tdiv (wrap64 ((wrap64 (5 * (wrap64 (bt116.2 - (wrap64 ((wrap64 ((wrap64 (365 * (wrap64 (Int.tdiv (wrap64 ((wrap64 ((wrap64 (bt116.2 - (wrap64 (Int.tdiv bt116.2 1460)))) + (wrap64 (Int.tdiv bt116.2 36524)))) - (wrap64 (Int.tdiv bt116.2 146096)))) 365)))) + (wrap64 (Int.tdiv (wrap64 (Int.tdiv (wrap64 ((wrap64 ((wrap64 (bt116.2 - (wrap64 (Int.tdiv bt116.2 1460)))) + (wrap64 (Int.tdiv bt116.2 36524)))) - (wrap64 (Int.tdiv bt116.2 146096)))) 365)) 4)))) - (wrap64 (Int.tdiv (wrap64 (Int.tdiv (wrap64 ((wrap64 ((wrap64 (bt116.2 - (wrap64 (Int.tdiv bt116.2 1460)))) + (wrap64 (Int.tdiv bt116.2 36524)))) - (wrap64 (Int.tdiv bt116.2 146096)))) 365)) 100)))))))) + 2)) 153)) - 10), wrap64 ((wrap64 ((wrap64 (bt116.2 - (wrap64 ((wrap64 ((wrap64 (365 * (wrap64 (Int.tdiv (wrap64 ((wrap64 ((wrap64 (bt116.2 - (wrap64 (Int.tdiv bt116.2 1460)))) + (wrap64 (Int.tdiv bt116.2 36524)))) - (wrap64 (Int.tdiv bt116.2 146096)))) 365)))) + (wrap64 (Int.tdiv (wrap64 (Int.tdiv (wrap64 ((wrap64 ((wrap64 (bt116.2 - (wrap64 (Int.tdiv bt116.2 1460)))) + (wrap64 (Int.tdiv bt116.2 36524)))) - (wrap64 (Int.tdiv bt116.2 146096)))) 365)) 4)))) - (wrap64 (Int.tdiv (wrap64 (Int.tdiv (wrap64 ((wrap64 ((wrap64 (bt116.2 - (wrap64 (Int.tdiv bt116.2 1460)))) + (wrap64 (Int.tdiv bt116.2 36524)))) - (wrap64 (Int.tdiv bt116.2 146096)))) 365)) 100)))))) - (wrap64 (Int.tdiv (wrap64 ((wrap64 (153 * (wrap64 (Int.tdiv (wrap64 ((wrap64 (5 * (wrap64 (bt116.2 - (wrap64 ((wrap64 ((wrap64 (365 * (wrap64 (Int.tdiv (wrap64 ((wrap64 ((wrap64 (bt116.2 - (wrap64 (Int.tdiv bt116.2 1460)))) + (wrap64 (Int.tdiv bt116.2 36524)))) - (wrap64 (Int.tdiv bt116.2 146096)))) 365)))) + (wrap64 (Int.tdiv (wrap64 (Int.tdiv (wrap64 ((wrap64 ((wrap64 (bt116.2 - (wrap64 (Int.tdiv bt116.2 1460)))) + (wrap64 (Int.tdiv bt116.2 36524)))) - (wrap64 (Int.tdiv bt116.2 146096)))) 365)) 4)))) - (wrap64 (Int.tdiv (wrap64 (Int.tdiv (wrap64 ((wrap64 ((wrap64 (bt116.2 - (wrap64 (Int.tdiv bt116.2 1460)))) + (wrap64 (Int.tdiv bt116.2 36524)))) - (wrap64 (Int.tdiv bt116.2 146096)))) 365)) 100)))))))) + 2)) 153)))) + 2)) 5)))) + 1), 0)) else (some (wrap64 ((wrap64 (bt116.1 * 400)) + (wrap64 (Int.tdiv (wrap64 ((wrap64 ((wrap64 (bt116.2 - (wrap64 (Int.tdiv bt116.2 1460)))) + (wrap64 (Int.tdiv bt116.2 36524)))) - (wrap64 (Int.tdiv bt116.2 146096)))) 365))), wrap64 ((wrap64 (Int.tdiv (wrap64 ((wrap64 (5 * (wrap64 (bt116.2 - (wrap64 ((wrap64 ((wrap64 (365 * (wrap64 (Int.tdiv (wrap64 ((wrap64 ((wrap64 (bt116.2 - (wrap64 (Int.tdiv bt116.2 1460)))) + (wrap64 (Int.tdiv bt116.2 36524)))) - (wrap64 (Int.tdiv bt116.2 146096)))) 365)))) + (wrap64 (Int.tdiv (wrap64 (Int.tdiv (wrap64 ((wrap64 ((wrap64 (bt116.2 - (wrap64 (Int.tdiv bt116.2 1460)))) + (wrap64 (Int.tdiv bt116.2 36524)))) - (wrap64 (Int.tdiv bt116.2 146096)))) 365)) 4)))) - (wrap64 (Int.tdiv (wrap64 (Int.tdiv (wrap64 ((wrap64 ((wrap64 (bt116.2 - (wrap64 (Int.tdiv bt116.2 1460)))) + (wrap64 (Int.tdiv bt116.2 36524)))) - (wrap64 (Int.tdiv bt116.2 146096)))) 365)) 100)))))))) + 2)) 153)) + 2), wrap64 ((wrap64 ((wrap64 (bt116.2 - (wrap64 ((wrap64 ((wrap64 (365 * (wrap64 (Int.tdiv (wrap64 ((wrap64 ((wrap64 (bt116.2 - (wrap64 (Int.tdiv bt116.2 1460)))) + (wrap64 (Int.tdiv bt116.2 36524)))) - (wrap64 (Int.tdiv bt116.2 146096)))) 365)))) + (wrap64 (Int.tdiv (wrap64 (Int.tdiv (wrap64 ((wrap64 ((wrap64 (bt116.2 - (wrap64 (Int.tdiv bt116.2 1460)))) + (wrap64 (Int.tdiv bt116.2 36524)))) - (wrap64 (Int.tdiv bt116.2 146096)))) 365)) 4)))) - (wrap64 (Int.tdiv (wrap64 (Int.tdiv (wrap64 ((wrap64 ((wrap64 (bt116.2 - (wrap64 (Int.tdiv bt116.2 1460)))) + (wrap64 (Int.tdiv bt116.2 36524)))) - (wrap64 (Int.tdiv bt116.2 146096)))) 365)) 100)))))) - (wrap64 (Int.tdiv (wrap64 ((wrap64 (153 * (wrap64 (Int.tdiv (wrap64 ((wrap64 (5 * (wrap64 (bt116.2 - (wrap64 ((wrap64 ((wrap64 (365 * (wrap64 (Int.tdiv (wrap64 ((wrap64 ((wrap64 (bt116.2 - (wrap64 (Int.tdiv bt116.2 1460)))) + (wrap64 (Int.tdiv bt116.2 36524)))) - (wrap64 (Int.tdiv bt116.2 146096)))) 365)))) + (wrap64 (Int.tdiv (wrap64 (Int.tdiv (wrap64 ((wrap64 ((wrap64 (bt116.2 - (wrap64 (Int.tdiv bt116.2 1460)))) + (wrap64 (Int.tdiv bt116.2 36524)))) - (wrap64 (Int.tdiv bt116.2 146096)))) 365)) 4)))) - (wrap64 (Int.tdiv (wrap64 (Int.tdiv (wrap64 ((wrap64 ((wrap64 (bt116.2 - (wrap64 (Int.tdiv bt116.2 1460)))) + (wrap64 (Int.tdiv bt116.2 36524)))) - (wrap64 (Int.tdiv bt116.2 146096)))) 365)) 100)))))))) + 2)) 153)))) + 2)) 5)))) + 1), 0)))) = some (r1, r2, r3, r4) := by rw [if_neg (show ¬ (false = true) by decide)] at H; exact H
        clear H
        have H := H1
        clear H1
        replace H := Option.bind_eq_some_iff.mp H
        obtain ⟨⟨t116, t117⟩, A50, H⟩ := H
        replace H : (if (wrap64 (Int.tdiv (wrap64 ((wrap64 (5 * (wrap64 (t117 - (wrap64 ((wrap64 ((wrap64 (365 * (wrap64 (Int.tdiv (wrap64 ((wrap64 ((wrap64 (t117 - (wrap64 (Int.tdiv t117 1460)))) + (wrap64 (Int.tdiv t117 36524)))) - (wrap64 (Int.tdiv t117 146096)))) 365)))) + (wrap64 (Int.tdiv (wrap64 (Int.tdiv (wrap64 ((wrap64 ((wrap64 (t117 - (wrap64 (Int.tdiv t117 1460)))) + (wrap64 (Int.tdiv t117 36524)))) - (wrap64 (Int.tdiv t117 146096)))) 365)) 4)))) - (wrap64 (Int.tdiv (wrap64 (Int.tdiv (wrap64 ((wrap64 ((wrap64 (t117 - (wrap64 (Int.tdiv t117 1460)))) + (wrap64 (Int.tdiv t117 36524)))) - (wrap64 (Int.tdiv t117 146096)))) 365)) 100)))))))) + 2)) 153)) ≥ 10 then (some (wrap64 ((wrap64 ((wrap64 (t116 * 400)) + (wrap64 (Int.tdiv (wrap64 ((wrap64 ((wrap64 (t117 - (wrap64 (Int.tdiv t117 1460)))) + (wrap64 (Int.tdiv t117 36524)))) - (wrap64 (Int.tdiv t117 146096)))) 365)))) + 1), wrap64 ((wrap64 (Int.tdiv (wrap64 ((wrap64 (5 * (wrap64 (t117 - (wrap64 ((wrap64 ((wrap64 (365 * (wrap64 (Int.tdiv (wrap64 ((wrap64 ((wrap64 (t117 - (wrap64 (Int.tdiv t117 1460)))) + (wrap64 (Int.tdiv t117 36524)))) - (wrap64 (Int.tdiv t117 146096)))) 365)))) + (wrap64 (Int.tdiv (wrap64 (Int.tdiv (wrap64 ((wrap64 ((wrap64 (t117 - (wrap64 (Int.tdiv t117 1460)))) + (wrap64 (Int.tdiv t117 36524)))) - (wrap64 (Int.tdiv t117 146096)))) 365)) 4)))) - (wrap64 (Int.tdiv (wrap64 (Int.tdiv (wrap64 ((wrap64 ((wrap64 (t117 - (wrap64 (Int.tdiv t117 1460)))) + (wrap64 (Int.tdiv t117 36524)))) - (wrap64 (Int.tdiv t117 146096)))) 365)) 100)))))))) + 2)) 153)) - 10), wrap64 ((wrap64 ((wrap64 (t117 - (wrap64 ((wrap64 ((wrap64 (365 * (wrap64 (Int.tdiv (wrap64 ((wrap64 ((wrap64 (t117 - (wrap64 (Int.tdiv t117 1460)))) + (wrap64 (Int.tdiv t117 36524)))) - (wrap64 (Int.tdiv t117 146096)))) 365)))) + (wrap64 (Int.tdiv (wrap64 (Int.tdiv (wrap64 ((wrap64 ((wrap64 (t117 - (wrap64 (Int.tdiv t117 1460)))) + (wrap64 (Int.tdiv t117 36524)))) - (wrap64 (Int.tdiv t117 146096)))) 365)) 4)))) - (wrap64 (Int.tdiv (wrap64 (Int.tdiv (wrap64 ((wrap64 ((wrap64 (t117 - (wrap64 (Int.tdiv t117 1460)))) + (wrap64 (Int.tdiv t117 36524)))) - (wrap64 (Int.tdiv t117 146096)))) 365)) 100)))))) - (wrap64 (Int.tdiv (wrap64 ((wrap64 (153 * (wrap64 (Int.tdiv (wrap64 ((wrap64 (5 * (wrap64 (t117 - (wrap64 ((wrap64 ((wrap64 (365 * (wrap64 (Int.tdiv (wrap64 ((wrap64 ((wrap64 (t117 - (wrap64 (Int.tdiv t117 1460)))) + (wrap64 (Int.tdiv t117 36524)))) - (wrap64 (Int.tdiv t117 146096)))) 365)))) + (wrap64 (Int.tdiv (wrap64 (Int.tdiv (wrap64 ((wrap64 ((wrap64 (t117 - (wrap64 (Int.tdiv t117 1460)))) + (wrap64 (Int.tdiv t117 36524)))) - (wrap64 (Int.tdiv t117 146096)))) 365)) 4)))) - (wrap64 (Int.tdiv (wrap64 (Int.tdiv (wrap64 ((wrap64 ((wrap64 (t117 - (wrap64 (Int.tdiv t117 1460)))) + (wrap64 (Int.tdiv t117 36524)))) - (wrap64 (Int.tdiv t117 146096)))) 365)) 100)))))))) + 2)) 153)))) + 2)) 5)))) + 1), 0)) else (some (wrap64 ((wrap64 (t116 * 400)) + (wrap64 (Int.tdiv (wrap64 ((wrap64 ((wrap64 (t117 - (wrap64 (Int.tdiv t117 1460)))) + (wrap64 (Int.tdiv t117 36524)))) - (wrap64 (Int.tdiv t117 146096)))) 365))), wrap64 ((wrap64 (Int.tdiv (wrap64 ((wrap64 (5 * (wrap64 (t117 - (wrap64 ((wrap64 ((wrap64 (365 * (wrap64 (Int.tdiv (wrap64 ((wrap64 ((wrap64 (t117 - (wrap64 (Int.tdiv t117 1460)))) + (wrap64 (Int.tdiv t117 36524)))) - (wrap64 (Int.tdiv t117 146096)))) 365)))) + (wrap64 (Int.tdiv (wrap64 (Int.tdiv (wrap64 ((wrap64 ((wrap64 (t117 - (wrap64 (Int.tdiv t117 1460)))) + (wrap64 (Int.tdiv t117 36524)))) - (wrap64 (Int.tdiv t117 146096)))) 365)) 4)))) - (wrap64 (Int.tdiv (wrap64 (Int.tdiv (wrap64 ((wrap64 ((wrap64 (t117 - (wrap64 (Int.tdiv t117 1460)))) + (wrap64 (Int.tdiv t117 36524)))) - (wrap64 (Int.tdiv t117 146096)))) 365)) 100)))))))) + 2)) 153)) + 2), wrap64 ((wrap64 ((wrap64 (t117 - (wrap64 ((wrap64 ((wrap64 (365 * (wrap64 (Int.tdiv (wrap64 ((wrap64 ((wrap64 (t117 - (wrap64 (Int.tdiv t117 1460)))) + (wrap64 (Int.tdiv t117 36524)))) - (wrap64 (Int.tdiv t117 146096)))) 365)))) + (wrap64 (Int.tdiv (wrap64 (Int.tdiv (wrap64 ((wrap64 ((wrap64 (t117 - (wrap64 (Int.tdiv t117 1460)))) + (wrap64 (Int.tdiv t117 36524)))) - (wrap64 (Int.tdiv t117 146096)))) 365)) 4)))) - (wrap64 (Int.tdiv (wrap64 (Int.tdiv (wrap64 ((wrap64 ((wrap64 (t117 - (wrap64 (Int.tdiv t117 1460)))) + (wrap64 (Int.tdiv t117 36524)))) - (wrap64 (Int.tdiv t117 146096)))) 365)) 100)))))) - (wrap64 (Int.tdiv (wrap64 ((wrap64 (153 * (wrap64 (Int.tdiv (wrap64 ((wrap64 (5 * (wrap64 (t117 - (wrap64 ((wrap64 ((wrap64 (365 * (wrap64 (Int.tdiv (wrap64 ((wrap64 ((wrap64 (t117 - (wrap64 (Int.tdiv t117 1460)))) + (wrap64 (Int.tdiv t117 36524)))) - (wrap64 (Int.tdiv t117 146096)))) 365)))) + (wrap64 (Int.tdiv (wrap64 (Int.tdiv (wrap64 ((wrap64 ((wrap64 (t117 - (wrap64 (Int.tdiv t117 1460)))) + (wrap64 (Int.tdiv t117 36524)))) - (wrap64 (Int.tdiv t117 146096)))) 365)) 4)))) - (wrap64 (Int.tdiv (wrap64 (Int.tdiv (wrap64 ((wrap64 ((wrap64 (t117 - (wrap64 (Int.tdiv t117 1460)))) + (wrap64 (Int.tdiv t117 36524)))) - (wrap64 (Int.tdiv t117 146096)))) 365)) 100)))))))) + 2)) 153)))) + 2)) 5)))) + 1), 0))) = some (r1, r2, r3, r4) := H
        have A5 := Aside0.mk A50
        clear A50
        by_cases c6 : (wrap64 (Int.tdiv (wrap64 ((wrap64 (5 * (wrap64 (t117 - (wrap64 ((wrap64 ((wrap64 (365 * (wrap64 (Int.tdiv (wrap64 ((wrap64 ((wrap64 (t117 - (wrap64 (Int.tdiv t117 1460)))) + (wrap64 (Int.tdiv t117 36524)))) - (wrap64 (Int.tdiv t117 146096)))) 365)))) + (wrap64 (Int.tdiv (wrap64 (Int.tdiv (wrap64 ((wrap64 ((wrap64 (t117 - (wrap64 (Int.tdiv t117 1460)))) + (wrap64 (Int.tdiv t117 36524)))) - (wrap64 (Int.tdiv t117 146096)))) 365)) 4)))) - (wrap64 (Int.tdiv (wrap64 (Int.tdiv (wrap64 ((wrap64 ((wrap64 (t117 - (wrap64 (Int.tdiv t117 1460)))) + (wrap64 (Int.tdiv t117 36524)))) - (wrap64 (Int.tdiv t117 146096)))) 365)) 100)))))))) + 2)) 153)) ≥ 10
        · rw [if_pos c6] at H
          have c6b0 : decide (10 ≤ (wrap64 (Int.tdiv (wrap64 ((wrap64 (5 * (wrap64 (t117 - (wrap64 ((wrap64 ((wrap64 (365 * (wrap64 (Int.tdiv (wrap64 ((wrap64 ((wrap64 (t117 - (wrap64 (Int.tdiv t117 1460)))) + (wrap64 (Int.tdiv t117 36524)))) - (wrap64 (Int.tdiv t117 146096)))) 365)))) + (wrap64 (Int.tdiv (wrap64 (Int.tdiv (wrap64 ((wrap64 ((wrap64 (t117 - (wrap64 (Int.tdiv t117 1460)))) + (wrap64 (Int.tdiv t117 36524)))) - (wrap64 (Int.tdiv t117 146096)))) 365)) 4)))) - (wrap64 (Int.tdiv (wrap64 (Int.tdiv (wrap64 ((wrap64 ((wrap64 (t117 - (wrap64 (Int.tdiv t117 1460)))) + (wrap64 (Int.tdiv t117 36524)))) - (wrap64 (Int.tdiv t117 146096)))) 365)) 100)))))))) + 2)) 153))) = true := decide_eq_true c6
          clear c6
          simp only [Option.some.injEq, Prod.mk.injEq] at H
          obtain ⟨rfl, rfl, rfl, rfl⟩ := H
          go_wp2_with (first | ((with_reducible refine gate_callee (f := 28) rfl ?_); refine goesL_ (some 21) rfl rfl Try.func28 (by kernel_rfl) rfl #[.int .i64 (wrap64 (a0 + 719468)), .int .i64 146097] rfl (by (try simp only [List.map_toArray, List.map_cons, List.map_nil]); first | done | rfl | (simp only [List.length_drop, List.length_take]; rfl)) ?_; (with_reducible refine (calendar_divide.calls (wrap64 (a0 + 719468)) 146097 t116 t117 _ A5.out).mono ?_); rintro e w' ⟨rfl, ⟨nd, rfl⟩⟩; refine ⟨_, rfl, ?_⟩))
          refine bodyPost_ret (results_list (rs := [.tmp 2, .tmp 3, .tmp 4, .tmp 5]) rfl (by simp) (.tmp (.tmp (.tmp (.tmp .nil))))) rfl ?_
          exact ⟨by first | rfl | (simp; done) | (simp [*]; done), by repeat (first | exact Drawn0.refl _ | apply Drawn0.step)⟩
        · rw [if_neg c6] at H
          have c6b0 : decide (10 ≤ (wrap64 (Int.tdiv (wrap64 ((wrap64 (5 * (wrap64 (t117 - (wrap64 ((wrap64 ((wrap64 (365 * (wrap64 (Int.tdiv (wrap64 ((wrap64 ((wrap64 (t117 - (wrap64 (Int.tdiv t117 1460)))) + (wrap64 (Int.tdiv t117 36524)))) - (wrap64 (Int.tdiv t117 146096)))) 365)))) + (wrap64 (Int.tdiv (wrap64 (Int.tdiv (wrap64 ((wrap64 ((wrap64 (t117 - (wrap64 (Int.tdiv t117 1460)))) + (wrap64 (Int.tdiv t117 36524)))) - (wrap64 (Int.tdiv t117 146096)))) 365)) 4)))) - (wrap64 (Int.tdiv (wrap64 (Int.tdiv (wrap64 ((wrap64 ((wrap64 (t117 - (wrap64 (Int.tdiv t117 1460)))) + (wrap64 (Int.tdiv t117 36524)))) - (wrap64 (Int.tdiv t117 146096)))) 365)) 100)))))))) + 2)) 153))) = false := decide_eq_false c6
          clear c6
          simp only [Option.some.injEq, Prod.mk.injEq] at H
          obtain ⟨rfl, rfl, rfl, rfl⟩ := H
          go_wp2_with (first | ((with_reducible refine gate_callee (f := 28) rfl ?_); refine goesL_ (some 21) rfl rfl Try.func28 (by kernel_rfl) rfl #[.int .i64 (wrap64 (a0 + 719468)), .int .i64 146097] rfl (by (try simp only [List.map_toArray, List.map_cons, List.map_nil]); first | done | rfl | (simp only [List.length_drop, List.length_take]; rfl)) ?_; (with_reducible refine (calendar_divide.calls (wrap64 (a0 + 719468)) 146097 t116 t117 _ A5.out).mono ?_); rintro e w' ⟨rfl, ⟨nd, rfl⟩⟩; refine ⟨_, rfl, ?_⟩))
          refine bodyPost_ret (results_list (rs := [.tmp 2, .tmp 3, .tmp 4, .tmp 5]) rfl (by simp) (.tmp (.tmp (.tmp (.tmp .nil))))) rfl ?_
          exact ⟨by first | rfl | (simp; done) | (simp [*]; done), by repeat (first | exact Drawn0.refl _ | apply Drawn0.step)⟩

end Go.Proofs.Ytomkhipfooafnaa.P
