/- Seconds of a time: function Join by hand, since it ranges over an array. -/
import Derived.Test.YtomkhipfooafnaaP10
import Derived.Laws.IdiomArrays
import Derived.WalkSmall
set_option linter.unusedVariables false
namespace Go.Proofs.Ytomkhipfooafnaa.P
open Go.RowKit Go.Proofs.YtomkhipfooafnaaW.PrintWords Go.Proofs.YtomkhipfooafnaaW.PrintLast Go.Proofs.YtomkhipfooafnaaW.PrintMore
def unfit (n : Int) : Prop := n < -1000000000 ∨ n > 1000000000

set_option maxHeartbeats 4000000 in
set_option maxRecDepth 100000 in
theorem join_unfit0 (a0 a1 a2 a3 a4 : Int) (a5 : Nat) (a6 a7 : Int) (w : World)  (hu : unfit a0) :
    Calls Try.prog 20 #[.agg #[.int .i64 a0, .int .i64 a1, .int .i64 a2, .int .i64 a3, .int .i64 a4, .float .f64 a5, .int .i64 a6, .int .i64 a7]] w fun e w' => e = .returned (.tuple #[.int .i64 0, .int .i64 110]) ∧ Below w.heap.size w w' := by
    rcases hu with hu | hu
    all_goals
      have i0 : ∀ (w_ : World), (Instr.index 57 (.agg #[.int .i64 a0, .int .i64 a1, .int .i64 a2, .int .i64 a3, .int .i64 a4]) (.int .i64 0)).run Try.prog w_ = .ok (.int .i64 a0) w_ := fun _ => by kernel_rfl
      have i1 : ∀ (w_ : World), (Instr.index 57 (.agg #[.int .i64 a0, .int .i64 a1, .int .i64 a2, .int .i64 a3, .int .i64 a4]) (.int .i64 1)).run Try.prog w_ = .ok (.int .i64 a1) w_ := fun _ => by kernel_rfl
      have i2 : ∀ (w_ : World), (Instr.index 57 (.agg #[.int .i64 a0, .int .i64 a1, .int .i64 a2, .int .i64 a3, .int .i64 a4]) (.int .i64 2)).run Try.prog w_ = .ok (.int .i64 a2) w_ := fun _ => by kernel_rfl
      have i3 : ∀ (w_ : World), (Instr.index 57 (.agg #[.int .i64 a0, .int .i64 a1, .int .i64 a2, .int .i64 a3, .int .i64 a4]) (.int .i64 3)).run Try.prog w_ = .ok (.int .i64 a3) w_ := fun _ => by kernel_rfl
      have i4 : ∀ (w_ : World), (Instr.index 57 (.agg #[.int .i64 a0, .int .i64 a1, .int .i64 a2, .int .i64 a3, .int .i64 a4]) (.int .i64 4)).run Try.prog w_ = .ok (.int .i64 a4) w_ := fun _ => by kernel_rfl
      go_enter Try.func20, Try.ntmps20
      go_wp2
      refine wp_loop_rounds 6 ?_
      rw [rounds_succ]
      go_wp2
      go_ret2
      exact ⟨rfl, by repeat (first | exact Below.refl _ _ | refine below_drewN ?_ _ | refine Below.alloc ?_ (by simp) _)⟩

set_option maxHeartbeats 4000000 in
set_option maxRecDepth 100000 in
theorem join_unfit1 (a0 a1 a2 a3 a4 : Int) (a5 : Nat) (a6 a7 : Int) (w : World) (h0 : ¬ a0 < -1000000000) (g0 : ¬ a0 > 1000000000) (hu : unfit a1) :
    Calls Try.prog 20 #[.agg #[.int .i64 a0, .int .i64 a1, .int .i64 a2, .int .i64 a3, .int .i64 a4, .float .f64 a5, .int .i64 a6, .int .i64 a7]] w fun e w' => e = .returned (.tuple #[.int .i64 0, .int .i64 110]) ∧ Below w.heap.size w w' := by
    rcases hu with hu | hu
    all_goals
      have i0 : ∀ (w_ : World), (Instr.index 57 (.agg #[.int .i64 a0, .int .i64 a1, .int .i64 a2, .int .i64 a3, .int .i64 a4]) (.int .i64 0)).run Try.prog w_ = .ok (.int .i64 a0) w_ := fun _ => by kernel_rfl
      have i1 : ∀ (w_ : World), (Instr.index 57 (.agg #[.int .i64 a0, .int .i64 a1, .int .i64 a2, .int .i64 a3, .int .i64 a4]) (.int .i64 1)).run Try.prog w_ = .ok (.int .i64 a1) w_ := fun _ => by kernel_rfl
      have i2 : ∀ (w_ : World), (Instr.index 57 (.agg #[.int .i64 a0, .int .i64 a1, .int .i64 a2, .int .i64 a3, .int .i64 a4]) (.int .i64 2)).run Try.prog w_ = .ok (.int .i64 a2) w_ := fun _ => by kernel_rfl
      have i3 : ∀ (w_ : World), (Instr.index 57 (.agg #[.int .i64 a0, .int .i64 a1, .int .i64 a2, .int .i64 a3, .int .i64 a4]) (.int .i64 3)).run Try.prog w_ = .ok (.int .i64 a3) w_ := fun _ => by kernel_rfl
      have i4 : ∀ (w_ : World), (Instr.index 57 (.agg #[.int .i64 a0, .int .i64 a1, .int .i64 a2, .int .i64 a3, .int .i64 a4]) (.int .i64 4)).run Try.prog w_ = .ok (.int .i64 a4) w_ := fun _ => by kernel_rfl
      go_enter Try.func20, Try.ntmps20
      go_wp2
      refine wp_loop_rounds 6 ?_
      rw [rounds_succ]
      go_wp2
      rw [rounds_succ]
      go_wp2
      go_ret2
      exact ⟨rfl, by repeat (first | exact Below.refl _ _ | refine below_drewN ?_ _ | refine Below.alloc ?_ (by simp) _)⟩

set_option maxHeartbeats 4000000 in
set_option maxRecDepth 100000 in
theorem join_unfit2 (a0 a1 a2 a3 a4 : Int) (a5 : Nat) (a6 a7 : Int) (w : World) (h0 : ¬ a0 < -1000000000) (g0 : ¬ a0 > 1000000000) (h1 : ¬ a1 < -1000000000) (g1 : ¬ a1 > 1000000000) (hu : unfit a2) :
    Calls Try.prog 20 #[.agg #[.int .i64 a0, .int .i64 a1, .int .i64 a2, .int .i64 a3, .int .i64 a4, .float .f64 a5, .int .i64 a6, .int .i64 a7]] w fun e w' => e = .returned (.tuple #[.int .i64 0, .int .i64 110]) ∧ Below w.heap.size w w' := by
    rcases hu with hu | hu
    all_goals
      have i0 : ∀ (w_ : World), (Instr.index 57 (.agg #[.int .i64 a0, .int .i64 a1, .int .i64 a2, .int .i64 a3, .int .i64 a4]) (.int .i64 0)).run Try.prog w_ = .ok (.int .i64 a0) w_ := fun _ => by kernel_rfl
      have i1 : ∀ (w_ : World), (Instr.index 57 (.agg #[.int .i64 a0, .int .i64 a1, .int .i64 a2, .int .i64 a3, .int .i64 a4]) (.int .i64 1)).run Try.prog w_ = .ok (.int .i64 a1) w_ := fun _ => by kernel_rfl
      have i2 : ∀ (w_ : World), (Instr.index 57 (.agg #[.int .i64 a0, .int .i64 a1, .int .i64 a2, .int .i64 a3, .int .i64 a4]) (.int .i64 2)).run Try.prog w_ = .ok (.int .i64 a2) w_ := fun _ => by kernel_rfl
      have i3 : ∀ (w_ : World), (Instr.index 57 (.agg #[.int .i64 a0, .int .i64 a1, .int .i64 a2, .int .i64 a3, .int .i64 a4]) (.int .i64 3)).run Try.prog w_ = .ok (.int .i64 a3) w_ := fun _ => by kernel_rfl
      have i4 : ∀ (w_ : World), (Instr.index 57 (.agg #[.int .i64 a0, .int .i64 a1, .int .i64 a2, .int .i64 a3, .int .i64 a4]) (.int .i64 4)).run Try.prog w_ = .ok (.int .i64 a4) w_ := fun _ => by kernel_rfl
      go_enter Try.func20, Try.ntmps20
      go_wp2
      refine wp_loop_rounds 6 ?_
      rw [rounds_succ]
      go_wp2
      rw [rounds_succ]
      go_wp2
      rw [rounds_succ]
      go_wp2
      go_ret2
      exact ⟨rfl, by repeat (first | exact Below.refl _ _ | refine below_drewN ?_ _ | refine Below.alloc ?_ (by simp) _)⟩

set_option maxHeartbeats 4000000 in
set_option maxRecDepth 100000 in
theorem join_unfit3 (a0 a1 a2 a3 a4 : Int) (a5 : Nat) (a6 a7 : Int) (w : World) (h0 : ¬ a0 < -1000000000) (g0 : ¬ a0 > 1000000000) (h1 : ¬ a1 < -1000000000) (g1 : ¬ a1 > 1000000000) (h2 : ¬ a2 < -1000000000) (g2 : ¬ a2 > 1000000000) (hu : unfit a3) :
    Calls Try.prog 20 #[.agg #[.int .i64 a0, .int .i64 a1, .int .i64 a2, .int .i64 a3, .int .i64 a4, .float .f64 a5, .int .i64 a6, .int .i64 a7]] w fun e w' => e = .returned (.tuple #[.int .i64 0, .int .i64 110]) ∧ Below w.heap.size w w' := by
    rcases hu with hu | hu
    all_goals
      have i0 : ∀ (w_ : World), (Instr.index 57 (.agg #[.int .i64 a0, .int .i64 a1, .int .i64 a2, .int .i64 a3, .int .i64 a4]) (.int .i64 0)).run Try.prog w_ = .ok (.int .i64 a0) w_ := fun _ => by kernel_rfl
      have i1 : ∀ (w_ : World), (Instr.index 57 (.agg #[.int .i64 a0, .int .i64 a1, .int .i64 a2, .int .i64 a3, .int .i64 a4]) (.int .i64 1)).run Try.prog w_ = .ok (.int .i64 a1) w_ := fun _ => by kernel_rfl
      have i2 : ∀ (w_ : World), (Instr.index 57 (.agg #[.int .i64 a0, .int .i64 a1, .int .i64 a2, .int .i64 a3, .int .i64 a4]) (.int .i64 2)).run Try.prog w_ = .ok (.int .i64 a2) w_ := fun _ => by kernel_rfl
      have i3 : ∀ (w_ : World), (Instr.index 57 (.agg #[.int .i64 a0, .int .i64 a1, .int .i64 a2, .int .i64 a3, .int .i64 a4]) (.int .i64 3)).run Try.prog w_ = .ok (.int .i64 a3) w_ := fun _ => by kernel_rfl
      have i4 : ∀ (w_ : World), (Instr.index 57 (.agg #[.int .i64 a0, .int .i64 a1, .int .i64 a2, .int .i64 a3, .int .i64 a4]) (.int .i64 4)).run Try.prog w_ = .ok (.int .i64 a4) w_ := fun _ => by kernel_rfl
      go_enter Try.func20, Try.ntmps20
      go_wp2
      refine wp_loop_rounds 6 ?_
      rw [rounds_succ]
      go_wp2
      rw [rounds_succ]
      go_wp2
      rw [rounds_succ]
      go_wp2
      rw [rounds_succ]
      go_wp2
      go_ret2
      exact ⟨rfl, by repeat (first | exact Below.refl _ _ | refine below_drewN ?_ _ | refine Below.alloc ?_ (by simp) _)⟩

set_option maxHeartbeats 4000000 in
set_option maxRecDepth 100000 in
theorem join_unfit4 (a0 a1 a2 a3 a4 : Int) (a5 : Nat) (a6 a7 : Int) (w : World) (h0 : ¬ a0 < -1000000000) (g0 : ¬ a0 > 1000000000) (h1 : ¬ a1 < -1000000000) (g1 : ¬ a1 > 1000000000) (h2 : ¬ a2 < -1000000000) (g2 : ¬ a2 > 1000000000) (h3 : ¬ a3 < -1000000000) (g3 : ¬ a3 > 1000000000) (hu : unfit a4) :
    Calls Try.prog 20 #[.agg #[.int .i64 a0, .int .i64 a1, .int .i64 a2, .int .i64 a3, .int .i64 a4, .float .f64 a5, .int .i64 a6, .int .i64 a7]] w fun e w' => e = .returned (.tuple #[.int .i64 0, .int .i64 110]) ∧ Below w.heap.size w w' := by
    rcases hu with hu | hu
    all_goals
      have i0 : ∀ (w_ : World), (Instr.index 57 (.agg #[.int .i64 a0, .int .i64 a1, .int .i64 a2, .int .i64 a3, .int .i64 a4]) (.int .i64 0)).run Try.prog w_ = .ok (.int .i64 a0) w_ := fun _ => by kernel_rfl
      have i1 : ∀ (w_ : World), (Instr.index 57 (.agg #[.int .i64 a0, .int .i64 a1, .int .i64 a2, .int .i64 a3, .int .i64 a4]) (.int .i64 1)).run Try.prog w_ = .ok (.int .i64 a1) w_ := fun _ => by kernel_rfl
      have i2 : ∀ (w_ : World), (Instr.index 57 (.agg #[.int .i64 a0, .int .i64 a1, .int .i64 a2, .int .i64 a3, .int .i64 a4]) (.int .i64 2)).run Try.prog w_ = .ok (.int .i64 a2) w_ := fun _ => by kernel_rfl
      have i3 : ∀ (w_ : World), (Instr.index 57 (.agg #[.int .i64 a0, .int .i64 a1, .int .i64 a2, .int .i64 a3, .int .i64 a4]) (.int .i64 3)).run Try.prog w_ = .ok (.int .i64 a3) w_ := fun _ => by kernel_rfl
      have i4 : ∀ (w_ : World), (Instr.index 57 (.agg #[.int .i64 a0, .int .i64 a1, .int .i64 a2, .int .i64 a3, .int .i64 a4]) (.int .i64 4)).run Try.prog w_ = .ok (.int .i64 a4) w_ := fun _ => by kernel_rfl
      go_enter Try.func20, Try.ntmps20
      go_wp2
      refine wp_loop_rounds 6 ?_
      rw [rounds_succ]
      go_wp2
      rw [rounds_succ]
      go_wp2
      rw [rounds_succ]
      go_wp2
      rw [rounds_succ]
      go_wp2
      rw [rounds_succ]
      go_wp2
      go_ret2
      exact ⟨rfl, by repeat (first | exact Below.refl _ _ | refine below_drewN ?_ _ | refine Below.alloc ?_ (by simp) _)⟩

set_option maxHeartbeats 4000000 in
set_option maxRecDepth 100000 in
theorem join_year (a0 a1 a2 a3 a4 : Int) (a5 : Nat) (a6 a7 : Int) (w : World) (h0 : ¬ a0 < -1000000000) (g0 : ¬ a0 > 1000000000) (h1 : ¬ a1 < -1000000000) (g1 : ¬ a1 > 1000000000) (h2 : ¬ a2 < -1000000000) (g2 : ¬ a2 > 1000000000) (h3 : ¬ a3 < -1000000000) (g3 : ¬ a3 > 1000000000) (h4 : ¬ a4 < -1000000000) (g4 : ¬ a4 > 1000000000) (q m : Int) (hd : calendar_divide.f a1 12 = some (q, m)) (hu : wrap64 (a0 + q) < -9999 ∨ wrap64 (a0 + q) > 9999) :
    Calls Try.prog 20 #[.agg #[.int .i64 a0, .int .i64 a1, .int .i64 a2, .int .i64 a3, .int .i64 a4, .float .f64 a5, .int .i64 a6, .int .i64 a7]] w fun e w' => e = .returned (.tuple #[.int .i64 0, .int .i64 110]) ∧ Below w.heap.size w w' := by
    have HD := Aside0.mk hd
    clear hd
    rcases hu with hu | hu
    all_goals
      have i0 : ∀ (w_ : World), (Instr.index 57 (.agg #[.int .i64 a0, .int .i64 a1, .int .i64 a2, .int .i64 a3, .int .i64 a4]) (.int .i64 0)).run Try.prog w_ = .ok (.int .i64 a0) w_ := fun _ => by kernel_rfl
      have i1 : ∀ (w_ : World), (Instr.index 57 (.agg #[.int .i64 a0, .int .i64 a1, .int .i64 a2, .int .i64 a3, .int .i64 a4]) (.int .i64 1)).run Try.prog w_ = .ok (.int .i64 a1) w_ := fun _ => by kernel_rfl
      have i2 : ∀ (w_ : World), (Instr.index 57 (.agg #[.int .i64 a0, .int .i64 a1, .int .i64 a2, .int .i64 a3, .int .i64 a4]) (.int .i64 2)).run Try.prog w_ = .ok (.int .i64 a2) w_ := fun _ => by kernel_rfl
      have i3 : ∀ (w_ : World), (Instr.index 57 (.agg #[.int .i64 a0, .int .i64 a1, .int .i64 a2, .int .i64 a3, .int .i64 a4]) (.int .i64 3)).run Try.prog w_ = .ok (.int .i64 a3) w_ := fun _ => by kernel_rfl
      have i4 : ∀ (w_ : World), (Instr.index 57 (.agg #[.int .i64 a0, .int .i64 a1, .int .i64 a2, .int .i64 a3, .int .i64 a4]) (.int .i64 4)).run Try.prog w_ = .ok (.int .i64 a4) w_ := fun _ => by kernel_rfl
      go_enter Try.func20, Try.ntmps20
      go_wp2
      refine wp_loop_rounds 6 ?_
      rw [rounds_succ]
      go_wp2_with fail
      rw [rounds_succ]
      go_wp2_with fail
      rw [rounds_succ]
      go_wp2_with fail
      rw [rounds_succ]
      go_wp2_with fail
      rw [rounds_succ]
      go_wp2_with fail
      rw [rounds_succ]
      go_wp2_with fail
      go_wp2_with (first | (go_at_call 28; refine (calendar_divide.calls a1 12 q m _ HD.out).mono ?_; rintro e w' ⟨rfl, ⟨nd, rfl⟩⟩))
      go_ret2
      exact ⟨rfl, by repeat (first | exact Below.refl _ _ | refine below_drewN ?_ _ | refine Below.alloc ?_ (by simp) _)⟩

set_option maxHeartbeats 4000000 in
set_option maxRecDepth 100000 in
theorem join_nan (a0 a1 a2 a3 a4 : Int) (a5 : Nat) (a6 a7 : Int) (w : World) (h0 : ¬ a0 < -1000000000) (g0 : ¬ a0 > 1000000000) (h1 : ¬ a1 < -1000000000) (g1 : ¬ a1 > 1000000000) (h2 : ¬ a2 < -1000000000) (g2 : ¬ a2 > 1000000000) (h3 : ¬ a3 < -1000000000) (g3 : ¬ a3 > 1000000000) (h4 : ¬ a4 < -1000000000) (g4 : ¬ a4 > 1000000000) (q m : Int) (hd : calendar_divide.f a1 12 = some (q, m)) (hy1 : ¬ wrap64 (a0 + q) < -9999) (hy2 : ¬ wrap64 (a0 + q) > 9999) (hn : math_IsNaN.f a5 = some true) :
    Calls Try.prog 20 #[.agg #[.int .i64 a0, .int .i64 a1, .int .i64 a2, .int .i64 a3, .int .i64 a4, .float .f64 a5, .int .i64 a6, .int .i64 a7]] w fun e w' => e = .returned (.tuple #[.int .i64 0, .int .i64 110]) ∧ Below w.heap.size w w' := by
    have HD := Aside0.mk hd
    clear hd
    have HN := Aside0.mk hn
    clear hn
    have i0 : ∀ (w_ : World), (Instr.index 57 (.agg #[.int .i64 a0, .int .i64 a1, .int .i64 a2, .int .i64 a3, .int .i64 a4]) (.int .i64 0)).run Try.prog w_ = .ok (.int .i64 a0) w_ := fun _ => by kernel_rfl
    have i1 : ∀ (w_ : World), (Instr.index 57 (.agg #[.int .i64 a0, .int .i64 a1, .int .i64 a2, .int .i64 a3, .int .i64 a4]) (.int .i64 1)).run Try.prog w_ = .ok (.int .i64 a1) w_ := fun _ => by kernel_rfl
    have i2 : ∀ (w_ : World), (Instr.index 57 (.agg #[.int .i64 a0, .int .i64 a1, .int .i64 a2, .int .i64 a3, .int .i64 a4]) (.int .i64 2)).run Try.prog w_ = .ok (.int .i64 a2) w_ := fun _ => by kernel_rfl
    have i3 : ∀ (w_ : World), (Instr.index 57 (.agg #[.int .i64 a0, .int .i64 a1, .int .i64 a2, .int .i64 a3, .int .i64 a4]) (.int .i64 3)).run Try.prog w_ = .ok (.int .i64 a3) w_ := fun _ => by kernel_rfl
    have i4 : ∀ (w_ : World), (Instr.index 57 (.agg #[.int .i64 a0, .int .i64 a1, .int .i64 a2, .int .i64 a3, .int .i64 a4]) (.int .i64 4)).run Try.prog w_ = .ok (.int .i64 a4) w_ := fun _ => by kernel_rfl
    go_enter Try.func20, Try.ntmps20
    go_wp2
    refine wp_loop_rounds 6 ?_
    rw [rounds_succ]
    go_wp2_with fail
    rw [rounds_succ]
    go_wp2_with fail
    rw [rounds_succ]
    go_wp2_with fail
    rw [rounds_succ]
    go_wp2_with fail
    rw [rounds_succ]
    go_wp2_with fail
    rw [rounds_succ]
    go_wp2_with fail
    go_wp2_with (first | (first | (go_at_call 28; refine (calendar_divide.calls a1 12 q m _ HD.out).mono ?_; rintro e w' ⟨rfl, ⟨nd, rfl⟩⟩)) | (first | (go_at_call 32; refine (math_IsNaN.calls a5 true _ HN.out).mono ?_; rintro e w' ⟨rfl, ⟨nd, rfl⟩⟩)))
    go_ret2
    exact ⟨rfl, by repeat (first | exact Below.refl _ _ | refine below_drewN ?_ _ | refine Below.alloc ?_ (by simp) _)⟩

set_option maxHeartbeats 4000000 in
set_option maxRecDepth 100000 in
theorem join_wide (a0 a1 a2 a3 a4 : Int) (a5 : Nat) (a6 a7 : Int) (w : World) (h0 : ¬ a0 < -1000000000) (g0 : ¬ a0 > 1000000000) (h1 : ¬ a1 < -1000000000) (g1 : ¬ a1 > 1000000000) (h2 : ¬ a2 < -1000000000) (g2 : ¬ a2 > 1000000000) (h3 : ¬ a3 < -1000000000) (g3 : ¬ a3 > 1000000000) (h4 : ¬ a4 < -1000000000) (g4 : ¬ a4 > 1000000000) (q m : Int) (hd : calendar_divide.f a1 12 = some (q, m)) (hy1 : ¬ wrap64 (a0 + q) < -9999) (hy2 : ¬ wrap64 (a0 + q) > 9999) (hn : math_IsNaN.f a5 = some false) (ab : Nat) (ha : math_Abs.f a5 = some ab) (hg : (FloatKind.f64.format.order ab 4741671816366391296 == some Ordering.gt) = true) :
    Calls Try.prog 20 #[.agg #[.int .i64 a0, .int .i64 a1, .int .i64 a2, .int .i64 a3, .int .i64 a4, .float .f64 a5, .int .i64 a6, .int .i64 a7]] w fun e w' => e = .returned (.tuple #[.int .i64 0, .int .i64 110]) ∧ Below w.heap.size w w' := by
    have HD := Aside0.mk hd
    clear hd
    have HN := Aside0.mk hn
    clear hn
    have HA := Aside0.mk ha
    clear ha
    have i0 : ∀ (w_ : World), (Instr.index 57 (.agg #[.int .i64 a0, .int .i64 a1, .int .i64 a2, .int .i64 a3, .int .i64 a4]) (.int .i64 0)).run Try.prog w_ = .ok (.int .i64 a0) w_ := fun _ => by kernel_rfl
    have i1 : ∀ (w_ : World), (Instr.index 57 (.agg #[.int .i64 a0, .int .i64 a1, .int .i64 a2, .int .i64 a3, .int .i64 a4]) (.int .i64 1)).run Try.prog w_ = .ok (.int .i64 a1) w_ := fun _ => by kernel_rfl
    have i2 : ∀ (w_ : World), (Instr.index 57 (.agg #[.int .i64 a0, .int .i64 a1, .int .i64 a2, .int .i64 a3, .int .i64 a4]) (.int .i64 2)).run Try.prog w_ = .ok (.int .i64 a2) w_ := fun _ => by kernel_rfl
    have i3 : ∀ (w_ : World), (Instr.index 57 (.agg #[.int .i64 a0, .int .i64 a1, .int .i64 a2, .int .i64 a3, .int .i64 a4]) (.int .i64 3)).run Try.prog w_ = .ok (.int .i64 a3) w_ := fun _ => by kernel_rfl
    have i4 : ∀ (w_ : World), (Instr.index 57 (.agg #[.int .i64 a0, .int .i64 a1, .int .i64 a2, .int .i64 a3, .int .i64 a4]) (.int .i64 4)).run Try.prog w_ = .ok (.int .i64 a4) w_ := fun _ => by kernel_rfl
    go_enter Try.func20, Try.ntmps20
    go_wp2
    refine wp_loop_rounds 6 ?_
    rw [rounds_succ]
    go_wp2_with fail
    rw [rounds_succ]
    go_wp2_with fail
    rw [rounds_succ]
    go_wp2_with fail
    rw [rounds_succ]
    go_wp2_with fail
    rw [rounds_succ]
    go_wp2_with fail
    rw [rounds_succ]
    go_wp2_with fail
    go_wp2_with (first | (first | (go_at_call 28; refine (calendar_divide.calls a1 12 q m _ HD.out).mono ?_; rintro e w' ⟨rfl, ⟨nd, rfl⟩⟩)) | (first | (go_at_call 32; refine (math_IsNaN.calls a5 false _ HN.out).mono ?_; rintro e w' ⟨rfl, ⟨nd, rfl⟩⟩)) | (first | (go_at_call 33; refine (math_Abs.calls a5 ab _ HA.out).mono ?_; rintro e w' ⟨rfl, ⟨nd, rfl⟩⟩)))
    go_ret2
    exact ⟨rfl, by repeat (first | exact Below.refl _ _ | refine below_drewN ?_ _ | refine Below.alloc ?_ (by simp) _)⟩

end Go.Proofs.Ytomkhipfooafnaa.P
