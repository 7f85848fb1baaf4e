/- Seconds of a time: function Join where all is in its range. -/
import Derived.Test.YtomkhipfooafnaaHandJoinA
set_option linter.unusedVariables false
namespace Go.Proofs.Ytomkhipfooafnaa.P
open Go.RowKit Go.Proofs.YtomkhipfooafnaaW.PrintWords Go.Proofs.YtomkhipfooafnaaW.PrintLast Go.Proofs.YtomkhipfooafnaaW.PrintMore
set_option maxHeartbeats 4000000 in
set_option maxRecDepth 100000 in
theorem join_lo (a0 a1 a2 a3 a4 : Int) (a5 : Nat) (a6 a7 : Int) (w : World) (h0 : ¬ a0 < -1000000000) (g0 : ¬ a0 > 1000000000) (h1 : ¬ a1 < -1000000000) (g1 : ¬ a1 > 1000000000) (h2 : ¬ a2 < -1000000000) (g2 : ¬ a2 > 1000000000) (h3 : ¬ a3 < -1000000000) (g3 : ¬ a3 > 1000000000) (h4 : ¬ a4 < -1000000000) (g4 : ¬ a4 > 1000000000) (q m : Int) (hd : calendar_divide.f a1 12 = some (q, m)) (hy1 : ¬ wrap64 (a0 + q) < -9999) (hy2 : ¬ wrap64 (a0 + q) > 9999) (hn : math_IsNaN.f a5 = some false) (ab : Nat) (ha : math_Abs.f a5 = some ab) (hg : (FloatKind.f64.format.order ab 4741671816366391296 == some Ordering.gt) = false)
    (nn : Int) (hnum : calendar_number.f (wrap64 (a0 + q)) m 1 = some nn) (fl : Nat) (hfl : math_Floor.f a5 = some fl) (hf : f2iok .i64 fl = true) (n r : Int) (hs : calendar_divide.f (wrap64 (wrap64 (wrap64 (wrap64 (wrap64 (wrap64 (nn + a2) - 1) * 86400) + a3 * 3600) + a4 * 60) + f2i .i64 fl)) 86400 = some (n, r)) (hr : n < -4371587) :
    Calls Try.prog 20 #[.agg #[.int .i64 a0, .int .i64 a1, .int .i64 a2, .int .i64 a3, .int .i64 a4, .float .f64 a5, .int .i64 a6, .int .i64 a7]] w fun e w' => e = .returned (.tuple #[.int .i64 0, .int .i64 110]) ∧ Below w.heap.size w w' := by
    have HD := Aside0.mk hd
    clear hd
    have HN := Aside0.mk hn
    clear hn
    have HA := Aside0.mk ha
    clear ha
    have HNUM := Aside0.mk hnum
    clear hnum
    have HFL := Aside0.mk hfl
    clear hfl
    have HS := Aside0.mk hs
    clear hs
    have hcv : ∀ (w_ : World), (convert 35 3 (.float .f64 fl)).run Try.prog w_ = .ok (.int .i64 (f2i .i64 fl)) w_ := fun w_ => run_f2iok (by kernel_rfl) Try.underlying3 hf
    have i0 : ∀ (w_ : World), (Instr.index 57 (.agg #[.int .i64 a0, .int .i64 a1, .int .i64 a2, .int .i64 a3, .int .i64 a4]) (.int .i64 0)).run Try.prog w_ = .ok (.int .i64 a0) w_ := fun _ => by kernel_rfl
    have i1 : ∀ (w_ : World), (Instr.index 57 (.agg #[.int .i64 a0, .int .i64 a1, .int .i64 a2, .int .i64 a3, .int .i64 a4]) (.int .i64 1)).run Try.prog w_ = .ok (.int .i64 a1) w_ := fun _ => by kernel_rfl
    have i2 : ∀ (w_ : World), (Instr.index 57 (.agg #[.int .i64 a0, .int .i64 a1, .int .i64 a2, .int .i64 a3, .int .i64 a4]) (.int .i64 2)).run Try.prog w_ = .ok (.int .i64 a2) w_ := fun _ => by kernel_rfl
    have i3 : ∀ (w_ : World), (Instr.index 57 (.agg #[.int .i64 a0, .int .i64 a1, .int .i64 a2, .int .i64 a3, .int .i64 a4]) (.int .i64 3)).run Try.prog w_ = .ok (.int .i64 a3) w_ := fun _ => by kernel_rfl
    have i4 : ∀ (w_ : World), (Instr.index 57 (.agg #[.int .i64 a0, .int .i64 a1, .int .i64 a2, .int .i64 a3, .int .i64 a4]) (.int .i64 4)).run Try.prog w_ = .ok (.int .i64 a4) w_ := fun _ => by kernel_rfl
    go_enter Try.func20, Try.ntmps20
    go_wp2
    refine wp_loop_rounds 6 ?_
    rw [rounds_succ]
    go_wp2_with fail
    rw [rounds_succ]
    go_wp2_with fail
    rw [rounds_succ]
    go_wp2_with fail
    rw [rounds_succ]
    go_wp2_with fail
    rw [rounds_succ]
    go_wp2_with fail
    rw [rounds_succ]
    go_wp2_with fail
    go_wp2_with (first | (first | (go_at_call 28; refine (calendar_divide.calls a1 12 q m _ HD.out).mono ?_; rintro e w' ⟨rfl, ⟨nd, rfl⟩⟩)) | (first | (go_at_call 32; refine (math_IsNaN.calls a5 false _ HN.out).mono ?_; rintro e w' ⟨rfl, ⟨nd, rfl⟩⟩)) | (first | (go_at_call 33; refine (math_Abs.calls a5 ab _ HA.out).mono ?_; rintro e w' ⟨rfl, ⟨nd, rfl⟩⟩)))
    go_quiet (first | (go_at_call 25; (with_reducible refine (calendar_number.calls (wrap64 (a0 + q)) m 1 nn _ HNUM.out).mono ?_); rintro e w' ⟨rfl, ⟨nd, rfl⟩⟩; (try first | exact ⟨rfl, _, World.drewN_drewN _ _ _⟩ | exact ⟨rfl, _, Eq.trans (World.drewN_drewN _ _ _) (congrArg (World.drewN _) (Nat.add_assoc _ _ _))⟩)) | (go_at_call 24; (with_reducible refine (math_Floor.calls a5 fl _ HFL.out).mono ?_); rintro e w' ⟨rfl, ⟨nd, rfl⟩⟩; (try first | exact ⟨rfl, _, World.drewN_drewN _ _ _⟩ | exact ⟨rfl, _, Eq.trans (World.drewN_drewN _ _ _) (congrArg (World.drewN _) (Nat.add_assoc _ _ _))⟩)))
    go_wp2_with fail
    go_wp2_with (first | (go_at_call 28; refine (calendar_divide.calls _ 86400 n r _ HS.out).mono ?_; rintro e w' ⟨rfl, ⟨nd, rfl⟩⟩))
    go_ret2
    exact ⟨rfl, by repeat (first | exact Below.refl _ _ | refine below_drewN ?_ _ | refine Below.alloc ?_ (by simp) _)⟩

set_option maxHeartbeats 4000000 in
set_option maxRecDepth 100000 in
theorem join_hi (a0 a1 a2 a3 a4 : Int) (a5 : Nat) (a6 a7 : Int) (w : World) (h0 : ¬ a0 < -1000000000) (g0 : ¬ a0 > 1000000000) (h1 : ¬ a1 < -1000000000) (g1 : ¬ a1 > 1000000000) (h2 : ¬ a2 < -1000000000) (g2 : ¬ a2 > 1000000000) (h3 : ¬ a3 < -1000000000) (g3 : ¬ a3 > 1000000000) (h4 : ¬ a4 < -1000000000) (g4 : ¬ a4 > 1000000000) (q m : Int) (hd : calendar_divide.f a1 12 = some (q, m)) (hy1 : ¬ wrap64 (a0 + q) < -9999) (hy2 : ¬ wrap64 (a0 + q) > 9999) (hn : math_IsNaN.f a5 = some false) (ab : Nat) (ha : math_Abs.f a5 = some ab) (hg : (FloatKind.f64.format.order ab 4741671816366391296 == some Ordering.gt) = false)
    (nn : Int) (hnum : calendar_number.f (wrap64 (a0 + q)) m 1 = some nn) (fl : Nat) (hfl : math_Floor.f a5 = some fl) (hf : f2iok .i64 fl = true) (n r : Int) (hs : calendar_divide.f (wrap64 (wrap64 (wrap64 (wrap64 (wrap64 (wrap64 (nn + a2) - 1) * 86400) + a3 * 3600) + a4 * 60) + f2i .i64 fl)) 86400 = some (n, r)) (hr : n > 2932896) :
    Calls Try.prog 20 #[.agg #[.int .i64 a0, .int .i64 a1, .int .i64 a2, .int .i64 a3, .int .i64 a4, .float .f64 a5, .int .i64 a6, .int .i64 a7]] w fun e w' => e = .returned (.tuple #[.int .i64 0, .int .i64 110]) ∧ Below w.heap.size w w' := by
    have HD := Aside0.mk hd
    clear hd
    have HN := Aside0.mk hn
    clear hn
    have HA := Aside0.mk ha
    clear ha
    have HNUM := Aside0.mk hnum
    clear hnum
    have HFL := Aside0.mk hfl
    clear hfl
    have HS := Aside0.mk hs
    clear hs
    have hcv : ∀ (w_ : World), (convert 35 3 (.float .f64 fl)).run Try.prog w_ = .ok (.int .i64 (f2i .i64 fl)) w_ := fun w_ => run_f2iok (by kernel_rfl) Try.underlying3 hf
    have i0 : ∀ (w_ : World), (Instr.index 57 (.agg #[.int .i64 a0, .int .i64 a1, .int .i64 a2, .int .i64 a3, .int .i64 a4]) (.int .i64 0)).run Try.prog w_ = .ok (.int .i64 a0) w_ := fun _ => by kernel_rfl
    have i1 : ∀ (w_ : World), (Instr.index 57 (.agg #[.int .i64 a0, .int .i64 a1, .int .i64 a2, .int .i64 a3, .int .i64 a4]) (.int .i64 1)).run Try.prog w_ = .ok (.int .i64 a1) w_ := fun _ => by kernel_rfl
    have i2 : ∀ (w_ : World), (Instr.index 57 (.agg #[.int .i64 a0, .int .i64 a1, .int .i64 a2, .int .i64 a3, .int .i64 a4]) (.int .i64 2)).run Try.prog w_ = .ok (.int .i64 a2) w_ := fun _ => by kernel_rfl
    have i3 : ∀ (w_ : World), (Instr.index 57 (.agg #[.int .i64 a0, .int .i64 a1, .int .i64 a2, .int .i64 a3, .int .i64 a4]) (.int .i64 3)).run Try.prog w_ = .ok (.int .i64 a3) w_ := fun _ => by kernel_rfl
    have i4 : ∀ (w_ : World), (Instr.index 57 (.agg #[.int .i64 a0, .int .i64 a1, .int .i64 a2, .int .i64 a3, .int .i64 a4]) (.int .i64 4)).run Try.prog w_ = .ok (.int .i64 a4) w_ := fun _ => by kernel_rfl
    go_enter Try.func20, Try.ntmps20
    go_wp2
    refine wp_loop_rounds 6 ?_
    rw [rounds_succ]
    go_wp2_with fail
    rw [rounds_succ]
    go_wp2_with fail
    rw [rounds_succ]
    go_wp2_with fail
    rw [rounds_succ]
    go_wp2_with fail
    rw [rounds_succ]
    go_wp2_with fail
    rw [rounds_succ]
    go_wp2_with fail
    go_wp2_with (first | (first | (go_at_call 28; refine (calendar_divide.calls a1 12 q m _ HD.out).mono ?_; rintro e w' ⟨rfl, ⟨nd, rfl⟩⟩)) | (first | (go_at_call 32; refine (math_IsNaN.calls a5 false _ HN.out).mono ?_; rintro e w' ⟨rfl, ⟨nd, rfl⟩⟩)) | (first | (go_at_call 33; refine (math_Abs.calls a5 ab _ HA.out).mono ?_; rintro e w' ⟨rfl, ⟨nd, rfl⟩⟩)))
    go_quiet (first | (go_at_call 25; (with_reducible refine (calendar_number.calls (wrap64 (a0 + q)) m 1 nn _ HNUM.out).mono ?_); rintro e w' ⟨rfl, ⟨nd, rfl⟩⟩; (try first | exact ⟨rfl, _, World.drewN_drewN _ _ _⟩ | exact ⟨rfl, _, Eq.trans (World.drewN_drewN _ _ _) (congrArg (World.drewN _) (Nat.add_assoc _ _ _))⟩)) | (go_at_call 24; (with_reducible refine (math_Floor.calls a5 fl _ HFL.out).mono ?_); rintro e w' ⟨rfl, ⟨nd, rfl⟩⟩; (try first | exact ⟨rfl, _, World.drewN_drewN _ _ _⟩ | exact ⟨rfl, _, Eq.trans (World.drewN_drewN _ _ _) (congrArg (World.drewN _) (Nat.add_assoc _ _ _))⟩)))
    go_wp2_with fail
    go_wp2_with (first | (go_at_call 28; refine (calendar_divide.calls _ 86400 n r _ HS.out).mono ?_; rintro e w' ⟨rfl, ⟨nd, rfl⟩⟩))
    go_ret2
    exact ⟨rfl, by repeat (first | exact Below.refl _ _ | refine below_drewN ?_ _ | refine Below.alloc ?_ (by simp) _)⟩

set_option maxHeartbeats 4000000 in
set_option maxRecDepth 100000 in
theorem join_ok (a0 a1 a2 a3 a4 : Int) (a5 : Nat) (a6 a7 : Int) (w : World) (h0 : ¬ a0 < -1000000000) (g0 : ¬ a0 > 1000000000) (h1 : ¬ a1 < -1000000000) (g1 : ¬ a1 > 1000000000) (h2 : ¬ a2 < -1000000000) (g2 : ¬ a2 > 1000000000) (h3 : ¬ a3 < -1000000000) (g3 : ¬ a3 > 1000000000) (h4 : ¬ a4 < -1000000000) (g4 : ¬ a4 > 1000000000) (q m : Int) (hd : calendar_divide.f a1 12 = some (q, m)) (hy1 : ¬ wrap64 (a0 + q) < -9999) (hy2 : ¬ wrap64 (a0 + q) > 9999) (hn : math_IsNaN.f a5 = some false) (ab : Nat) (ha : math_Abs.f a5 = some ab) (hg : (FloatKind.f64.format.order ab 4741671816366391296 == some Ordering.gt) = false)
    (nn : Int) (hnum : calendar_number.f (wrap64 (a0 + q)) m 1 = some nn) (fl : Nat) (hfl : math_Floor.f a5 = some fl) (hf : f2iok .i64 fl = true) (n r : Int) (hs : calendar_divide.f (wrap64 (wrap64 (wrap64 (wrap64 (wrap64 (wrap64 (nn + a2) - 1) * 86400) + a3 * 3600) + a4 * 60) + f2i .i64 fl)) 86400 = some (n, r)) (hr1 : ¬ n < -4371587) (hr2 : ¬ n > 2932896) :
    Calls Try.prog 20 #[.agg #[.int .i64 a0, .int .i64 a1, .int .i64 a2, .int .i64 a3, .int .i64 a4, .float .f64 a5, .int .i64 a6, .int .i64 a7]] w fun e w' => e = .returned (.tuple #[.int .i64 (wrap64 (wrap64 (wrap64 (wrap64 (wrap64 (wrap64 (nn + a2) - 1) * 86400) + a3 * 3600) + a4 * 60) + f2i .i64 fl)), .int .i64 0]) ∧ Below w.heap.size w w' := by
    have HD := Aside0.mk hd
    clear hd
    have HN := Aside0.mk hn
    clear hn
    have HA := Aside0.mk ha
    clear ha
    have HNUM := Aside0.mk hnum
    clear hnum
    have HFL := Aside0.mk hfl
    clear hfl
    have HS := Aside0.mk hs
    clear hs
    have hcv : ∀ (w_ : World), (convert 35 3 (.float .f64 fl)).run Try.prog w_ = .ok (.int .i64 (f2i .i64 fl)) w_ := fun w_ => run_f2iok (by kernel_rfl) Try.underlying3 hf
    have i0 : ∀ (w_ : World), (Instr.index 57 (.agg #[.int .i64 a0, .int .i64 a1, .int .i64 a2, .int .i64 a3, .int .i64 a4]) (.int .i64 0)).run Try.prog w_ = .ok (.int .i64 a0) w_ := fun _ => by kernel_rfl
    have i1 : ∀ (w_ : World), (Instr.index 57 (.agg #[.int .i64 a0, .int .i64 a1, .int .i64 a2, .int .i64 a3, .int .i64 a4]) (.int .i64 1)).run Try.prog w_ = .ok (.int .i64 a1) w_ := fun _ => by kernel_rfl
    have i2 : ∀ (w_ : World), (Instr.index 57 (.agg #[.int .i64 a0, .int .i64 a1, .int .i64 a2, .int .i64 a3, .int .i64 a4]) (.int .i64 2)).run Try.prog w_ = .ok (.int .i64 a2) w_ := fun _ => by kernel_rfl
    have i3 : ∀ (w_ : World), (Instr.index 57 (.agg #[.int .i64 a0, .int .i64 a1, .int .i64 a2, .int .i64 a3, .int .i64 a4]) (.int .i64 3)).run Try.prog w_ = .ok (.int .i64 a3) w_ := fun _ => by kernel_rfl
    have i4 : ∀ (w_ : World), (Instr.index 57 (.agg #[.int .i64 a0, .int .i64 a1, .int .i64 a2, .int .i64 a3, .int .i64 a4]) (.int .i64 4)).run Try.prog w_ = .ok (.int .i64 a4) w_ := fun _ => by kernel_rfl
    go_enter Try.func20, Try.ntmps20
    go_wp2
    refine wp_loop_rounds 6 ?_
    rw [rounds_succ]
    go_wp2_with fail
    rw [rounds_succ]
    go_wp2_with fail
    rw [rounds_succ]
    go_wp2_with fail
    rw [rounds_succ]
    go_wp2_with fail
    rw [rounds_succ]
    go_wp2_with fail
    rw [rounds_succ]
    go_wp2_with fail
    go_wp2_with (first | (first | (go_at_call 28; refine (calendar_divide.calls a1 12 q m _ HD.out).mono ?_; rintro e w' ⟨rfl, ⟨nd, rfl⟩⟩)) | (first | (go_at_call 32; refine (math_IsNaN.calls a5 false _ HN.out).mono ?_; rintro e w' ⟨rfl, ⟨nd, rfl⟩⟩)) | (first | (go_at_call 33; refine (math_Abs.calls a5 ab _ HA.out).mono ?_; rintro e w' ⟨rfl, ⟨nd, rfl⟩⟩)))
    go_quiet (first | (go_at_call 25; (with_reducible refine (calendar_number.calls (wrap64 (a0 + q)) m 1 nn _ HNUM.out).mono ?_); rintro e w' ⟨rfl, ⟨nd, rfl⟩⟩; (try first | exact ⟨rfl, _, World.drewN_drewN _ _ _⟩ | exact ⟨rfl, _, Eq.trans (World.drewN_drewN _ _ _) (congrArg (World.drewN _) (Nat.add_assoc _ _ _))⟩)) | (go_at_call 24; (with_reducible refine (math_Floor.calls a5 fl _ HFL.out).mono ?_); rintro e w' ⟨rfl, ⟨nd, rfl⟩⟩; (try first | exact ⟨rfl, _, World.drewN_drewN _ _ _⟩ | exact ⟨rfl, _, Eq.trans (World.drewN_drewN _ _ _) (congrArg (World.drewN _) (Nat.add_assoc _ _ _))⟩)))
    go_wp2_with fail
    go_wp2_with (first | (go_at_call 28; refine (calendar_divide.calls _ 86400 n r _ HS.out).mono ?_; rintro e w' ⟨rfl, ⟨nd, rfl⟩⟩))
    go_ret2
    exact ⟨rfl, by repeat (first | exact Below.refl _ _ | refine below_drewN ?_ _ | refine Below.alloc ?_ (by simp) _)⟩

/-- Seconds of a time, as a function of its fields. -/
def calendar_Join.f (a0 a1 a2 a3 a4 : Int) (a5 : Nat) (a6 a7 : Int) : Option (Int × Int) :=
  if a0 < -1000000000 ∨ a0 > 1000000000 then some (0, 110) else if a1 < -1000000000 ∨ a1 > 1000000000 then some (0, 110) else if a2 < -1000000000 ∨ a2 > 1000000000 then some (0, 110) else
  if a3 < -1000000000 ∨ a3 > 1000000000 then some (0, 110) else if a4 < -1000000000 ∨ a4 > 1000000000 then some (0, 110) else
  (calendar_divide.f a1 12).bind fun d =>
    if wrap64 (a0 + d.1) < -9999 ∨ wrap64 (a0 + d.1) > 9999 then some (0, 110) else
    (math_IsNaN.f a5).bind fun nan => if nan = true then some (0, 110) else
    (math_Abs.f a5).bind fun ab => if (FloatKind.f64.format.order ab 4741671816366391296 == some Ordering.gt) = true then some (0, 110) else
    (calendar_number.f (wrap64 (a0 + d.1)) d.2 1).bind fun nn => (math_Floor.f a5).bind fun fl =>
    if f2iok .i64 fl = true then
      (calendar_divide.f (wrap64 (wrap64 (wrap64 (wrap64 (wrap64 (wrap64 (nn + a2) - 1) * 86400) + a3 * 3600) + a4 * 60) + f2i .i64 fl)) 86400).bind fun s =>
      if s.1 < -4371587 then some (0, 110) else if s.1 > 2932896 then some (0, 110) else
      some (wrap64 (wrap64 (wrap64 (wrap64 (wrap64 (wrap64 (nn + a2) - 1) * 86400) + a3 * 3600) + a4 * 60) + f2i .i64 fl), 0)
    else none
theorem calendar_Join.calls (a0 a1 a2 a3 a4 : Int) (a5 : Nat) (a6 a7 : Int) (r1 r2 : Int) (w : World) (h : calendar_Join.f a0 a1 a2 a3 a4 a5 a6 a7 = some (r1, r2)) :
    Calls Try.prog 20 #[.agg #[.int .i64 a0, .int .i64 a1, .int .i64 a2, .int .i64 a3, .int .i64 a4, .float .f64 a5, .int .i64 a6, .int .i64 a7]] w fun e w' => e = .returned (.tuple #[.int .i64 r1, .int .i64 r2]) ∧ Below w.heap.size w w' := by
  unfold calendar_Join.f at h
  by_cases u0 : a0 < -1000000000 ∨ a0 > 1000000000
  · rw [if_pos u0] at h
    obtain ⟨rfl, rfl⟩ := Prod.mk.inj (Option.some.inj h)
    exact join_unfit0 a0 a1 a2 a3 a4 a5 a6 a7 w u0
  rw [if_neg u0] at h
  have l0 : ¬ a0 < -1000000000 := fun x => u0 (Or.inl x)
  have g0 : ¬ a0 > 1000000000 := fun x => u0 (Or.inr x)
  by_cases u1 : a1 < -1000000000 ∨ a1 > 1000000000
  · rw [if_pos u1] at h
    obtain ⟨rfl, rfl⟩ := Prod.mk.inj (Option.some.inj h)
    exact join_unfit1 a0 a1 a2 a3 a4 a5 a6 a7 w l0 g0 u1
  rw [if_neg u1] at h
  have l1 : ¬ a1 < -1000000000 := fun x => u1 (Or.inl x)
  have g1 : ¬ a1 > 1000000000 := fun x => u1 (Or.inr x)
  by_cases u2 : a2 < -1000000000 ∨ a2 > 1000000000
  · rw [if_pos u2] at h
    obtain ⟨rfl, rfl⟩ := Prod.mk.inj (Option.some.inj h)
    exact join_unfit2 a0 a1 a2 a3 a4 a5 a6 a7 w l0 g0 l1 g1 u2
  rw [if_neg u2] at h
  have l2 : ¬ a2 < -1000000000 := fun x => u2 (Or.inl x)
  have g2 : ¬ a2 > 1000000000 := fun x => u2 (Or.inr x)
  by_cases u3 : a3 < -1000000000 ∨ a3 > 1000000000
  · rw [if_pos u3] at h
    obtain ⟨rfl, rfl⟩ := Prod.mk.inj (Option.some.inj h)
    exact join_unfit3 a0 a1 a2 a3 a4 a5 a6 a7 w l0 g0 l1 g1 l2 g2 u3
  rw [if_neg u3] at h
  have l3 : ¬ a3 < -1000000000 := fun x => u3 (Or.inl x)
  have g3 : ¬ a3 > 1000000000 := fun x => u3 (Or.inr x)
  by_cases u4 : a4 < -1000000000 ∨ a4 > 1000000000
  · rw [if_pos u4] at h
    obtain ⟨rfl, rfl⟩ := Prod.mk.inj (Option.some.inj h)
    exact join_unfit4 a0 a1 a2 a3 a4 a5 a6 a7 w l0 g0 l1 g1 l2 g2 l3 g3 u4
  rw [if_neg u4] at h
  have l4 : ¬ a4 < -1000000000 := fun x => u4 (Or.inl x)
  have g4 : ¬ a4 > 1000000000 := fun x => u4 (Or.inr x)
  obtain ⟨⟨q, m⟩, hd, h⟩ := Option.bind_eq_some_iff.mp h
  dsimp only at h
  by_cases uy : wrap64 (a0 + q) < -9999 ∨ wrap64 (a0 + q) > 9999
  · rw [if_pos uy] at h
    obtain ⟨rfl, rfl⟩ := Prod.mk.inj (Option.some.inj h)
    exact join_year a0 a1 a2 a3 a4 a5 a6 a7 w l0 g0 l1 g1 l2 g2 l3 g3 l4 g4 q m hd uy
  rw [if_neg uy] at h
  have y1 : ¬ wrap64 (a0 + q) < -9999 := fun x => uy (Or.inl x)
  have y2 : ¬ wrap64 (a0 + q) > 9999 := fun x => uy (Or.inr x)
  obtain ⟨nan, hn, h⟩ := Option.bind_eq_some_iff.mp h
  cases nan with
  | true =>
    rw [if_pos rfl] at h
    obtain ⟨rfl, rfl⟩ := Prod.mk.inj (Option.some.inj h)
    exact join_nan a0 a1 a2 a3 a4 a5 a6 a7 w l0 g0 l1 g1 l2 g2 l3 g3 l4 g4 q m hd y1 y2 hn
  | false =>
    rw [if_neg (by decide)] at h
    obtain ⟨ab, ha, h⟩ := Option.bind_eq_some_iff.mp h
    by_cases hg : (FloatKind.f64.format.order ab 4741671816366391296 == some Ordering.gt) = true
    · rw [if_pos hg] at h
      obtain ⟨rfl, rfl⟩ := Prod.mk.inj (Option.some.inj h)
      exact join_wide a0 a1 a2 a3 a4 a5 a6 a7 w l0 g0 l1 g1 l2 g2 l3 g3 l4 g4 q m hd y1 y2 hn ab ha hg
    rw [if_neg hg] at h
    have hg' : (FloatKind.f64.format.order ab 4741671816366391296 == some Ordering.gt) = false := by simpa using hg
    obtain ⟨nn, hnum, h⟩ := Option.bind_eq_some_iff.mp h
    obtain ⟨fl, hfl, h⟩ := Option.bind_eq_some_iff.mp h
    by_cases hf : f2iok .i64 fl = true
    · rw [if_pos hf] at h
      obtain ⟨⟨n, r⟩, hs, h⟩ := Option.bind_eq_some_iff.mp h
      dsimp only at h
      by_cases c1 : n < -4371587
      · rw [if_pos c1] at h
        obtain ⟨rfl, rfl⟩ := Prod.mk.inj (Option.some.inj h)
        exact join_lo a0 a1 a2 a3 a4 a5 a6 a7 w l0 g0 l1 g1 l2 g2 l3 g3 l4 g4 q m hd y1 y2 hn ab ha hg' nn hnum fl hfl hf n r hs c1
      rw [if_neg c1] at h
      by_cases c2 : n > 2932896
      · rw [if_pos c2] at h
        obtain ⟨rfl, rfl⟩ := Prod.mk.inj (Option.some.inj h)
        exact join_hi a0 a1 a2 a3 a4 a5 a6 a7 w l0 g0 l1 g1 l2 g2 l3 g3 l4 g4 q m hd y1 y2 hn ab ha hg' nn hnum fl hfl hf n r hs c2
      rw [if_neg c2] at h
      obtain ⟨rfl, rfl⟩ := Prod.mk.inj (Option.some.inj h)
      exact join_ok a0 a1 a2 a3 a4 a5 a6 a7 w l0 g0 l1 g1 l2 g2 l3 g3 l4 g4 q m hd y1 y2 hn ab ha hg' nn hnum fl hfl hf n r hs c1 c2
    · rw [if_neg hf] at h
      exact absurd h (by simp)
end Go.Proofs.Ytomkhipfooafnaa.P
