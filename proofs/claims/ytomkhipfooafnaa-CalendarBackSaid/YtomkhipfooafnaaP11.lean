/- Printed by this session's own copy of the printer (wip/tools/mkprint.py): functions, and that the Go code answers as they do. -/
import Derived.Test.YtomkhipfooafnaaP0
import Derived.Test.YtomkhipfooafnaaP3
import Derived.Test.YtomkhipfooafnaaP6
import Derived.Test.YtomkhipfooafnaaP10
namespace Go.Proofs.Ytomkhipfooafnaa.P
open Go.RowKit Go.Proofs.YtomkhipfooafnaaW.PrintWords Go.Proofs.YtomkhipfooafnaaW.PrintLast Go.Proofs.YtomkhipfooafnaaW.PrintMore
attribute [local go_sem] max2_int min2_int max_two min_two max_three min_three max_four min_four   -- for this text's walks alone
set_option linter.unusedVariables false
set_option linter.unusedSimpArgs false

/-! ### calendar_Weeks: function 22 -/
def calendar_Weeks.f (k : Nat) (a0 : Int) : Option (Int × Int × Int × Int × Int) := (calendar_Date.f k a0).bind fun bt138 => (if bt138.2.2.2 = 0 then ((calendar_weekday.f a0).bind fun t142 => ((calendar_number.f bt138.1 0 1).bind fun t143 => ((calendar_number.f bt138.1 0 1).bind fun t144 => (if (wrap64 ((wrap64 (a0 - (Int.tmod (wrap64 (t142 + 6)) 7))) + 3)) < t144 then ((calendar_number.f (wrap64 (bt138.1 - 1)) 0 1).bind fun t145 => ((calendar_weekday.f a0).bind fun t146 => (some (wrap64 (bt138.1 - 1), wrap64 ((wrap64 (Int.tdiv (wrap64 ((wrap64 ((wrap64 (a0 - (Int.tmod (wrap64 (t142 + 6)) 7))) + 3)) - t145)) 7)) + 1), wrap64 (Int.tdiv (wrap64 ((wrap64 ((wrap64 (a0 - t143)) + 7)) - t146)) 7), wrap64 (Int.tdiv (wrap64 ((wrap64 ((wrap64 (a0 - t143)) + 7)) - (Int.tmod (wrap64 (t142 + 6)) 7))) 7), 0)))) else ((calendar_number.f (wrap64 (bt138.1 + 1)) 0 1).bind fun t147 => (if (wrap64 ((wrap64 (a0 - (Int.tmod (wrap64 (t142 + 6)) 7))) + 3)) ≥ t147 then ((calendar_number.f (wrap64 (bt138.1 + 1)) 0 1).bind fun t148 => ((calendar_weekday.f a0).bind fun t149 => (some (wrap64 (bt138.1 + 1), wrap64 ((wrap64 (Int.tdiv (wrap64 ((wrap64 ((wrap64 (a0 - (Int.tmod (wrap64 (t142 + 6)) 7))) + 3)) - t148)) 7)) + 1), wrap64 (Int.tdiv (wrap64 ((wrap64 ((wrap64 (a0 - t143)) + 7)) - t149)) 7), wrap64 (Int.tdiv (wrap64 ((wrap64 ((wrap64 (a0 - t143)) + 7)) - (Int.tmod (wrap64 (t142 + 6)) 7))) 7), 0)))) else ((calendar_number.f bt138.1 0 1).bind fun t150 => ((calendar_weekday.f a0).bind fun t151 => (some (bt138.1, wrap64 ((wrap64 (Int.tdiv (wrap64 ((wrap64 ((wrap64 (a0 - (Int.tmod (wrap64 (t142 + 6)) 7))) + 3)) - t150)) 7)) + 1), wrap64 (Int.tdiv (wrap64 ((wrap64 ((wrap64 (a0 - t143)) + 7)) - t151)) 7), wrap64 (Int.tdiv (wrap64 ((wrap64 ((wrap64 (a0 - t143)) + 7)) - (Int.tmod (wrap64 (t142 + 6)) 7))) 7), 0)))))))))) else (some (0, 0, 0, 0, bt138.2.2.2)))
theorem calendar_Weeks.mono : ∀ a0 k, LeO (calendar_Weeks.f k a0) (calendar_Weeks.f (k + 1) a0) := by
  intro a0 k
  unfold calendar_Weeks.f
  repeat' first
      | (with_reducible exact calendar_Date.mono _ _)
      | (with_reducible exact LeO.refl _)
      | (with_reducible exact LeO.none _)
      | (with_reducible refine LeO.ite ?_ ?_)
      | (with_reducible refine LeO.bind ?_ (fun _ => ?_))
      | exact calendar_Date.mono _ _
      | exact LeO.none _
      | refine LeO.ite ?_ ?_
      | refine LeO.bind ?_ (fun _ => ?_)
set_option maxHeartbeats 8000000 in
set_option maxRecDepth 100000 in
theorem calendar_Weeks.calls (k : Nat) (a0 : Int) (r1 : Int) (r2 : Int) (r3 : Int) (r4 : Int) (r5 : Int) (w : World) (h : calendar_Weeks.f k a0 = some (r1, r2, r3, r4, r5)) :
    Calls Try.prog 22 #[.int .i64 a0] w fun e w' => e = .returned (.tuple #[.int .i64 r1, .int .i64 r2, .int .i64 r3, .int .i64 r4, .int .i64 r5]) ∧ Drawn0 w w' := by
  have H : ((calendar_Date.f k a0).bind fun bt138 => (if bt138.2.2.2 = 0 then ((calendar_weekday.f a0).bind fun t142 => ((calendar_number.f bt138.1 0 1).bind fun t143 => ((calendar_number.f bt138.1 0 1).bind fun t144 => (if (wrap64 ((wrap64 (a0 - (Int.tmod (wrap64 (t142 + 6)) 7))) + 3)) < t144 then ((calendar_number.f (wrap64 (bt138.1 - 1)) 0 1).bind fun t145 => ((calendar_weekday.f a0).bind fun t146 => (some (wrap64 (bt138.1 - 1), wrap64 ((wrap64 (Int.tdiv (wrap64 ((wrap64 ((wrap64 (a0 - (Int.tmod (wrap64 (t142 + 6)) 7))) + 3)) - t145)) 7)) + 1), wrap64 (Int.tdiv (wrap64 ((wrap64 ((wrap64 (a0 - t143)) + 7)) - t146)) 7), wrap64 (Int.tdiv (wrap64 ((wrap64 ((wrap64 (a0 - t143)) + 7)) - (Int.tmod (wrap64 (t142 + 6)) 7))) 7), 0)))) else ((calendar_number.f (wrap64 (bt138.1 + 1)) 0 1).bind fun t147 => (if (wrap64 ((wrap64 (a0 - (Int.tmod (wrap64 (t142 + 6)) 7))) + 3)) ≥ t147 then ((calendar_number.f (wrap64 (bt138.1 + 1)) 0 1).bind fun t148 => ((calendar_weekday.f a0).bind fun t149 => (some (wrap64 (bt138.1 + 1), wrap64 ((wrap64 (Int.tdiv (wrap64 ((wrap64 ((wrap64 (a0 - (Int.tmod (wrap64 (t142 + 6)) 7))) + 3)) - t148)) 7)) + 1), wrap64 (Int.tdiv (wrap64 ((wrap64 ((wrap64 (a0 - t143)) + 7)) - t149)) 7), wrap64 (Int.tdiv (wrap64 ((wrap64 ((wrap64 (a0 - t143)) + 7)) - (Int.tmod (wrap64 (t142 + 6)) 7))) 7), 0)))) else ((calendar_number.f bt138.1 0 1).bind fun t150 => ((calendar_weekday.f a0).bind fun t151 => (some (bt138.1, wrap64 ((wrap64 (Int.tdiv (wrap64 ((wrap64 ((wrap64 (a0 - (Int.tmod (wrap64 (t142 + 6)) 7))) + 3)) - t150)) 7)) + 1), wrap64 (Int.tdiv (wrap64 ((wrap64 ((wrap64 (a0 - t143)) + 7)) - t151)) 7), wrap64 (Int.tdiv (wrap64 ((wrap64 ((wrap64 (a0 - t143)) + 7)) - (Int.tmod (wrap64 (t142 + 6)) 7))) 7), 0)))))))))) else (some (0, 0, 0, 0, bt138.2.2.2)))) = some (r1, r2, r3, r4, r5) := h
  clear h
  replace H := Option.bind_eq_some_iff.mp H
  obtain ⟨⟨t138, t139, t140, t141⟩, A20, H⟩ := H
  replace H : (if t141 = 0 then ((calendar_weekday.f a0).bind fun t142 => ((calendar_number.f t138 0 1).bind fun t143 => ((calendar_number.f t138 0 1).bind fun t144 => (if (wrap64 ((wrap64 (a0 - (Int.tmod (wrap64 (t142 + 6)) 7))) + 3)) < t144 then ((calendar_number.f (wrap64 (t138 - 1)) 0 1).bind fun t145 => ((calendar_weekday.f a0).bind fun t146 => (some (wrap64 (t138 - 1), wrap64 ((wrap64 (Int.tdiv (wrap64 ((wrap64 ((wrap64 (a0 - (Int.tmod (wrap64 (t142 + 6)) 7))) + 3)) - t145)) 7)) + 1), wrap64 (Int.tdiv (wrap64 ((wrap64 ((wrap64 (a0 - t143)) + 7)) - t146)) 7), wrap64 (Int.tdiv (wrap64 ((wrap64 ((wrap64 (a0 - t143)) + 7)) - (Int.tmod (wrap64 (t142 + 6)) 7))) 7), 0)))) else ((calendar_number.f (wrap64 (t138 + 1)) 0 1).bind fun t147 => (if (wrap64 ((wrap64 (a0 - (Int.tmod (wrap64 (t142 + 6)) 7))) + 3)) ≥ t147 then ((calendar_number.f (wrap64 (t138 + 1)) 0 1).bind fun t148 => ((calendar_weekday.f a0).bind fun t149 => (some (wrap64 (t138 + 1), wrap64 ((wrap64 (Int.tdiv (wrap64 ((wrap64 ((wrap64 (a0 - (Int.tmod (wrap64 (t142 + 6)) 7))) + 3)) - t148)) 7)) + 1), wrap64 (Int.tdiv (wrap64 ((wrap64 ((wrap64 (a0 - t143)) + 7)) - t149)) 7), wrap64 (Int.tdiv (wrap64 ((wrap64 ((wrap64 (a0 - t143)) + 7)) - (Int.tmod (wrap64 (t142 + 6)) 7))) 7), 0)))) else ((calendar_number.f t138 0 1).bind fun t150 => ((calendar_weekday.f a0).bind fun t151 => (some (t138, wrap64 ((wrap64 (Int.tdiv (wrap64 ((wrap64 ((wrap64 (a0 - (Int.tmod (wrap64 (t142 + 6)) 7))) + 3)) - t150)) 7)) + 1), wrap64 (Int.tdiv (wrap64 ((wrap64 ((wrap64 (a0 - t143)) + 7)) - t151)) 7), wrap64 (Int.tdiv (wrap64 ((wrap64 ((wrap64 (a0 - t143)) + 7)) - (Int.tmod (wrap64 (t142 + 6)) 7))) 7), 0)))))))))) else (some (0, 0, 0, 0, t141))) = some (r1, r2, r3, r4, r5) := H
  have A2 := Aside0.mk A20
  clear A20
  by_cases c3 : t141 = 0
  · rw [if_pos c3] at H
    have c3b0 : (t141 == 0) = true := beq_iff_eq.mpr c3
    have c3b1 : (t141 != 0) = false := bne_eq_false_iff_eq.mpr c3
    clear c3
    replace H := Option.bind_eq_some_iff.mp H
    obtain ⟨t142, A40, H⟩ := H
    replace H : ((calendar_number.f t138 0 1).bind fun t143 => ((calendar_number.f t138 0 1).bind fun t144 => (if (wrap64 ((wrap64 (a0 - (Int.tmod (wrap64 (t142 + 6)) 7))) + 3)) < t144 then ((calendar_number.f (wrap64 (t138 - 1)) 0 1).bind fun t145 => ((calendar_weekday.f a0).bind fun t146 => (some (wrap64 (t138 - 1), wrap64 ((wrap64 (Int.tdiv (wrap64 ((wrap64 ((wrap64 (a0 - (Int.tmod (wrap64 (t142 + 6)) 7))) + 3)) - t145)) 7)) + 1), wrap64 (Int.tdiv (wrap64 ((wrap64 ((wrap64 (a0 - t143)) + 7)) - t146)) 7), wrap64 (Int.tdiv (wrap64 ((wrap64 ((wrap64 (a0 - t143)) + 7)) - (Int.tmod (wrap64 (t142 + 6)) 7))) 7), 0)))) else ((calendar_number.f (wrap64 (t138 + 1)) 0 1).bind fun t147 => (if (wrap64 ((wrap64 (a0 - (Int.tmod (wrap64 (t142 + 6)) 7))) + 3)) ≥ t147 then ((calendar_number.f (wrap64 (t138 + 1)) 0 1).bind fun t148 => ((calendar_weekday.f a0).bind fun t149 => (some (wrap64 (t138 + 1), wrap64 ((wrap64 (Int.tdiv (wrap64 ((wrap64 ((wrap64 (a0 - (Int.tmod (wrap64 (t142 + 6)) 7))) + 3)) - t148)) 7)) + 1), wrap64 (Int.tdiv (wrap64 ((wrap64 ((wrap64 (a0 - t143)) + 7)) - t149)) 7), wrap64 (Int.tdiv (wrap64 ((wrap64 ((wrap64 (a0 - t143)) + 7)) - (Int.tmod (wrap64 (t142 + 6)) 7))) 7), 0)))) else ((calendar_number.f t138 0 1).bind fun t150 => ((calendar_weekday.f a0).bind fun t151 => (some (t138, wrap64 ((wrap64 (Int.tdiv (wrap64 ((wrap64 ((wrap64 (a0 - (Int.tmod (wrap64 (t142 + 6)) 7))) + 3)) - t150)) 7)) + 1), wrap64 (Int.tdiv (wrap64 ((wrap64 ((wrap64 (a0 - t143)) + 7)) - t151)) 7), wrap64 (Int.tdiv (wrap64 ((wrap64 ((wrap64 (a0 - t143)) + 7)) - (Int.tmod (wrap64 (t142 + 6)) 7))) 7), 0))))))))) = some (r1, r2, r3, r4, r5) := H
    have A4 := Aside0.mk A40
    clear A40
    replace H := Option.bind_eq_some_iff.mp H
    obtain ⟨t143, A50, H⟩ := H
    replace H : ((calendar_number.f t138 0 1).bind fun t144 => (if (wrap64 ((wrap64 (a0 - (Int.tmod (wrap64 (t142 + 6)) 7))) + 3)) < t144 then ((calendar_number.f (wrap64 (t138 - 1)) 0 1).bind fun t145 => ((calendar_weekday.f a0).bind fun t146 => (some (wrap64 (t138 - 1), wrap64 ((wrap64 (Int.tdiv (wrap64 ((wrap64 ((wrap64 (a0 - (Int.tmod (wrap64 (t142 + 6)) 7))) + 3)) - t145)) 7)) + 1), wrap64 (Int.tdiv (wrap64 ((wrap64 ((wrap64 (a0 - t143)) + 7)) - t146)) 7), wrap64 (Int.tdiv (wrap64 ((wrap64 ((wrap64 (a0 - t143)) + 7)) - (Int.tmod (wrap64 (t142 + 6)) 7))) 7), 0)))) else ((calendar_number.f (wrap64 (t138 + 1)) 0 1).bind fun t147 => (if (wrap64 ((wrap64 (a0 - (Int.tmod (wrap64 (t142 + 6)) 7))) + 3)) ≥ t147 then ((calendar_number.f (wrap64 (t138 + 1)) 0 1).bind fun t148 => ((calendar_weekday.f a0).bind fun t149 => (some (wrap64 (t138 + 1), wrap64 ((wrap64 (Int.tdiv (wrap64 ((wrap64 ((wrap64 (a0 - (Int.tmod (wrap64 (t142 + 6)) 7))) + 3)) - t148)) 7)) + 1), wrap64 (Int.tdiv (wrap64 ((wrap64 ((wrap64 (a0 - t143)) + 7)) - t149)) 7), wrap64 (Int.tdiv (wrap64 ((wrap64 ((wrap64 (a0 - t143)) + 7)) - (Int.tmod (wrap64 (t142 + 6)) 7))) 7), 0)))) else ((calendar_number.f t138 0 1).bind fun t150 => ((calendar_weekday.f a0).bind fun t151 => (some (t138, wrap64 ((wrap64 (Int.tdiv (wrap64 ((wrap64 ((wrap64 (a0 - (Int.tmod (wrap64 (t142 + 6)) 7))) + 3)) - t150)) 7)) + 1), wrap64 (Int.tdiv (wrap64 ((wrap64 ((wrap64 (a0 - t143)) + 7)) - t151)) 7), wrap64 (Int.tdiv (wrap64 ((wrap64 ((wrap64 (a0 - t143)) + 7)) - (Int.tmod (wrap64 (t142 + 6)) 7))) 7), 0)))))))) = some (r1, r2, r3, r4, r5) := H
    have A5 := Aside0.mk A50
    clear A50
    replace H := Option.bind_eq_some_iff.mp H
    obtain ⟨t144, A60, H⟩ := H
    replace H : (if (wrap64 ((wrap64 (a0 - (Int.tmod (wrap64 (t142 + 6)) 7))) + 3)) < t144 then ((calendar_number.f (wrap64 (t138 - 1)) 0 1).bind fun t145 => ((calendar_weekday.f a0).bind fun t146 => (some (wrap64 (t138 - 1), wrap64 ((wrap64 (Int.tdiv (wrap64 ((wrap64 ((wrap64 (a0 - (Int.tmod (wrap64 (t142 + 6)) 7))) + 3)) - t145)) 7)) + 1), wrap64 (Int.tdiv (wrap64 ((wrap64 ((wrap64 (a0 - t143)) + 7)) - t146)) 7), wrap64 (Int.tdiv (wrap64 ((wrap64 ((wrap64 (a0 - t143)) + 7)) - (Int.tmod (wrap64 (t142 + 6)) 7))) 7), 0)))) else ((calendar_number.f (wrap64 (t138 + 1)) 0 1).bind fun t147 => (if (wrap64 ((wrap64 (a0 - (Int.tmod (wrap64 (t142 + 6)) 7))) + 3)) ≥ t147 then ((calendar_number.f (wrap64 (t138 + 1)) 0 1).bind fun t148 => ((calendar_weekday.f a0).bind fun t149 => (some (wrap64 (t138 + 1), wrap64 ((wrap64 (Int.tdiv (wrap64 ((wrap64 ((wrap64 (a0 - (Int.tmod (wrap64 (t142 + 6)) 7))) + 3)) - t148)) 7)) + 1), wrap64 (Int.tdiv (wrap64 ((wrap64 ((wrap64 (a0 - t143)) + 7)) - t149)) 7), wrap64 (Int.tdiv (wrap64 ((wrap64 ((wrap64 (a0 - t143)) + 7)) - (Int.tmod (wrap64 (t142 + 6)) 7))) 7), 0)))) else ((calendar_number.f t138 0 1).bind fun t150 => ((calendar_weekday.f a0).bind fun t151 => (some (t138, wrap64 ((wrap64 (Int.tdiv (wrap64 ((wrap64 ((wrap64 (a0 - (Int.tmod (wrap64 (t142 + 6)) 7))) + 3)) - t150)) 7)) + 1), wrap64 (Int.tdiv (wrap64 ((wrap64 ((wrap64 (a0 - t143)) + 7)) - t151)) 7), wrap64 (Int.tdiv (wrap64 ((wrap64 ((wrap64 (a0 - t143)) + 7)) - (Int.tmod (wrap64 (t142 + 6)) 7))) 7), 0))))))) = some (r1, r2, r3, r4, r5) := H
    have A6 := Aside0.mk A60
    clear A60
    by_cases c7 : (wrap64 ((wrap64 (a0 - (Int.tmod (wrap64 (t142 + 6)) 7))) + 3)) < t144
    · rw [if_pos c7] at H
      have c7b0 : decide ((wrap64 ((wrap64 (a0 - (Int.tmod (wrap64 (t142 + 6)) 7))) + 3)) < t144) = true := decide_eq_true c7
      clear c7
      replace H := Option.bind_eq_some_iff.mp H
      obtain ⟨t145, A80, H⟩ := H
      replace H : ((calendar_weekday.f a0).bind fun t146 => (some (wrap64 (t138 - 1), wrap64 ((wrap64 (Int.tdiv (wrap64 ((wrap64 ((wrap64 (a0 - (Int.tmod (wrap64 (t142 + 6)) 7))) + 3)) - t145)) 7)) + 1), wrap64 (Int.tdiv (wrap64 ((wrap64 ((wrap64 (a0 - t143)) + 7)) - t146)) 7), wrap64 (Int.tdiv (wrap64 ((wrap64 ((wrap64 (a0 - t143)) + 7)) - (Int.tmod (wrap64 (t142 + 6)) 7))) 7), 0))) = some (r1, r2, r3, r4, r5) := H
      have A8 := Aside0.mk A80
      clear A80
      replace H := Option.bind_eq_some_iff.mp H
      obtain ⟨t146, A90, H⟩ := H
      replace H : (some (wrap64 (t138 - 1), wrap64 ((wrap64 (Int.tdiv (wrap64 ((wrap64 ((wrap64 (a0 - (Int.tmod (wrap64 (t142 + 6)) 7))) + 3)) - t145)) 7)) + 1), wrap64 (Int.tdiv (wrap64 ((wrap64 ((wrap64 (a0 - t143)) + 7)) - t146)) 7), wrap64 (Int.tdiv (wrap64 ((wrap64 ((wrap64 (a0 - t143)) + 7)) - (Int.tmod (wrap64 (t142 + 6)) 7))) 7), 0)) = some (r1, r2, r3, r4, r5) := H
      have A9 := Aside0.mk A90
      clear A90
      simp only [Option.some.injEq, Prod.mk.injEq] at H
      obtain ⟨rfl, rfl, rfl, rfl, rfl⟩ := H
      go_enter Try.func22, Try.ntmps22
      go_wp2_with (first | ((with_reducible refine gate_callee (f := 11) rfl ?_); refine goesL_ (some 17) rfl rfl Try.func11 (by kernel_rfl) rfl #[.int .i64 a0] rfl (by (try simp only [List.map_toArray, List.map_cons, List.map_nil]); first | done | rfl | (simp only [List.length_drop, List.length_take]; rfl)) ?_; (with_reducible refine (calendar_Date.calls k a0 t138 t139 t140 t141 _ A2.out).mono ?_); rintro e w' ⟨rfl, ⟨nd, rfl⟩⟩; refine ⟨_, rfl, ?_⟩) | ((with_reducible refine gate_callee (f := 34) rfl ?_); refine goesL_ (some 26) rfl rfl Try.func34 (by kernel_rfl) rfl #[.int .i64 a0] rfl (by (try simp only [List.map_toArray, List.map_cons, List.map_nil]); first | done | rfl | (simp only [List.length_drop, List.length_take]; rfl)) ?_; (with_reducible refine (calendar_weekday.calls a0 t142 _ A4.out).mono ?_); rintro e w' ⟨rfl, ⟨nd, rfl⟩⟩; refine ⟨_, rfl, ?_⟩) | ((with_reducible refine gate_callee (f := 25) rfl ?_); refine goesL_ (some 35) rfl rfl Try.func25 (by kernel_rfl) rfl #[.int .i64 t138, .int .i64 0, .int .i64 1] rfl (by (try simp only [List.map_toArray, List.map_cons, List.map_nil]); first | done | rfl | (simp only [List.length_drop, List.length_take]; rfl)) ?_; (with_reducible refine (calendar_number.calls t138 0 1 t143 _ A5.out).mono ?_); rintro e w' ⟨rfl, ⟨nd, rfl⟩⟩; refine ⟨_, rfl, ?_⟩) | ((with_reducible refine gate_callee (f := 25) rfl ?_); refine goesL_ (some 41) rfl rfl Try.func25 (by kernel_rfl) rfl #[.int .i64 t138, .int .i64 0, .int .i64 1] rfl (by (try simp only [List.map_toArray, List.map_cons, List.map_nil]); first | done | rfl | (simp only [List.length_drop, List.length_take]; rfl)) ?_; (with_reducible refine (calendar_number.calls t138 0 1 t144 _ A6.out).mono ?_); rintro e w' ⟨rfl, ⟨nd, rfl⟩⟩; refine ⟨_, rfl, ?_⟩) | ((with_reducible refine gate_callee (f := 25) rfl ?_); refine goesL_ (some 56) rfl rfl Try.func25 (by kernel_rfl) rfl #[.int .i64 (wrap64 (t138 - 1)), .int .i64 0, .int .i64 1] rfl (by (try simp only [List.map_toArray, List.map_cons, List.map_nil]); first | done | rfl | (simp only [List.length_drop, List.length_take]; rfl)) ?_; (with_reducible refine (calendar_number.calls (wrap64 (t138 - 1)) 0 1 t145 _ A8.out).mono ?_); rintro e w' ⟨rfl, ⟨nd, rfl⟩⟩; refine ⟨_, rfl, ?_⟩) | ((with_reducible refine gate_callee (f := 34) rfl ?_); refine goesL_ (some 63) rfl rfl Try.func34 (by kernel_rfl) rfl #[.int .i64 a0] rfl (by (try simp only [List.map_toArray, List.map_cons, List.map_nil]); first | done | rfl | (simp only [List.length_drop, List.length_take]; rfl)) ?_; (with_reducible refine (calendar_weekday.calls a0 t146 _ A9.out).mono ?_); rintro e w' ⟨rfl, ⟨nd, rfl⟩⟩; refine ⟨_, rfl, ?_⟩))
      refine bodyPost_ret (results_list (rs := [.tmp 2, .tmp 3, .tmp 4, .tmp 5, .tmp 6]) rfl (by simp) (.tmp (.tmp (.tmp (.tmp (.tmp .nil)))))) rfl ?_
      exact ⟨by first | rfl | (simp; done) | (simp [*]; done), by repeat (first | exact Drawn0.refl _ | apply Drawn0.step)⟩
    · rw [if_neg c7] at H
      have c7b0 : decide ((wrap64 ((wrap64 (a0 - (Int.tmod (wrap64 (t142 + 6)) 7))) + 3)) < t144) = false := decide_eq_false c7
      clear c7
      replace H := Option.bind_eq_some_iff.mp H
      obtain ⟨t147, A100, H⟩ := H
      replace H : (if (wrap64 ((wrap64 (a0 - (Int.tmod (wrap64 (t142 + 6)) 7))) + 3)) ≥ t147 then ((calendar_number.f (wrap64 (t138 + 1)) 0 1).bind fun t148 => ((calendar_weekday.f a0).bind fun t149 => (some (wrap64 (t138 + 1), wrap64 ((wrap64 (Int.tdiv (wrap64 ((wrap64 ((wrap64 (a0 - (Int.tmod (wrap64 (t142 + 6)) 7))) + 3)) - t148)) 7)) + 1), wrap64 (Int.tdiv (wrap64 ((wrap64 ((wrap64 (a0 - t143)) + 7)) - t149)) 7), wrap64 (Int.tdiv (wrap64 ((wrap64 ((wrap64 (a0 - t143)) + 7)) - (Int.tmod (wrap64 (t142 + 6)) 7))) 7), 0)))) else ((calendar_number.f t138 0 1).bind fun t150 => ((calendar_weekday.f a0).bind fun t151 => (some (t138, wrap64 ((wrap64 (Int.tdiv (wrap64 ((wrap64 ((wrap64 (a0 - (Int.tmod (wrap64 (t142 + 6)) 7))) + 3)) - t150)) 7)) + 1), wrap64 (Int.tdiv (wrap64 ((wrap64 ((wrap64 (a0 - t143)) + 7)) - t151)) 7), wrap64 (Int.tdiv (wrap64 ((wrap64 ((wrap64 (a0 - t143)) + 7)) - (Int.tmod (wrap64 (t142 + 6)) 7))) 7), 0))))) = some (r1, r2, r3, r4, r5) := H
      have A10 := Aside0.mk A100
      clear A100
      by_cases c11 : (wrap64 ((wrap64 (a0 - (Int.tmod (wrap64 (t142 + 6)) 7))) + 3)) ≥ t147
      · rw [if_pos c11] at H
        have c11b0 : decide (t147 ≤ (wrap64 ((wrap64 (a0 - (Int.tmod (wrap64 (t142 + 6)) 7))) + 3))) = true := decide_eq_true c11
        clear c11
        replace H := Option.bind_eq_some_iff.mp H
        obtain ⟨t148, A120, H⟩ := H
        replace H : ((calendar_weekday.f a0).bind fun t149 => (some (wrap64 (t138 + 1), wrap64 ((wrap64 (Int.tdiv (wrap64 ((wrap64 ((wrap64 (a0 - (Int.tmod (wrap64 (t142 + 6)) 7))) + 3)) - t148)) 7)) + 1), wrap64 (Int.tdiv (wrap64 ((wrap64 ((wrap64 (a0 - t143)) + 7)) - t149)) 7), wrap64 (Int.tdiv (wrap64 ((wrap64 ((wrap64 (a0 - t143)) + 7)) - (Int.tmod (wrap64 (t142 + 6)) 7))) 7), 0))) = some (r1, r2, r3, r4, r5) := H
        have A12 := Aside0.mk A120
        clear A120
        replace H := Option.bind_eq_some_iff.mp H
        obtain ⟨t149, A130, H⟩ := H
        replace H : (some (wrap64 (t138 + 1), wrap64 ((wrap64 (Int.tdiv (wrap64 ((wrap64 ((wrap64 (a0 - (Int.tmod (wrap64 (t142 + 6)) 7))) + 3)) - t148)) 7)) + 1), wrap64 (Int.tdiv (wrap64 ((wrap64 ((wrap64 (a0 - t143)) + 7)) - t149)) 7), wrap64 (Int.tdiv (wrap64 ((wrap64 ((wrap64 (a0 - t143)) + 7)) - (Int.tmod (wrap64 (t142 + 6)) 7))) 7), 0)) = some (r1, r2, r3, r4, r5) := H
        have A13 := Aside0.mk A130
        clear A130
        simp only [Option.some.injEq, Prod.mk.injEq] at H
        obtain ⟨rfl, rfl, rfl, rfl, rfl⟩ := H
        go_enter Try.func22, Try.ntmps22
        go_wp2_with (first | ((with_reducible refine gate_callee (f := 11) rfl ?_); refine goesL_ (some 17) rfl rfl Try.func11 (by kernel_rfl) rfl #[.int .i64 a0] rfl (by (try simp only [List.map_toArray, List.map_cons, List.map_nil]); first | done | rfl | (simp only [List.length_drop, List.length_take]; rfl)) ?_; (with_reducible refine (calendar_Date.calls k a0 t138 t139 t140 t141 _ A2.out).mono ?_); rintro e w' ⟨rfl, ⟨nd, rfl⟩⟩; refine ⟨_, rfl, ?_⟩) | ((with_reducible refine gate_callee (f := 34) rfl ?_); refine goesL_ (some 26) rfl rfl Try.func34 (by kernel_rfl) rfl #[.int .i64 a0] rfl (by (try simp only [List.map_toArray, List.map_cons, List.map_nil]); first | done | rfl | (simp only [List.length_drop, List.length_take]; rfl)) ?_; (with_reducible refine (calendar_weekday.calls a0 t142 _ A4.out).mono ?_); rintro e w' ⟨rfl, ⟨nd, rfl⟩⟩; refine ⟨_, rfl, ?_⟩) | ((with_reducible refine gate_callee (f := 25) rfl ?_); refine goesL_ (some 35) rfl rfl Try.func25 (by kernel_rfl) rfl #[.int .i64 t138, .int .i64 0, .int .i64 1] rfl (by (try simp only [List.map_toArray, List.map_cons, List.map_nil]); first | done | rfl | (simp only [List.length_drop, List.length_take]; rfl)) ?_; (with_reducible refine (calendar_number.calls t138 0 1 t143 _ A5.out).mono ?_); rintro e w' ⟨rfl, ⟨nd, rfl⟩⟩; refine ⟨_, rfl, ?_⟩) | ((with_reducible refine gate_callee (f := 25) rfl ?_); refine goesL_ (some 41) rfl rfl Try.func25 (by kernel_rfl) rfl #[.int .i64 t138, .int .i64 0, .int .i64 1] rfl (by (try simp only [List.map_toArray, List.map_cons, List.map_nil]); first | done | rfl | (simp only [List.length_drop, List.length_take]; rfl)) ?_; (with_reducible refine (calendar_number.calls t138 0 1 t144 _ A6.out).mono ?_); rintro e w' ⟨rfl, ⟨nd, rfl⟩⟩; refine ⟨_, rfl, ?_⟩) | ((with_reducible refine gate_callee (f := 25) rfl ?_); refine goesL_ (some 49) rfl rfl Try.func25 (by kernel_rfl) rfl #[.int .i64 (wrap64 (t138 + 1)), .int .i64 0, .int .i64 1] rfl (by (try simp only [List.map_toArray, List.map_cons, List.map_nil]); first | done | rfl | (simp only [List.length_drop, List.length_take]; rfl)) ?_; (with_reducible refine (calendar_number.calls (wrap64 (t138 + 1)) 0 1 t147 _ A10.out).mono ?_); rintro e w' ⟨rfl, ⟨nd, rfl⟩⟩; refine ⟨_, rfl, ?_⟩) | ((with_reducible refine gate_callee (f := 25) rfl ?_); refine goesL_ (some 56) rfl rfl Try.func25 (by kernel_rfl) rfl #[.int .i64 (wrap64 (t138 + 1)), .int .i64 0, .int .i64 1] rfl (by (try simp only [List.map_toArray, List.map_cons, List.map_nil]); first | done | rfl | (simp only [List.length_drop, List.length_take]; rfl)) ?_; (with_reducible refine (calendar_number.calls (wrap64 (t138 + 1)) 0 1 t148 _ A12.out).mono ?_); rintro e w' ⟨rfl, ⟨nd, rfl⟩⟩; refine ⟨_, rfl, ?_⟩) | ((with_reducible refine gate_callee (f := 34) rfl ?_); refine goesL_ (some 63) rfl rfl Try.func34 (by kernel_rfl) rfl #[.int .i64 a0] rfl (by (try simp only [List.map_toArray, List.map_cons, List.map_nil]); first | done | rfl | (simp only [List.length_drop, List.length_take]; rfl)) ?_; (with_reducible refine (calendar_weekday.calls a0 t149 _ A13.out).mono ?_); rintro e w' ⟨rfl, ⟨nd, rfl⟩⟩; refine ⟨_, rfl, ?_⟩))
        refine bodyPost_ret (results_list (rs := [.tmp 2, .tmp 3, .tmp 4, .tmp 5, .tmp 6]) rfl (by simp) (.tmp (.tmp (.tmp (.tmp (.tmp .nil)))))) rfl ?_
        exact ⟨by first | rfl | (simp; done) | (simp [*]; done), by repeat (first | exact Drawn0.refl _ | apply Drawn0.step)⟩
      · rw [if_neg c11] at H
        have c11b0 : decide (t147 ≤ (wrap64 ((wrap64 (a0 - (Int.tmod (wrap64 (t142 + 6)) 7))) + 3))) = false := decide_eq_false c11
        clear c11
        replace H := Option.bind_eq_some_iff.mp H
        obtain ⟨t150, A140, H⟩ := H
        replace H : ((calendar_weekday.f a0).bind fun t151 => (some (t138, wrap64 ((wrap64 (Int.tdiv (wrap64 ((wrap64 ((wrap64 (a0 - (Int.tmod (wrap64 (t142 + 6)) 7))) + 3)) - t150)) 7)) + 1), wrap64 (Int.tdiv (wrap64 ((wrap64 ((wrap64 (a0 - t143)) + 7)) - t151)) 7), wrap64 (Int.tdiv (wrap64 ((wrap64 ((wrap64 (a0 - t143)) + 7)) - (Int.tmod (wrap64 (t142 + 6)) 7))) 7), 0))) = some (r1, r2, r3, r4, r5) := H
        have A14 := Aside0.mk A140
        clear A140
        replace H := Option.bind_eq_some_iff.mp H
        obtain ⟨t151, A150, H⟩ := H
        replace H : (some (t138, wrap64 ((wrap64 (Int.tdiv (wrap64 ((wrap64 ((wrap64 (a0 - (Int.tmod (wrap64 (t142 + 6)) 7))) + 3)) - t150)) 7)) + 1), wrap64 (Int.tdiv (wrap64 ((wrap64 ((wrap64 (a0 - t143)) + 7)) - t151)) 7), wrap64 (Int.tdiv (wrap64 ((wrap64 ((wrap64 (a0 - t143)) + 7)) - (Int.tmod (wrap64 (t142 + 6)) 7))) 7), 0)) = some (r1, r2, r3, r4, r5) := H
        have A15 := Aside0.mk A150
        clear A150
        simp only [Option.some.injEq, Prod.mk.injEq] at H
        obtain ⟨rfl, rfl, rfl, rfl, rfl⟩ := H
        go_enter Try.func22, Try.ntmps22
        go_wp2_with (first | ((with_reducible refine gate_callee (f := 11) rfl ?_); refine goesL_ (some 17) rfl rfl Try.func11 (by kernel_rfl) rfl #[.int .i64 a0] rfl (by (try simp only [List.map_toArray, List.map_cons, List.map_nil]); first | done | rfl | (simp only [List.length_drop, List.length_take]; rfl)) ?_; (with_reducible refine (calendar_Date.calls k a0 t138 t139 t140 t141 _ A2.out).mono ?_); rintro e w' ⟨rfl, ⟨nd, rfl⟩⟩; refine ⟨_, rfl, ?_⟩) | ((with_reducible refine gate_callee (f := 34) rfl ?_); refine goesL_ (some 26) rfl rfl Try.func34 (by kernel_rfl) rfl #[.int .i64 a0] rfl (by (try simp only [List.map_toArray, List.map_cons, List.map_nil]); first | done | rfl | (simp only [List.length_drop, List.length_take]; rfl)) ?_; (with_reducible refine (calendar_weekday.calls a0 t142 _ A4.out).mono ?_); rintro e w' ⟨rfl, ⟨nd, rfl⟩⟩; refine ⟨_, rfl, ?_⟩) | ((with_reducible refine gate_callee (f := 25) rfl ?_); refine goesL_ (some 35) rfl rfl Try.func25 (by kernel_rfl) rfl #[.int .i64 t138, .int .i64 0, .int .i64 1] rfl (by (try simp only [List.map_toArray, List.map_cons, List.map_nil]); first | done | rfl | (simp only [List.length_drop, List.length_take]; rfl)) ?_; (with_reducible refine (calendar_number.calls t138 0 1 t143 _ A5.out).mono ?_); rintro e w' ⟨rfl, ⟨nd, rfl⟩⟩; refine ⟨_, rfl, ?_⟩) | ((with_reducible refine gate_callee (f := 25) rfl ?_); refine goesL_ (some 41) rfl rfl Try.func25 (by kernel_rfl) rfl #[.int .i64 t138, .int .i64 0, .int .i64 1] rfl (by (try simp only [List.map_toArray, List.map_cons, List.map_nil]); first | done | rfl | (simp only [List.length_drop, List.length_take]; rfl)) ?_; (with_reducible refine (calendar_number.calls t138 0 1 t144 _ A6.out).mono ?_); rintro e w' ⟨rfl, ⟨nd, rfl⟩⟩; refine ⟨_, rfl, ?_⟩) | ((with_reducible refine gate_callee (f := 25) rfl ?_); refine goesL_ (some 49) rfl rfl Try.func25 (by kernel_rfl) rfl #[.int .i64 (wrap64 (t138 + 1)), .int .i64 0, .int .i64 1] rfl (by (try simp only [List.map_toArray, List.map_cons, List.map_nil]); first | done | rfl | (simp only [List.length_drop, List.length_take]; rfl)) ?_; (with_reducible refine (calendar_number.calls (wrap64 (t138 + 1)) 0 1 t147 _ A10.out).mono ?_); rintro e w' ⟨rfl, ⟨nd, rfl⟩⟩; refine ⟨_, rfl, ?_⟩) | ((with_reducible refine gate_callee (f := 25) rfl ?_); refine goesL_ (some 56) rfl rfl Try.func25 (by kernel_rfl) rfl #[.int .i64 t138, .int .i64 0, .int .i64 1] rfl (by (try simp only [List.map_toArray, List.map_cons, List.map_nil]); first | done | rfl | (simp only [List.length_drop, List.length_take]; rfl)) ?_; (with_reducible refine (calendar_number.calls t138 0 1 t150 _ A14.out).mono ?_); rintro e w' ⟨rfl, ⟨nd, rfl⟩⟩; refine ⟨_, rfl, ?_⟩) | ((with_reducible refine gate_callee (f := 34) rfl ?_); refine goesL_ (some 63) rfl rfl Try.func34 (by kernel_rfl) rfl #[.int .i64 a0] rfl (by (try simp only [List.map_toArray, List.map_cons, List.map_nil]); first | done | rfl | (simp only [List.length_drop, List.length_take]; rfl)) ?_; (with_reducible refine (calendar_weekday.calls a0 t151 _ A15.out).mono ?_); rintro e w' ⟨rfl, ⟨nd, rfl⟩⟩; refine ⟨_, rfl, ?_⟩))
        refine bodyPost_ret (results_list (rs := [.tmp 2, .tmp 3, .tmp 4, .tmp 5, .tmp 6]) rfl (by simp) (.tmp (.tmp (.tmp (.tmp (.tmp .nil)))))) rfl ?_
        exact ⟨by first | rfl | (simp; done) | (simp [*]; done), by repeat (first | exact Drawn0.refl _ | apply Drawn0.step)⟩
  · rw [if_neg c3] at H
    have c3b0 : (t141 == 0) = false := beq_eq_false_iff_ne.mpr c3
    have c3b1 : (t141 != 0) = true := bne_iff_ne.mpr c3
    simp only [Option.some.injEq, Prod.mk.injEq] at H
    obtain ⟨rfl, rfl, rfl, rfl, rfl⟩ := H
    go_enter Try.func22, Try.ntmps22
    go_wp2_with (first | ((with_reducible refine gate_callee (f := 11) rfl ?_); refine goesL_ (some 17) rfl rfl Try.func11 (by kernel_rfl) rfl #[.int .i64 a0] rfl (by (try simp only [List.map_toArray, List.map_cons, List.map_nil]); first | done | rfl | (simp only [List.length_drop, List.length_take]; rfl)) ?_; (with_reducible refine (calendar_Date.calls k a0 t138 t139 t140 t141 _ A2.out).mono ?_); rintro e w' ⟨rfl, ⟨nd, rfl⟩⟩; refine ⟨_, rfl, ?_⟩))
    refine bodyPost_ret (results_list (rs := [.tmp 2, .tmp 3, .tmp 4, .tmp 5, .tmp 6]) rfl (by simp) (.tmp (.tmp (.tmp (.tmp (.tmp .nil)))))) rfl ?_
    exact ⟨by first | rfl | (simp; done) | (simp [*]; done), by repeat (first | exact Drawn0.refl _ | apply Drawn0.step)⟩

/-! ### math_NaN: function 31 -/
def math_NaN.f  : Option (Nat) := some 9221120237041090561
set_option maxHeartbeats 8000000 in
set_option maxRecDepth 100000 in
theorem math_NaN.calls  (r : Nat) (w : World) (h : math_NaN.f  = some r) :
    Calls Try.prog 31 #[] w fun e w' => e = .returned (.float .f64 r) ∧ Drawn0 w w' := by
  have hx39 : ∀ (x_ : Int) (w_ : World), (callFunc 39 #[.int .u64 x_]).run Try.prog w_ = .ok (.value (.float .f64 x_.toNat)) w_ := fun x_ w_ => run_ext_from Try.func39 rfl rfl rfl rfl x_ w_
  have H : (some 9221120237041090561) = some r := h
  clear h
  obtain rfl := Option.some.inj H
  go_enter Try.func31, Try.ntmps31
  go_wp2
  go_ret
  exact ⟨by first | rfl | (simp; done) | (simp [*]; done), by repeat (first | exact Drawn0.refl _ | apply Drawn0.step)⟩

end Go.Proofs.Ytomkhipfooafnaa.P
