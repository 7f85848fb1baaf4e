/- The length of a month: function Length by hand, since it reads an array. -/
import Derived.Test.YtomkhipfooafnaaP2
import Derived.Laws.IdiomArrays
import Derived.WalkSmall
namespace Go.Proofs.Ytomkhipfooafnaa.P
open Go.RowKit Go.Proofs.YtomkhipfooafnaaW.PrintWords Go.Proofs.YtomkhipfooafnaaW.PrintLast Go.Proofs.YtomkhipfooafnaaW.PrintMore
def monthLen (leap : Bool) (m : Int) : Int :=
  if m = 1 then (if leap then 29 else 28) else if m = 3 then 30 else if m = 5 then 30 else if m = 8 then 30 else if m = 10 then 30 else 31
def calendar_Length.f (a0 : Int) (a1 : Int) : Option Int :=
  if a1 < 0 then some 0 else if a1 > 11 then some 0 else (calendar_Leap.f a0).bind fun l => some (monthLen l a1)
set_option maxHeartbeats 4000000 in
set_option maxRecDepth 100000 in
theorem calendar_Length.calls (a0 : Int) (a1 : Int) (r : Int) (w : World) (h : calendar_Length.f a0 a1 = some r) :
    Calls Try.prog 15 #[.int .i64 a0, .int .i64 a1] w fun e w' => e = .returned (.int .i64 r) ∧ Below w.heap.size w w' := by
  unfold calendar_Length.f at h
  by_cases c1 : a1 < 0
  · rw [if_pos c1] at h
    obtain rfl := Option.some.inj h
    go_enter Try.func15, Try.ntmps15
    go_wp2
    go_ret
    exact ⟨rfl, by first | exact Below.refl _ _ | exact (Below.refl _ _).alloc (Nat.le_refl _) _ ⟩
  rw [if_neg c1] at h
  by_cases c2 : a1 > 11
  · rw [if_pos c2] at h
    obtain rfl := Option.some.inj h
    go_enter Try.func15, Try.ntmps15
    go_wp2
    go_ret
    exact ⟨rfl, by first | exact Below.refl _ _ | exact (Below.refl _ _).alloc (Nat.le_refl _) _ ⟩
  rw [if_neg c2] at h
  replace h := Option.bind_eq_some_iff.mp h
  obtain ⟨l, hl, h⟩ := h
  obtain rfl := Option.some.inj h
  clear h
  have A := Aside0.mk hl
  clear hl
  have hcase : a1 = 0 ∨ a1 = 1 ∨ a1 = 2 ∨ a1 = 3 ∨ a1 = 4 ∨ a1 = 5 ∨ a1 = 6 ∨ a1 = 7 ∨ a1 = 8 ∨ a1 = 9 ∨ a1 = 10 ∨ a1 = 11 := by omega
  rcases hcase with rfl | rfl | rfl | rfl | rfl | rfl | rfl | rfl | rfl | rfl | rfl | rfl
  case inr.inl =>
    clear c1 c2
    cases l
    · go_enter Try.func15, Try.ntmps15
      go_wp2_with (first | (go_at_call 13; refine (calendar_Leap.calls a0 false _ A.out).mono ?_; rintro e w1 ⟨rfl, hd⟩; have HD := Aside0.mk hd; clear hd))
      go_ret
      exact ⟨rfl, HD.out.below.alloc HD.out.below.size _⟩
    · go_enter Try.func15, Try.ntmps15
      go_wp2_with (first | (go_at_call 13; refine (calendar_Leap.calls a0 true _ A.out).mono ?_; rintro e w' ⟨rfl, ⟨nd, rfl⟩⟩))
      go_ret
      exact ⟨rfl, by first | exact Below.refl _ _ | exact below_drewN (Below.refl _ _) _⟩
  all_goals
    clear c1 c2
    go_enter Try.func15, Try.ntmps15
    go_wp2
    go_ret
    exact ⟨rfl, by first | exact Below.refl _ _ | exact (Below.refl _ _).alloc (Nat.le_refl _) _ ⟩
end Go.Proofs.Ytomkhipfooafnaa.P
