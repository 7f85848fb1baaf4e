/- Printed by this session's own copy of the printer (wip/tools/mkprint.py): functions, and that the Go code answers as they do. -/
import Derived.Test.YtomkhipfooafnaaP0
namespace Go.Proofs.Ytomkhipfooafnaa.P
open Go.RowKit Go.Proofs.YtomkhipfooafnaaW.PrintWords Go.Proofs.YtomkhipfooafnaaW.PrintLast Go.Proofs.YtomkhipfooafnaaW.PrintMore
attribute [local go_sem] max2_int min2_int max_two min_two max_three min_three max_four min_four   -- for this text's walks alone
set_option linter.unusedVariables false
set_option linter.unusedSimpArgs false

/-! ### math_Abs: function 33 -/
def math_Abs.f (a0 : Nat) : Option (Nat) := some ((Go.bits .andNot .u64 (a0 : Int) 9223372036854775808).toNat)
set_option maxHeartbeats 8000000 in
set_option maxRecDepth 100000 in
theorem math_Abs.calls (a0 : Nat) (r : Nat) (w : World) (h : math_Abs.f a0 = some r) :
    Calls Try.prog 33 #[.float .f64 a0] w fun e w' => e = .returned (.float .f64 r) ∧ Drawn0 w w' := by
  have hx39 : ∀ (x_ : Int) (w_ : World), (callFunc 39 #[.int .u64 x_]).run Try.prog w_ = .ok (.value (.float .f64 x_.toNat)) w_ := fun x_ w_ => run_ext_from Try.func39 rfl rfl rfl rfl x_ w_
  have hx40 : ∀ (x_ : Nat) (w_ : World), (callFunc 40 #[.float .f64 x_]).run Try.prog w_ = .ok (.value (.int .u64 x_)) w_ := fun x_ w_ => run_ext_bits Try.func40 rfl rfl rfl rfl x_ w_
  have H : (some ((Go.bits .andNot .u64 (a0 : Int) 9223372036854775808).toNat)) = some r := h
  clear h
  obtain rfl := Option.some.inj H
  go_enter Try.func33, Try.ntmps33
  go_wp2
  go_ret
  exact ⟨by first | rfl | (simp; done) | (simp [*]; done), by repeat (first | exact Drawn0.refl _ | apply Drawn0.step)⟩

-- NOT PRINTED: function 41 (math_IsInf)

end Go.Proofs.Ytomkhipfooafnaa.P
