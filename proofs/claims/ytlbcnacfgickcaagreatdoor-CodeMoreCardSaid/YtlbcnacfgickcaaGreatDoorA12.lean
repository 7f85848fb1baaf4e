/- code.may: its walk, put together. -/
import Derived.Test.YtlbcnacfgickcaaGreatDoorShort
import Derived.Test.YtlbcnacfgickcaaGreatDoorA12c
import Derived.Test.YtlbcnacfgickcaaGreatDoorA12d
namespace Go.Proofs.YtlbcnacfgickcaaGreatDoor.A
open Go.RowKit Go.Proofs.YtlbcnacfgickcaaGreatDoorW.PrintWords Go.Proofs.YtlbcnacfgickcaaGreatDoorW.PrintLast Go.Proofs.YtlbcnacfgickcaaGreatDoorW.PrintMore Go.Proofs.YtlbcnacfgickcaaGreatDoorW.Short
attribute [local go_sem] max2_int min2_int max_two min_two max_three min_three max_four min_four
set_option linter.unusedVariables false
set_option linter.unusedSimpArgs false
theorem mY.calls (k : Nat) (A0_0 : Option Addr) (c0_0 : Nat) (lA : List (S30)) (A0_1 : Option Addr) (c0_1 : Nat) (lB : List (S36)) (a1 : Int) (a2 : Int) (r : Bool) (w : World) (hr0_0 : Kd.C k30 w A0_0 lA.length lA) (hc0_0 : lA.length ≤ c0_0) (hr0_1 : Kd.C k36 w A0_1 lB.length lB) (hc0_1 : lB.length ≤ c0_1) (hT : Tabs w) (h : mY.f k lA lB a1 a2 = some r) :
  Calls Tryz.prog 22 #[.agg #[.slice A0_0 lA.length c0_0, .slice A0_1 lB.length c0_1], .int .i64 a1, .int .i64 a2] w fun e w' => e = .returned (.bool r) ∧ Below w.heap.size w w' :=
  mY.parts.2.2 mY.first mY.rest k A0_0 c0_0 lA A0_1 c0_1 lB a1 a2 r w hr0_0 hc0_0 hr0_1 hc0_1 hT h
end Go.Proofs.YtlbcnacfgickcaaGreatDoor.A
