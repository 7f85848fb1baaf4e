/- The code with one pop more behind its first function: plain Lean. -/
import Derived.Test.YtlbcnacfgickcaaGreatDoorWide
import Derived.Test.YtlbcnacfgickcaaGreatDoorCond2
import Derived.Test.YtlbcnacfgickcaaGreatDoorHighMore
set_option linter.unusedVariables false
set_option linter.unusedSimpArgs false
namespace Go.Proofs.YtlbcnacfgickcaaGreatDoor.A
open Go.RowKit Go.Proofs.YtlbcnacfgickcaaGreatDoorW.PrintWords Go.Proofs.YtlbcnacfgickcaaGreatDoorW.PrintLast Go.Proofs.YtlbcnacfgickcaaGreatDoorW.PrintMore
theorem plainF_wide {l0 l0' : List S30} {l1 l1' : List S36} (H : Wide l0 l0' l1 l1') (i n : Int) : plainF l0' i n = plainF l0 i n := by
  unfold plainF
  simp only [H.len, H.f1]
end Go.Proofs.YtlbcnacfgickcaaGreatDoor.A
