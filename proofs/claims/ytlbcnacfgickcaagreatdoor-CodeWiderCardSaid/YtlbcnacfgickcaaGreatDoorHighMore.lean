/- The heights of a code with one instruction more that no way leads to: plain Lean. -/
import Derived.Test.YtlbcnacfgickcaaGreatDoorHigh
set_option linter.unusedVariables false
set_option linter.unusedSimpArgs false
namespace Go.Proofs.YtlbcnacfgickcaaGreatDoor.A
open Go.RowKit Go.Proofs.YtlbcnacfgickcaaGreatDoorW.PrintWords Go.Proofs.YtlbcnacfgickcaaGreatDoorW.PrintLast Go.Proofs.YtlbcnacfgickcaaGreatDoorW.PrintMore
end Go.Proofs.YtlbcnacfgickcaaGreatDoor.A
