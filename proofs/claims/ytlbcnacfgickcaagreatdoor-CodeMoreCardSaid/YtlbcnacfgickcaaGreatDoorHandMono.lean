/- More fuel changes no answer of code.heights. -/
import Derived.Test.YtlbcnacfgickcaaGreatDoorShort
import Derived.Test.YtlbcnacfgickcaaGreatDoorHandHeights
namespace Go.Proofs.YtlbcnacfgickcaaGreatDoor.A
open Go.RowKit Go.Proofs.YtlbcnacfgickcaaGreatDoorW.PrintWords Go.Proofs.YtlbcnacfgickcaaGreatDoorW.PrintLast Go.Proofs.YtlbcnacfgickcaaGreatDoorW.PrintMore
end Go.Proofs.YtlbcnacfgickcaaGreatDoor.A
