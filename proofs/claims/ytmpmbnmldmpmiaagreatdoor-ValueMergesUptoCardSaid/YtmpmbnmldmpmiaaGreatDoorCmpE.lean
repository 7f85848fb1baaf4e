/- Equal and Name of both: contracts. -/
import Derived.Test.YtmpmbnmldmpmiaaGreatDoorOrdP
import Derived.Test.YtmpmbnmldmpmiaaGreatDoorSimT
set_option linter.unusedVariables false
set_option linter.unusedSimpArgs false
set_option maxRecDepth 100000
namespace Go.Proofs.YtmpmbnmldmpmiaaGreatDoor.Sim
open Go Go.RowKit Go.Proofs.YtmpmbnmldmpmiaaGreatDoor.A Go.Proofs.YtmpmbnmldmpmiaaGreatDoorW.PrintWords Go.Proofs.YtmpmbnmldmpmiaaGreatDoorW.PrintLast Go.Proofs.YtmpmbnmldmpmiaaGreatDoorW.PrintMore
end Go.Proofs.YtmpmbnmldmpmiaaGreatDoor.Sim
