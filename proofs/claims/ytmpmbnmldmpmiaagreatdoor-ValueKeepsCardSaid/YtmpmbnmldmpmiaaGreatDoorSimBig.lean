/- The rewriting step, for long rows. -/
import Derived.Test.YtmpmbnmldmpmiaaGreatDoorSimTy
set_option linter.unusedVariables false
set_option linter.unusedSimpArgs false
set_option maxRecDepth 100000
namespace Go.Proofs.YtmpmbnmldmpmiaaGreatDoor.Sim
open Go Go.RowKit
end Go.Proofs.YtmpmbnmldmpmiaaGreatDoor.Sim
