/- utf8.ValidString by the shelf's contract. -/
import Derived.Test.YtmpmbnmldmpmiaaGreatDoorSimT
import Derived.Test.YtmpmbnmldmpmiaaGreatDoorShelfA
import Derived.Lib.ValidU
set_option linter.unusedVariables false
namespace Go.Proofs.YtmpmbnmldmpmiaaGreatDoor.A
open Go.RowKit
end Go.Proofs.YtmpmbnmldmpmiaaGreatDoor.A
