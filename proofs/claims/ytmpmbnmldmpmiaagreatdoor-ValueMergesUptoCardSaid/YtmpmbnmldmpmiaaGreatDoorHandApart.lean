/- value.apart by hand: a map of strings as a set: the keys are valid and unlike each other. -/
import Derived.Test.YtmpmbnmldmpmiaaGreatDoorShort
import Derived.Test.YtmpmbnmldmpmiaaGreatDoorSimT
import Derived.Test.YtmpmbnmldmpmiaaGreatDoorA25
import Derived.Maps.OwnSet
import Derived.Maps.Views
import Derived.StringKeys
set_option linter.unusedVariables false
namespace Go.Proofs.YtmpmbnmldmpmiaaGreatDoor.A
open Go.RowKit Go.Maps Go.Proofs.YtmpmbnmldmpmiaaGreatDoorW.PrintWords Go.Proofs.YtmpmbnmldmpmiaaGreatDoorW.PrintLast Go.Proofs.YtmpmbnmldmpmiaaGreatDoorW.PrintMore Go.Proofs.YtmpmbnmldmpmiaaGreatDoorW.Short
/-- Each of the keys is valid, and none of those that were seen, nor of those ahead of it. -/
def apartB : List (List UInt8) → List ByteArray → Bool
  | _, [] => true
  | seen, x :: r => Lib.validD x.data.toList && (!seen.contains x.data.toList && apartB (x.data.toList :: seen) r)
end Go.Proofs.YtmpmbnmldmpmiaaGreatDoor.A
