/- Texts of this claim, put together. -/
import Derived.Test.YtmpmbnmldmpmiaaGreatDoorFloat
set_option linter.unusedVariables false
set_option exponentiation.threshold 3000
namespace Go.Proofs.YtmpmbnmldmpmiaaGreatDoorW.FM
open Go.RowKit Go.Proofs.YtmpmbnmldmpmiaaGreatDoorW.PrintWords Ieee
end Go.Proofs.YtmpmbnmldmpmiaaGreatDoorW.FM
set_option linter.unusedVariables false
set_option exponentiation.threshold 3000
namespace Go.Proofs.YtmpmbnmldmpmiaaGreatDoorW.FM
open Go.RowKit Go.Proofs.YtmpmbnmldmpmiaaGreatDoorW.PrintWords Ieee
end Go.Proofs.YtmpmbnmldmpmiaaGreatDoorW.FM
