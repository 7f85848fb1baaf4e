/- The reference's place, Get, Str, strs. -/
import Derived.Test.YtmpmbnmldmpmiaaGreatDoorVal
import Derived.Test.YtmpmbnmldmpmiaaGreatDoorSimTy
set_option linter.unusedVariables false
set_option linter.unusedSimpArgs false
set_option maxRecDepth 100000
namespace Go.Proofs.YtmpmbnmldmpmiaaGreatDoor.Sim
open Go Go.RowKit Go.Proofs.YtmpmbnmldmpmiaaGreatDoor.A Go.Proofs.YtmpmbnmldmpmiaaGreatDoorW.PrintWords Go.Proofs.YtmpmbnmldmpmiaaGreatDoorW.PrintLast Go.Proofs.YtmpmbnmldmpmiaaGreatDoorW.PrintMore
/-- A key's place from place i on. -/
def posL (key : ByteArray) : List ByteArray → Nat → Int
  | [], _ => -1
  | x :: r, i => if (x.toList == key.toList) = true then (i : Int) else posL key r (i + 1)
/-- An object's value at a key. -/
def getL (x : S27) (key : ByteArray) : S27 × Bool := if posL key x.f4 0 < 0 then (z27, false) else ((x.f3[(posL key x.f4 0).toNat]?).getD z27, true)
def strV (s : ByteArray) : S27 := ⟨4, 0, s, [], []⟩
end Go.Proofs.YtmpmbnmldmpmiaaGreatDoor.Sim
