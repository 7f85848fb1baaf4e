/- Texts of this claim, put together. -/
import Derived.Test.YtmpmbnmldmpmiaaGreatDoorSimA
import GoSem.PinnedTables
import Derived.Lib.Space
import Derived.Lib.ItoaNum
import Derived.Test.YtmpmbnmldmpmiaaGreatDoorProg
import Derived.Lib.LaidTab
import Derived.Shelf.Unicode.DecodeSlow
import Derived.WalkKit
namespace Go.Proofs.YtmpmbnmldmpmiaaGreatDoor.Sim
open Go Go.RowKit
def T : Nat → Option (List Value) := fun g =>
  bif Nat.beq g 2 then some (Pinned.utf8FirstZ.map (fun (n : Nat) => Value.int .u8 (n : Int))) else
  bif Nat.beq g 7 then some (Lib.pow10Tab.map (Value.int .u64 ·)) else
  bif Nat.beq g 4 then some [.bool true] else
  bif Nat.beq g 8 then some (Pinned.pow10Rows.flatMap fun x => [Value.int .u64 (x.1 : Int), Value.int .u64 (x.2 : Int)]) else none
end Go.Proofs.YtmpmbnmldmpmiaaGreatDoor.Sim
set_option linter.unusedVariables false
namespace Go.Proofs.YtmpmbnmldmpmiaaGreatDoor.A
open Go.RowKit Go.Proofs.YtmpmbnmldmpmiaaGreatDoor
/-- Go's tables that the walks of this seat read. -/
structure Tabs (w : World) : Prop where
  u8 : Lib.Utf8Tabs 2 3 w
  tb : Sim.Tab Sim.T w
end Go.Proofs.YtmpmbnmldmpmiaaGreatDoor.A
