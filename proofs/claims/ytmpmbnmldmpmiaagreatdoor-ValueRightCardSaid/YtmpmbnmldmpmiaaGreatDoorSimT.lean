/- The tables of Go's library by number, as the evaluated calls read them. -/
import Derived.Test.YtmpmbnmldmpmiaaGreatDoorSimA
import GoSem.PinnedTables
import Derived.Lib.Space
import Derived.Lib.ItoaNum
namespace Go.Proofs.YtmpmbnmldmpmiaaGreatDoor.Sim
open Go Go.RowKit
def T : Nat → Option (List Value) := fun g =>
  bif Nat.beq g 2 then some (Pinned.utf8FirstZ.map (fun (n : Nat) => Value.int .u8 (n : Int))) else
  bif Nat.beq g 7 then some (Lib.pow10Tab.map (Value.int .u64 ·)) else
  bif Nat.beq g 4 then some [.bool true] else
  bif Nat.beq g 8 then some (Pinned.pow10Rows.flatMap fun x => [Value.int .u64 (x.1 : Int), Value.int .u64 (x.2 : Int)]) else none
theorem Tab_below {T : Nat → Option (List Value)} {w w' : World} (h : Tab T w) (hb : Below w.heap.size w w') : Tab T w' := by
  intro k cs hk
  obtain ⟨h1, e, fr, h2⟩ := h k cs hk
  exact ⟨Nat.lt_of_lt_of_le h1 hb.size, e, fr, (hb.block k h1).trans h2⟩
end Go.Proofs.YtmpmbnmldmpmiaaGreatDoor.Sim
