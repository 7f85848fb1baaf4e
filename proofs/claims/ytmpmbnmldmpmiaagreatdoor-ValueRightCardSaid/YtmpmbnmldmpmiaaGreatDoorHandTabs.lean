/- What Go's own tables hold when a call begins, and that a call that lays memory alone keeps them. -/
import Derived.Test.YtmpmbnmldmpmiaaGreatDoorProg
import Derived.Lib.LaidTab
import Derived.Lib.Space
import Derived.Lib.ItoaNum
import Derived.Test.YtmpmbnmldmpmiaaGreatDoorSimT
import Derived.Shelf.Unicode.DecodeSlow
import Derived.WalkKit
set_option linter.unusedVariables false
namespace Go.Proofs.YtmpmbnmldmpmiaaGreatDoor.A
open Go.RowKit Go.Proofs.YtmpmbnmldmpmiaaGreatDoor
/-- Go's tables that the walks of this seat read. -/
structure Tabs (w : World) : Prop where
  u8 : Lib.Utf8Tabs 2 3 w
  tb : Sim.Tab Sim.T w
theorem tabs_below {w w' : World} (h : Tabs w) (hb : Below w.heap.size w w') : Tabs w' :=
  ⟨Utf8Tabs_below h.u8 hb, Sim.Tab_below h.tb hb⟩
end Go.Proofs.YtmpmbnmldmpmiaaGreatDoor.A
