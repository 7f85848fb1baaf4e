/- What Go's own tables hold when a call begins, and that a call that lays memory alone keeps them. -/
import Derived.Test.YtlbcnacfgickcaaGreatDoorProg
import Derived.Lib.LaidTab
import Derived.Lib.Space
import Derived.Lib.ItoaNum
import Derived.Test.YtlbcnacfgickcaaGreatDoorSimT
import Derived.Shelf.Unicode.DecodeSlow
import Derived.WalkKit
set_option linter.unusedVariables false
namespace Go.Proofs.YtlbcnacfgickcaaGreatDoor.A
open Go.RowKit Go.Proofs.YtlbcnacfgickcaaGreatDoor
structure Tabs (w : World) : Prop where
  u8 : Lib.Utf8Tabs 3 4 w
  sp : Lib.TabIs Tryz.prog w "strings.asciiSpace" .u8 Lib.asciiSpaceTab
  tb : Sim.Tab Sim.T w
theorem tab_below {n : String} {g : Nat} {k : IntKind} {zs : List Int} {w w' : World} (hg : Tryz.prog.globalNamed n = some g) (h : Lib.TabIs Tryz.prog w n k zs) (hb : Below w.heap.size w w') : Lib.TabIs Tryz.prog w' n k zs := by
  unfold Lib.TabIs World.var? at *
  rw [hg] at h ⊢
  simp only [Option.bind_some] at h ⊢
  have hlt : g < w.heap.size := by
    rcases Nat.lt_or_ge g w.heap.size with h' | h'
    · exact h'
    · rw [Array.getElem?_eq_none h'] at h
      simp at h
  rw [hb.block g hlt]
  exact h
theorem tabs_below {w w' : World} (h : Tabs w) (hb : Below w.heap.size w w') : Tabs w' :=
  ⟨Utf8Tabs_below h.u8 hb, tab_below (g := 0) (by kernel_rfl) h.sp hb, Sim.Tab_below h.tb hb⟩
end Go.Proofs.YtlbcnacfgickcaaGreatDoor.A
