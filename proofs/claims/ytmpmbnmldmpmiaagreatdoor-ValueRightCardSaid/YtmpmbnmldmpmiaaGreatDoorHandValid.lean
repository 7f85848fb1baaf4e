/- utf8.ValidString by the shelf's contract. -/
import Derived.Test.YtmpmbnmldmpmiaaGreatDoorHandTabs
import Derived.Test.YtmpmbnmldmpmiaaGreatDoorShelfA
import Derived.Lib.ValidU
set_option linter.unusedVariables false
namespace Go.Proofs.YtmpmbnmldmpmiaaGreatDoor.A
open Go.RowKit
def utf8_ValidString.f (s : ByteArray) : Option Bool := if s.size ≤ 9223372036854775807 then some (Lib.validD s.data.toList) else none
theorem utf8_ValidString.calls (s : ByteArray) (r : Bool) (w : World) (hT : Tabs w) (h : utf8_ValidString.f s = some r) :
    Calls Tryz.prog 123 #[.string s] w fun e w' => e = .returned (.bool r) ∧ Below w.heap.size w w' := by
  unfold utf8_ValidString.f at h
  by_cases hs : s.size ≤ 9223372036854775807
  · rw [if_pos hs] at h
    obtain rfl := Option.some.inj h
    exact Any.utf8_ValidString Tryz.lays196 s w hs hT.u8
  · rw [if_neg hs] at h
    exact absurd h (by simp)
end Go.Proofs.YtmpmbnmldmpmiaaGreatDoor.A
