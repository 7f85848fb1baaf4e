/- The reference's place, Get, Str, strs. -/
import Derived.Test.YtmpmbnmldmpmiaaGreatDoorVal
import Derived.Test.YtmpmbnmldmpmiaaGreatDoorSimTy
set_option linter.unusedVariables false
set_option linter.unusedSimpArgs false
set_option maxRecDepth 100000
namespace Go.Proofs.YtmpmbnmldmpmiaaGreatDoor.Sim
open Go Go.RowKit Go.Proofs.YtmpmbnmldmpmiaaGreatDoor.A Go.Proofs.YtmpmbnmldmpmiaaGreatDoorW.PrintWords Go.Proofs.YtmpmbnmldmpmiaaGreatDoorW.PrintLast Go.Proofs.YtmpmbnmldmpmiaaGreatDoorW.PrintMore
/-- A key's place from place i on. -/
def posL (key : ByteArray) : List ByteArray → Nat → Int
  | [], _ => -1
  | x :: r, i => if (x.toList == key.toList) = true then (i : Int) else posL key r (i + 1)
theorem posL_range (key : ByteArray) : ∀ (l : List ByteArray) (i : Nat), posL key l i = -1 ∨ ∃ j : Nat, posL key l i = ((i + j : Nat) : Int) ∧ j < l.length
  | [], i => .inl rfl
  | x :: r, i => by
    unfold posL
    split
    · exact .inr ⟨0, rfl, by simp⟩
    · rcases posL_range key r (i + 1) with h | ⟨j, h, hj⟩
      · exact .inl h
      · exact .inr ⟨j + 1, by rw [h]; congr 1; omega, by simp; omega⟩
/-- An object's value at a key. -/
def getL (x : S27) (key : ByteArray) : S27 × Bool := if posL key x.f4 0 < 0 then (z27, false) else ((x.f3[(posL key x.f4 0).toNat]?).getD z27, true)
theorem Vr.z {v : World} : Vr v z27 (.agg #[.int .i64 0, .float .f64 0, .string ⟨#[]⟩, .slice none 0 0, .slice none 0 0]) := ⟨none, 0, none, 0, rfl, Rw.nil, Sw.nil⟩
end Go.Proofs.YtmpmbnmldmpmiaaGreatDoor.Sim
