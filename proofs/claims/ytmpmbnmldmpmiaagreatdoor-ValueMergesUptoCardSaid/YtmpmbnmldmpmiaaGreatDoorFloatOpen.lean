/- A float's cell, read as data: its bits fit. -/
import Derived.Test.YtmpmbnmldmpmiaaGreatDoorFloat
import Derived.ChangeArms
set_option linter.unusedVariables false
namespace Go.Proofs.YtmpmbnmldmpmiaaGreatDoorW.FM
open Go Go.ChangeShapes
theorem trod_float {H : Type} {enc : TypeId × Value → H} {P : Program} {w : World} {base : Nat} {spare : Nat → Bool} {held : Bool} {fuel : Nat} {t : TypeId} {cs : List Value} {x : DataW H × List MemPlace} {k : FloatKind}
    (ht : P.underlying t = some (.float k)) (h : DataW.trod enc P w base spare held fuel t cs = some x) : ∃ b, cs = [.float k b] ∧ (Lit.float k b).wf = true := by
  cases fuel with
  | zero => simp [DataW.trod] at h
  | succ n =>
    unfold DataW.trod at h
    rw [ht] at h
    split at h <;> simp_all
end Go.Proofs.YtmpmbnmldmpmiaaGreatDoorW.FM
