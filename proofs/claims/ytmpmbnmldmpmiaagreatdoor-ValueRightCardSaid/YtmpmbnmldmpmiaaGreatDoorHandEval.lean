/- heads() of the chapter, evaluated by the machine over closed values. -/
import Derived.Test.YtmpmbnmldmpmiaaGreatDoorSimEnv
import Derived.Test.YtmpmbnmldmpmiaaGreatDoorSimT
set_option maxRecDepth 100000
namespace Go.Proofs.YtmpmbnmldmpmiaaGreatDoor.Sim
open Go Go.RowKit
def isTrue : V → Bool
  | .s (.bool b) => b
  | _ => false
theorem head_eval : ((callX Tryz.prog T env (drawX Tryz.prog T) 100000 1000 12 [] ⟨[], 0, 0⟩).map fun x => isTrue x.1) = some true := by decide +kernel
end Go.Proofs.YtmpmbnmldmpmiaaGreatDoor.Sim
