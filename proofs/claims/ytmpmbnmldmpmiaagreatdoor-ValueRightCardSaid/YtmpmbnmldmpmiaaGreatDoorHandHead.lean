/- heads() of the chapter: a closed call, by its evaluation. -/
import Derived.Test.YtmpmbnmldmpmiaaGreatDoorHandEval
import Derived.Test.YtmpmbnmldmpmiaaGreatDoorHandTabs
set_option maxRecDepth 100000
namespace Go.Proofs.YtmpmbnmldmpmiaaGreatDoor.Sim
open Go Go.RowKit
theorem isTrue_rel {ν : Val} {v : V} {u : Value} (h : isTrue v = true) (hr : V.rel ν v u) : u = .bool true := by
  cases v with
  | s x =>
    cases x with
    | bool b =>
      simp only [isTrue] at h
      subst h
      simpa [V.rel] using hr
    | _ => cases h
  | _ => cases h
theorem head_calls {w : World} (hT : Tab T w) : Calls Tryz.prog 12 #[] w fun e w' => e = .returned (.bool true) ∧ Below w.heap.size w w' := by
  have h := head_eval
  cases hx : callX Tryz.prog T env (drawX Tryz.prog T) 100000 1000 12 [] ⟨[], 0, 0⟩ with
  | none => rw [hx] at h; cases h
  | some x =>
    rw [hx] at h
    obtain ⟨v, S'⟩ := x
    simp only [Option.map_some, Option.some.injEq] at h
    refine (callX_calls Tryz.prog T env (by kernel_rfl) hT _ _ hx (us := []) (by simp [V.rels]) (by rw [Tryz.func12]; rfl)).mono ?_
    rintro e w' ⟨u, ν, rfl, hr, hb⟩
    exact ⟨by rw [isTrue_rel h hr], hb⟩
end Go.Proofs.YtmpmbnmldmpmiaaGreatDoor.Sim
namespace Go.Proofs.YtmpmbnmldmpmiaaGreatDoor.A
open Go Go.RowKit
def colanderlaw03_heads.f : Option Bool := some true
theorem colanderlaw03_heads.calls (r : Bool) (w : World) (hT : Tabs w) (h : colanderlaw03_heads.f = some r) : Calls Tryz.prog 12 #[] w fun e w' => e = .returned (.bool r) ∧ Below w.heap.size w w' := by
  cases h
  exact Sim.head_calls hT.tb
end Go.Proofs.YtmpmbnmldmpmiaaGreatDoor.A
