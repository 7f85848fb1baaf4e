/- ValueRight in plain Lean, first part: values that are small enough; Copy answers the same value; both say alike what is too large. -/
import Derived.Test.YtmpmbnmldmpmiaaGreatDoorHandLarge
import Derived.Test.YtmpmbnmldmpmiaaGreatDoorA28
set_option linter.unusedVariables false
set_option linter.unusedSimpArgs false
namespace Go.Proofs.YtmpmbnmldmpmiaaGreatDoor.A
open Go.RowKit Go.Proofs.YtmpmbnmldmpmiaaGreatDoorW.PrintWords Go.Proofs.YtmpmbnmldmpmiaaGreatDoorW.PrintLast Go.Proofs.YtmpmbnmldmpmiaaGreatDoorW.PrintMore
theorem Ev.succ {α : Type} {g : Nat → Option α} {r : α} (h : Ev (fun k => g (k + 1)) r) : Ev g r := Ev.step (f := fun k => g (k + 1)) (fun _ => rfl) h
theorem Ev.ite_pos {α : Type} {c : Prop} [Decidable c] {f g : Nat → Option α} {r : α} (hc : c) (h : Ev f r) : Ev (fun n => if c then f n else g n) r := by
  simp only [if_pos hc]
  exact h
theorem Ev.ite_neg {α : Type} {c : Prop} [Decidable c] {f g : Nat → Option α} {r : α} (hc : ¬c) (h : Ev g r) : Ev (fun n => if c then f n else g n) r := by
  simp only [if_neg hc]
  exact h
/-- A value that is in memory. -/
inductive G27 : S27 → Prop where
  | mk (x : S27) : x.f2.size ≤ 140737488351232 → x.f3.length ≤ 1759218604390 → x.f4.length ≤ 8796093021952 → (∀ k ∈ x.f4, k.size ≤ 140737488351232) → (∀ y ∈ x.f3, G27 y) → G27 x
theorem rd_T27_at {l : List S27} {i : Nat} (h : i < l.length) : rd_T27 l (i : Int) = l[i] := by
  unfold rd_T27
  simp [List.getD_eq_getElem?_getD, h]
theorem wrap_succ {i n : Nat} (h : i < n) (hn : n ≤ 140737488351232) : wrap64 ((i : Int) + 1) = ((i + 1 : Nat) : Int) := by
  unfold wrap64
  omega
end Go.Proofs.YtmpmbnmldmpmiaaGreatDoor.A
