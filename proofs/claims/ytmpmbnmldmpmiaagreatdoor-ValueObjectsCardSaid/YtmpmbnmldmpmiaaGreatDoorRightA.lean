/- ValueRight in plain Lean, first part: values that are small enough; Copy answers the same value; both say alike what is too large. -/
import Derived.Test.YtmpmbnmldmpmiaaGreatDoorHandLarge
import Derived.Test.YtmpmbnmldmpmiaaGreatDoorA28
set_option linter.unusedVariables false
set_option linter.unusedSimpArgs false
namespace Go.Proofs.YtmpmbnmldmpmiaaGreatDoor.A
open Go.RowKit Go.Proofs.YtmpmbnmldmpmiaaGreatDoorW.PrintWords Go.Proofs.YtmpmbnmldmpmiaaGreatDoorW.PrintLast Go.Proofs.YtmpmbnmldmpmiaaGreatDoorW.PrintMore
theorem Ev.succ {α : Type} {g : Nat → Option α} {r : α} (h : Ev (fun k => g (k + 1)) r) : Ev g r := Ev.step (f := fun k => g (k + 1)) (fun _ => rfl) h
theorem Ev.ite_pos {α : Type} {c : Prop} [Decidable c] {f g : Nat → Option α} {r : α} (hc : c) (h : Ev f r) : Ev (fun n => if c then f n else g n) r := by
  simp only [if_pos hc]
  exact h
theorem Ev.ite_neg {α : Type} {c : Prop} [Decidable c] {f g : Nat → Option α} {r : α} (hc : ¬c) (h : Ev g r) : Ev (fun n => if c then f n else g n) r := by
  simp only [if_neg hc]
  exact h
/-- A value that is in memory. -/
inductive G27 : S27 → Prop where
  | mk (x : S27) : x.f2.size ≤ 140737488351232 → x.f3.length ≤ 1759218604390 → x.f4.length ≤ 8796093021952 → (∀ k ∈ x.f4, k.size ≤ 140737488351232) → (∀ y ∈ x.f3, G27 y) → G27 x
theorem S27_eta (x : S27) : (⟨x.f0, x.f1, x.f2, x.f3, x.f4⟩ : S27) = x := by cases x; rfl
theorem rd_T27_at {l : List S27} {i : Nat} (h : i < l.length) : rd_T27 l (i : Int) = l[i] := by
  unfold rd_T27
  simp [List.getD_eq_getElem?_getD, h]
theorem wrap_succ {i n : Nat} (h : i < n) (hn : n ≤ 140737488351232) : wrap64 ((i : Int) + 1) = ((i + 1 : Nat) : Int) := by
  unfold wrap64
  omega
theorem copy_ev {x : S27} (h : G27 x) : Ev (fun k => colanderref03_Copy.f k x.f0 x.f1 x.f2 x.f3 x.f4) (x.f0, x.f1, x.f2, x.f3, x.f4) := by
  induction h with
  | mk x h2 h3 h4 h5 h6 ih =>
  refine Ev.succ ?_
  simp only [colanderref03_Copy.f, Option.bind_some, List.nil_append, List.length_nil, Nat.zero_add]
  refine Ev.ite_pos (by omega) ?_
  have key : ∀ (m i : Nat), m = x.f3.length - i → i ≤ x.f3.length → Ev (fun k => colanderref03_Copy.l0 k (i : Int) x.f0 x.f1 x.f2 x.f3 x.f4 x.f0 x.f1 x.f2 (x.f3.take i) x.f4) (x.f0, x.f1, x.f2, x.f3, x.f4) := by
    intro m
    induction m with
    | zero =>
      intro i hm hi
      obtain rfl : i = x.f3.length := by omega
      refine Ev.succ ?_
      simp only [colanderref03_Copy.l0]
      refine Ev.ite_neg (by omega) ?_
      rw [List.take_length]
      exact Ev.now _
    | succ m ihm =>
      intro i hm hi
      have hlt : i < x.f3.length := by omega
      refine Ev.succ ?_
      simp only [colanderref03_Copy.l0]
      refine Ev.ite_pos (by omega) (Ev.ite_pos (by omega) ?_)
      rw [rd_T27_at hlt]
      refine Ev.bind (ih _ (List.getElem_mem hlt)) ?_
      refine Ev.ite_pos (by rw [List.length_take]; omega) ?_
      have := ihm (i + 1) (by omega) (by omega)
      rw [wrap_succ hlt (by omega)]
      rw [List.take_succ_eq_append_getElem hlt] at this
      simp only [S27_eta]
      exact this
  exact key _ 0 rfl (Nat.zero_le _)
end Go.Proofs.YtmpmbnmldmpmiaaGreatDoor.A
