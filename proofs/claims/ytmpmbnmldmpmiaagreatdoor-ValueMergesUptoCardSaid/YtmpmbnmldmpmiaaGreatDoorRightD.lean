/- Which values may be, as the reference says: in plain Lean. -/
import Derived.Test.YtmpmbnmldmpmiaaGreatDoorRightR
import Derived.Test.YtmpmbnmldmpmiaaGreatDoorA8
import Derived.Test.YtmpmbnmldmpmiaaGreatDoorVal
set_option linter.unusedVariables false
set_option linter.unusedSimpArgs false
namespace Go.Proofs.YtmpmbnmldmpmiaaGreatDoor.A
open Go.RowKit Go.Lib Go.Proofs.YtmpmbnmldmpmiaaGreatDoorW.PrintWords Go.Proofs.YtmpmbnmldmpmiaaGreatDoorW.PrintLast Go.Proofs.YtmpmbnmldmpmiaaGreatDoorW.PrintMore
/-- May a value be, with so many levels at most? -/
def rightV : Nat → S27 → Bool
  | 0, _ => false
  | d + 1, x => if x.f0 < 0 ∨ x.f0 > 6 then false else if x.f0 ≠ 3 ∧ x.f1 ≠ 0 then false else if x.f0 ≠ 4 ∧ x.f2.toList ≠ [] then false else if x.f0 < 5 ∧ 0 < x.f3.length then false else if (if x.f0 = 6 then x.f4.length = x.f3.length else x.f4.length = 0) then (if validD (kd_ x.f2) = true then (if apartB [] x.f4 = true then x.f3.all (rightV d) else false) else false) else false
theorem rightV_loop {d : Nat} (hd : (d : Int) + 1 ≤ 10000) {kd : Int} {nm : Nat} {s : ByteArray} {l : List S27} {ks : List ByteArray} (hl : l.length ≤ 140737488351232)
    (ih : ∀ y ∈ l, Ev (fun k => colanderref03_right.f k y.f0 y.f1 y.f2 y.f3 y.f4 (d : Int)) (rightV d y)) :
    ∀ (m i : Nat), m = l.length - i → i ≤ l.length → Ev (fun k => colanderref03_right.l0 k ((d : Int) + 1) (i : Int) kd nm s l ks) ((l.drop i).all (rightV d)) := by
  have hdw : wrap64 ((d : Int) + 1 - 1) = (d : Int) := by unfold wrap64; omega
  intro m
  induction m with
  | zero =>
    intro i hm hi
    rw [List.drop_eq_nil_of_le (by omega)]
    refine Ev.succ ?_
    simp only [colanderref03_right.l0]
    exact Ev.ite_neg (by omega) (Ev.now _)
  | succ m ihm =>
    intro i hm hi
    have hlt : i < l.length := by omega
    have e2 := ih _ (List.getElem_mem hlt)
    rw [List.drop_eq_getElem_cons hlt, List.all_cons]
    cases hr : rightV d l[i] with
    | false =>
      rw [hr] at e2
      refine Ev.succ ?_
      simp only [colanderref03_right.l0]
      refine Ev.ite_pos (by omega) (Ev.ite_pos (by omega) ?_)
      rw [rd_T27_at hlt, hdw]
      exact Ev.bind e2 (Ev.ite_neg (by simp) (Ev.now _))
    | true =>
      rw [hr] at e2
      refine Ev.succ ?_
      simp only [colanderref03_right.l0]
      refine Ev.ite_pos (by omega) (Ev.ite_pos (by omega) ?_)
      rw [rd_T27_at hlt, hdw, wrap_succ hlt hl]
      exact Ev.bind e2 (Ev.ite_pos rfl (ihm (i + 1) (by omega) (by omega)))
theorem rightV_ev {x : S27} (h : G27 x) : ∀ d : Nat, d ≤ 10000 → Ev (fun k => colanderref03_right.f k x.f0 x.f1 x.f2 x.f3 x.f4 (d : Int)) (rightV d x) := by
  induction h with
  | mk x h2 h3 h4 h5 h6 ih =>
  intro d hd1
  cases d with
  | zero =>
    refine Ev.succ ?_
    simp only [colanderref03_right.f]
    refine Ev.ite_pos (by omega) (Ev.succ ?_)
    simp only [colanderref03_right.j0]
    exact Ev.ite_pos trivial (Ev.now _)
  | succ d =>
  have e1 := rightV_loop (kd := x.f0) (nm := x.f1) (s := x.f2) (ks := x.f4) (d := d) (by omega) (show x.f3.length ≤ 140737488351232 by omega) (fun y hy => ih y hy d (by omega)) _ 0 rfl (Nat.zero_le _)
  rw [List.drop_zero] at e1
  have hr := fun b => r0_ev h2 h5 h4 e1 b
  have hr1 := hr (decide (x.f0 < 0 ∨ x.f0 > 6))
  simp only [decide_eq_true_eq] at hr1
  rw [rightV]
  refine Ev.succ ?_
  simp only [colanderref03_right.f]
  rw [show ((d + 1 : Nat) : Int) = (d : Int) + 1 by omega]
  refine Ev.ite_neg (by omega) ?_
  by_cases hk : x.f0 < 0
  · refine Ev.ite_pos hk ?_
    have := hr true
    rw [if_pos (.inl hk)] at hr1 ⊢
    simpa using this
  · refine Ev.ite_neg hk ?_
    rw [show decide (x.f0 > 6) = decide (x.f0 < 0 ∨ x.f0 > 6) by rw [Bool.eq_iff_iff]; simp; omega]
    exact hr1
end Go.Proofs.YtmpmbnmldmpmiaaGreatDoor.A
namespace Go.Proofs.YtmpmbnmldmpmiaaGreatDoor.Sim
open Go Go.RowKit Go.Proofs.YtmpmbnmldmpmiaaGreatDoor.A Go.Proofs.YtmpmbnmldmpmiaaGreatDoorW.PrintWords Go.Proofs.YtmpmbnmldmpmiaaGreatDoorW.PrintLast Go.Proofs.YtmpmbnmldmpmiaaGreatDoorW.PrintMore
theorem right_gv {v : World} {x : S27} {u : Value} (h : Vr v x u) (hg : G27 x) : Gv Tryz.prog 11 [u] v fun u' _ => u' = .bool (rightV 10000 x) := by
  obtain ⟨A3, c3, A4, c4, rfl, h3, h4⟩ := h
  obtain ⟨k, hk⟩ := rightV_ev hg 10000 (Nat.le_refl _)
  have hk : colanderref03_right.f k x.f0 x.f1 x.f2 x.f3 x.f4 ((10000 : Nat) : Int) = some (rightV 10000 x) := hk k (Nat.le_refl _)
  refine (Gv.of_calls Tryz.func11 (by kernel_rfl) rfl fun w hw => ?_).mono fun u v' h _ => h.1
  exact colanderref03_Right.calls k x.f0 x.f1 x.f2 A3 c3 x.f3 A4 c4 x.f4 _ w (h3.up hw).1 h3.2 (h4.up hw).1 h4.2 (by unfold colanderref03_Right.f; rw [show (10000 : Int) = ((10000 : Nat) : Int) from rfl, hk]; rfl)
end Go.Proofs.YtmpmbnmldmpmiaaGreatDoor.Sim
