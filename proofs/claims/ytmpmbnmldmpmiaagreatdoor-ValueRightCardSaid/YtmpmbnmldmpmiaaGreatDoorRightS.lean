/- ValueRight answers true: plain Lean. -/
import Derived.Test.YtmpmbnmldmpmiaaGreatDoorRightR
import Derived.Test.YtmpmbnmldmpmiaaGreatDoorA31
set_option linter.unusedVariables false
set_option linter.unusedSimpArgs false
namespace Go.Proofs.YtmpmbnmldmpmiaaGreatDoor.A
open Go.RowKit Go.Lib Go.Proofs.YtmpmbnmldmpmiaaGreatDoorW.PrintWords Go.Proofs.YtmpmbnmldmpmiaaGreatDoorW.PrintLast Go.Proofs.YtmpmbnmldmpmiaaGreatDoorW.PrintMore
theorem Ev.eqv {α : Type} {g : Nat → Option α} {a b : α} (h : a = b) (k : Ev g b) : Ev g a := h ▸ k
theorem loops {d : Int} {kd : Int} {nm : Nat} {s : ByteArray} {l : List S27} {ks : List ByteArray} (hl : l.length ≤ 140737488351232) (hd : wrap64 (d - 1) = d - 1)
    (ih : ∀ y ∈ l, ∃ r, Ev (fun k => value_right.f k y.f0 y.f1 y.f2 y.f3 y.f4 (d - 1)) r ∧ Ev (fun k => colanderref03_right.f k y.f0 y.f1 y.f2 y.f3 y.f4 (d - 1)) r) :
    ∀ (m i : Nat), m = l.length - i → i ≤ l.length → ∃ R, Ev (fun k => colanderref03_right.l0 k d (i : Int) kd nm s l ks) R ∧ Ev (fun k => value_right.l0 k d l (l.length : Int) (i : Int)) R ∧ (i = l.length → R = true) := by
  intro m
  induction m with
  | zero =>
    intro i hm hi
    refine ⟨true, Ev.succ ?_, Ev.succ ?_, fun _ => rfl⟩
    · simp only [colanderref03_right.l0]
      exact Ev.ite_neg (by omega) (Ev.now _)
    · simp only [value_right.l0]
      exact Ev.ite_neg (by omega) (Ev.now _)
  | succ m ihm =>
    intro i hm hi
    have hlt : i < l.length := by omega
    obtain ⟨r, e1, e2⟩ := ih _ (List.getElem_mem hlt)
    cases r with
    | false =>
      refine ⟨false, Ev.succ ?_, Ev.succ ?_, fun h => by omega⟩
      · simp only [colanderref03_right.l0]
        refine Ev.ite_pos (by omega) (Ev.ite_pos (by omega) ?_)
        rw [rd_T27_at hlt, hd]
        exact Ev.bind e2 (Ev.ite_neg (by simp) (Ev.now _))
      · simp only [value_right.l0]
        refine Ev.ite_pos (by omega) (Ev.ite_pos (by omega) (Ev.ite_pos (by omega) ?_))
        rw [rd_T27_at hlt, hd]
        exact Ev.bind e1 (Ev.ite_neg (by simp) (Ev.now _))
    | true =>
      obtain ⟨R, f1, f2, _⟩ := ihm (i + 1) (by omega) (by omega)
      refine ⟨R, Ev.succ ?_, Ev.succ ?_, fun h => by omega⟩
      · simp only [colanderref03_right.l0]
        refine Ev.ite_pos (by omega) (Ev.ite_pos (by omega) ?_)
        rw [rd_T27_at hlt, hd, wrap_succ hlt hl]
        exact Ev.bind e2 (Ev.ite_pos rfl f1)
      · simp only [value_right.l0]
        refine Ev.ite_pos (by omega) (Ev.ite_pos (by omega) (Ev.ite_pos (by omega) ?_))
        rw [rd_T27_at hlt, hd, wrap_succ hlt hl]
        exact Ev.bind e1 (Ev.ite_pos rfl f2)
theorem same_bool (kd : Int) (nm : Nat) (s : ByteArray) (l : List S27) (ks : List ByteArray) (R : Bool) (hR : l.length = 0 → R = true) (b b' : Bool) (hb : b = decide (kd = 0 ∨ kd = 1 ∨ kd = 2)) (hb' : b' = decide (kd < 0 ∨ kd > 6)) :
    (if b = true then (if nm ≠ 0 then false else if s.toList ≠ [] then false else if l.length ≠ 0 then false else decide (ks.length = 0))
    else if kd = 3 then (if s.toList ≠ [] then false else if l.length ≠ 0 then false else decide (ks.length = 0))
    else if kd = 4 then (if nm ≠ 0 then false else if validD (kd_ s) = true then (if l.length ≠ 0 then false else decide (ks.length = 0)) else false)
    else if kd = 6 then (if ks.length = l.length then (if apartB [] ks = true then (if nm ≠ 0 then false else if s.toList ≠ [] then false else R) else false) else false)
    else if kd = 5 then (if 0 < ks.length then false else if nm ≠ 0 then false else if s.toList ≠ [] then false else R) else false) =
    (if b' = true then false else if kd ≠ 3 ∧ nm ≠ 0 then false else if kd ≠ 4 ∧ s.toList ≠ [] then false else if kd < 5 ∧ 0 < l.length then false else if (if kd = 6 then ks.length = l.length else ks.length = 0) then (if validD (kd_ s) = true then (if apartB [] ks = true then R else false) else false) else false) := by
  have hv : s.toList = [] → validD (kd_ s) = true := fun h => by rw [← kd_eq, h]; rfl
  have ha : ks.length = 0 → apartB [] ks = true := fun h => by rw [List.length_eq_zero_iff.1 h]; rfl
  generalize validD (kd_ s) = v at hv ⊢
  generalize apartB [] ks = a at ha ⊢
  generalize s.toList = t at hv ⊢
  generalize l.length = n at hR ⊢
  generalize ks.length = q at ha ⊢
  subst hb hb'
  by_cases hn : nm = 0 <;> by_cases ht : t = [] <;> by_cases hnz : n = 0 <;> by_cases hq : q = 0 <;>
  (have hk : kd < 0 ∨ kd = 0 ∨ kd = 1 ∨ kd = 2 ∨ kd = 3 ∨ kd = 4 ∨ kd = 5 ∨ kd = 6 ∨ kd > 6 := by omega
   rcases hk with h | rfl | rfl | rfl | rfl | rfl | rfl | rfl | h <;> (try have hv1 := hv ht) <;> (try have hr1 := hR hnz) <;> (try have ha1 := ha hq) <;> clear hv hR ha <;>
     first
     | (simp [*]; done)
     | (cases v <;> cases a <;> cases R <;> simp_all <;> omega)
     | (have g0 : ¬ kd = 0 := by omega
        have g1 : ¬ kd = 1 := by omega
        have g2 : ¬ kd = 2 := by omega
        have g3 : ¬ kd = 3 := by omega
        have g4 : ¬ kd = 4 := by omega
        have g5 : ¬ kd = 5 := by omega
        have g6 : ¬ kd = 6 := by omega
        simp [*]))
theorem right_ev {x : S27} (h : G27 x) : ∀ d : Int, 0 ≤ d → d ≤ 10000 → ∃ r, Ev (fun k => value_right.f k x.f0 x.f1 x.f2 x.f3 x.f4 d) r ∧ Ev (fun k => colanderref03_right.f k x.f0 x.f1 x.f2 x.f3 x.f4 d) r := by
  induction h with
  | mk x h2 h3 h4 h5 h6 ih =>
  intro d hd0 hd1
  by_cases hd : d = 0
  · subst hd
    refine ⟨false, Ev.succ ?_, Ev.succ ?_⟩
    · simp only [value_right.f]
      exact Ev.ite_pos trivial (Ev.now _)
    · simp only [colanderref03_right.f]
      refine Ev.ite_pos (by omega) (Ev.succ ?_)
      simp only [colanderref03_right.j0]
      exact Ev.ite_pos trivial (Ev.now _)
  have hdw : wrap64 (d - 1) = d - 1 := by unfold wrap64; omega
  obtain ⟨R, e1, e2, e3⟩ := loops (kd := x.f0) (nm := x.f1) (s := x.f2) (ks := x.f4) (by omega) hdw (fun y hy => ih y hy (d - 1) (by omega) (by omega)) _ 0 rfl (Nat.zero_le _)
  have hv := fun b => v0_ev h2 h5 h4 e2 (kd := x.f0) (nm := x.f1) b
  have hr := fun b => r0_ev h2 h5 h4 e1 b
  have hsame := same_bool x.f0 x.f1 x.f2 x.f3 x.f4 R (fun h => e3 h.symm) _ _ rfl rfl
  refine ⟨_, Ev.succ ?_, Ev.eqv hsame (Ev.succ ?_)⟩
  rotate_left
  · simp only [colanderref03_right.f]
    refine Ev.ite_neg (by omega) ?_
    by_cases hk : x.f0 < 0
    · refine Ev.ite_pos hk ?_
      have := hr true
      rw [decide_eq_true (show x.f0 < 0 ∨ x.f0 > 6 from .inl hk)]
      exact this
    · refine Ev.ite_neg hk ?_
      have := hr (decide (x.f0 > 6))
      rw [show decide (x.f0 < 0 ∨ x.f0 > 6) = decide (x.f0 > 6) by rw [Bool.eq_iff_iff]; simp; omega]
      exact this
  · simp only [value_right.f]
    refine Ev.ite_neg hd ?_
    by_cases k0 : x.f0 = 0
    · refine Ev.ite_pos k0 ?_
      have := hv (x.f0 == 0)
      rw [show (x.f0 == 0) = decide (x.f0 = 0 ∨ x.f0 = 1 ∨ x.f0 = 2) by rw [Bool.eq_iff_iff]; simp; omega] at this ⊢
      exact this
    · refine Ev.ite_neg k0 ?_
      by_cases k1 : x.f0 = 1
      · refine Ev.ite_pos k1 ?_
        have := hv (x.f0 == 1)
        rw [show (x.f0 == 1) = decide (x.f0 = 0 ∨ x.f0 = 1 ∨ x.f0 = 2) by rw [Bool.eq_iff_iff]; simp; omega] at this ⊢
        exact this
      · refine Ev.ite_neg k1 ?_
        have := hv (x.f0 == 2)
        rw [show (x.f0 == 2) = decide (x.f0 = 0 ∨ x.f0 = 1 ∨ x.f0 = 2) by rw [Bool.eq_iff_iff]; simp; omega] at this ⊢
        exact this
/-- The law's function answers true. -/
theorem valueRight_ok {x : S27} (h : G27 x) : ∃ k, colanderlaw03_ValueRight.f k x.f0 x.f1 x.f2 x.f3 x.f4 = some true := by
  suffices hs : Ev (fun k => colanderlaw03_ValueRight.f k x.f0 x.f1 x.f2 x.f3 x.f4) true from hs.rounds
  obtain ⟨r, e1, e2⟩ := right_ev h 10000 (by omega) (by omega)
  obtain ⟨q, l1, l2⟩ := large_ev h
  have hh : colanderlaw03_heads.f = some true := rfl
  have hV : Ev (fun k => value_Right.f k x.f0 x.f1 x.f2 x.f3 x.f4) r := by unfold value_Right.f; exact Ev.bind e1 (Ev.now _)
  have hR : Ev (fun k => colanderref03_Right.f k x.f0 x.f1 x.f2 x.f3 x.f4) r := by unfold colanderref03_Right.f; exact Ev.bind e2 (Ev.now _)
  unfold colanderlaw03_ValueRight.f
  refine Ev.bind (copy_ev h) (Ev.bind hV (Ev.bind hR (Ev.ite_pos (by simp) (Ev.bind hR ?_))))
  simp only [hh, Option.bind_some]
  cases r with
  | true => exact Ev.ite_pos rfl (Ev.bind l1 (Ev.bind l2 (Ev.ite_pos (by simp) (Ev.now _))))
  | false => exact Ev.ite_neg (by simp) (Ev.now _)
end Go.Proofs.YtmpmbnmldmpmiaaGreatDoor.A
