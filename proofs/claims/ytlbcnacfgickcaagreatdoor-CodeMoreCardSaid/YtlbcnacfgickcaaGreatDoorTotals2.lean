/- What code.Check and code.Heights answer: plain Lean. -/
import Derived.Test.YtlbcnacfgickcaaGreatDoorTotals
import Derived.Test.YtlbcnacfgickcaaGreatDoorHigh
import Derived.Test.YtlbcnacfgickcaaGreatDoorA14
import Derived.Test.YtlbcnacfgickcaaGreatDoorA15
set_option linter.unusedVariables false
set_option linter.unusedSimpArgs false
namespace Go.Proofs.YtlbcnacfgickcaaGreatDoor.A
open Go.RowKit Go.Proofs.YtlbcnacfgickcaaGreatDoorW.PrintWords Go.Proofs.YtlbcnacfgickcaaGreatDoorW.PrintLast Go.Proofs.YtlbcnacfgickcaaGreatDoorW.PrintMore
theorem T.tp {α : Type} {g : Nat → Option α} (h : T g) : TP g (fun _ => True) := by
  obtain ⟨r, hr⟩ := h
  exact ⟨r, hr, trivial⟩
theorem TP.bindT {α β : Type} {q : β → Prop} {g : Nat → Option α} {f : Nat → α → Option β} (h : T g) (k : ∀ a, TP (fun n => f n a) q) : TP (fun n => (g n).bind (f n)) q := TP.bind h.tp fun a _ => k a
theorem Fair.none {n op a i : Int} (h2 : op ≠ 2) (h22 : op ≠ 22) (h3 : ¬(op = 32 ∨ op = 34)) (hj : ¬(op = 15 ∨ op = 17 ∨ op = 18 ∨ op = 25)) : Fair n op a i :=
  ⟨fun h => absurd h h2, fun h => absurd h h22, fun h => absurd h h3, fun h => absurd h hj⟩
theorem operators_some : ∃ l, code_operators.f = some l ∧ l.length ≤ 140737488351232 := by
  have h : (code_operators.f.map fun l => decide (l.length ≤ 140737488351232)) = some true := by decide +kernel
  cases hx : code_operators.f with
  | none => rw [hx] at h; cases h
  | some l => rw [hx] at h; exact ⟨l, rfl, by simpa using h⟩
theorem worlds_some : ∃ l, code_Worlds.f = some l ∧ l.length ≤ 140737488351232 := by
  have h : (code_Worlds.f.map fun l => decide (l.length ≤ 140737488351232)) = some true := by decide +kernel
  cases hx : code_Worlds.f with
  | none => rw [hx] at h; cases h
  | some l => rw [hx] at h; exact ⟨l, rfl, by simpa using h⟩
section
variable {l0 : List S30} {l1 : List S36} (hS : ∀ i : Int, 0 ≤ i → i < (l0.length : Int) → Shp l0 i) (hl : l0.length ≤ 140737488351232)
include hS hl
theorem may_spec {i j : Int} (h0 : 0 ≤ i) (h1 : i < (l0.length : Int)) (g0 : 0 ≤ j) (g1 : j < ((R3 l0 i).f5.length : Int)) (hG : G56 (R6 (R3 l0 i).f5 j)) :
    TP (fun k => mY.f k l0 l1 i j) (fun b => b = true → Fair ((R3 l0 i).f5.length : Int) (R6 (R3 l0 i).f5 j).f0 (R6 (R3 l0 i).f5 j).f1 j) := by
  obtain ⟨hs, hr⟩ := hG
  generalize hn : ((R3 l0 i).f5.length : Int) = n at *
  generalize hx : R6 (R3 l0 i).f5 j = x at *
  have h4 : ∀ b : Bool, (b = true ↔ (x.f0 = 32 ∨ x.f0 = 34)) → x.f0 ≠ 2 → x.f0 ≠ 22 → ¬(x.f0 = 15 ∨ x.f0 = 17 ∨ x.f0 = 18 ∨ x.f0 = 25) → TP (fun k => mY.j4 k x.f0 b x.f0 x.f1 x.f2 x.f3 x.f4) (fun b => b = true → Fair n x.f0 x.f1 j) := by
    intro b hb e2 e22 ej
    refine TP.step (fun k => by rw [mY.j4]) ?_
    refine TP.ite (fun h => ?_) (fun h => ?_)
    · rw [inside_eq]
      refine TP.now fun h' => ⟨fun e => absurd e e2, fun e => absurd e e22, fun _ => by simpa using h', fun e => absurd e ej⟩
    · have F : Fair n x.f0 x.f1 j := .none e2 e22 (fun e => h (hb.2 e)) ej
      refine TP.ite (fun _ => ?_) (fun _ => TP.now fun _ => F)
      obtain ⟨l, hl, hll⟩ := worlds_some
      simp only [hl, Option.bind_some]
      exact TP.bindT (among_T _ _ hll) fun _ => TP.now fun _ => F
  have h3 : ∀ b : Bool, (b = true ↔ (x.f0 = 15 ∨ x.f0 = 17 ∨ x.f0 = 18 ∨ x.f0 = 25)) → x.f0 ≠ 2 → TP (fun k => mY.j3 k i j x.f0 b l0 l1 x.f0 x.f1 x.f2 x.f3 x.f4) (fun b => b = true → Fair n x.f0 x.f1 j) := by
    intro b hb e2
    refine TP.step (fun k => by rw [mY.j3]) ?_
    refine TP.ite (fun h => TP.ite (fun h' => TP.ite (fun _ => TP.ite (fun _ => TP.now fun h'' => ?_) (fun hn => absurd h1 hn)) (fun hn => absurd h0 hn)) (fun _ => TP.now fun e => by cases e)) (fun h => ?_)
    · rw [hn] at h''
      have e := hb.1 h
      exact ⟨fun e' => absurd e' e2, fun e' => by omega, fun e' => by omega, fun _ => ⟨by omega, by simpa using h''⟩⟩
    · have ej : ¬(x.f0 = 15 ∨ x.f0 = 17 ∨ x.f0 = 18 ∨ x.f0 = 25) := fun e => h (hb.2 e)
      refine TP.ite (fun e => TP.bindT (call_T hS hl i _ _ _ _ _ hr h0 h1) fun _ => TP.now fun _ => .none e2 (by omega) (by omega) ej) (fun _ => TP.ite (fun e => ?_) (fun e22 => TP.ite (fun e => ?_) (fun _ => TP.ite (fun e => TP.now fun _ => .none e2 e22 (by omega) ej) (fun _ => TP.ite (fun e => h4 _ (by simp [e]) e2 e22 ej) (fun e => h4 _ (by simp [e]) e2 e22 ej)))))
      · rw [inside_eq]
        simp only [Option.bind_some]
        refine TP.ite (fun h' => ?_) (fun _ => TP.now fun e => by cases e)
        have F : Fair n x.f0 x.f1 j := ⟨fun e' => absurd e' e2, fun _ => by simpa using h', fun _ => by omega, fun e' => absurd e' ej⟩
        refine TP.bindT (name_T _ hs) fun _ => TP.ite (fun _ => TP.bindT (T.of (word_T _)) fun _ => TP.now fun _ => F) (fun _ => TP.now fun _ => F)
      · obtain ⟨l, hl, hll⟩ := operators_some
        simp only [hl, Option.bind_some]
        exact TP.bindT (among_T _ _ hll) fun _ => TP.now fun _ => Fair.none e2 e22 (by omega) ej
  have h2 : ∀ b : Bool, (b = true → x.f0 = 8 ∨ x.f0 = 28) → x.f0 ≠ 2 → TP (fun k => mY.j2 k i j x.f0 b l0 l1 x.f0 x.f1 x.f2 x.f3 x.f4) (fun b => b = true → Fair n x.f0 x.f1 j) := by
    intro b hb e2
    refine TP.step (fun k => by rw [mY.j2]) ?_
    refine TP.ite (fun h => TP.bindT (variable_T hS i _ _ h0 h1) fun _ => TP.now fun _ => ?_) (fun h => TP.ite (fun e => TP.bindT (param_T hS i _ _ h0 h1) fun _ => TP.now fun _ => .none e2 (by omega) (by omega) (by omega)) (fun _ => ?_))
    · have := hb h
      exact .none e2 (by omega) (by omega) (by omega)
    · refine TP.ite (fun e => h3 _ (by simp [e]) e2) (fun e1 => TP.ite (fun e => h3 _ (by simp [e]) e2) (fun e3 => TP.ite (fun e => h3 _ (by simp [e]) e2) (fun e4 => h3 _ (by simp [e1, e3, e4]) e2)))
  have h1' : ∀ b : Bool, (b = true → x.f0 = 9 ∨ x.f0 = 10 ∨ x.f0 = 11 ∨ x.f0 = 27 ∨ x.f0 = 36 ∨ x.f0 = 37) → x.f0 ≠ 2 → TP (fun k => mY.j1 k i j x.f0 b l0 l1 x.f0 x.f1 x.f2 x.f3 x.f4) (fun b => b = true → Fair n x.f0 x.f1 j) := by
    intro b hb e2
    refine TP.step (fun k => by rw [mY.j1]) ?_
    refine TP.ite (fun h => TP.bindT (variable_T hS i _ _ h0 h1) fun _ => TP.now fun _ => ?_) (fun h => TP.ite (fun e => h2 _ (fun _ => .inl e) e2) (fun _ => h2 _ (fun e => .inr (by simpa using e)) e2))
    have := hb h
    exact .none e2 (by omega) (by omega) (by omega)
  have h0' : ∀ b : Bool, TP (fun k => mY.j0 k i j b l0 l1 x.f0 x.f1 x.f2 x.f3 x.f4) (fun b => b = true → Fair n x.f0 x.f1 j) := by
    intro b
    refine TP.step (fun k => by rw [mY.j0]) ?_
    refine TP.ite (fun _ => TP.now fun e => by cases e) (fun _ => TP.ite (fun e => ?_) (fun _ => TP.ite (fun e => ?_) (fun e2 => ?_)))
    · rw [inside_eq]
      exact TP.now fun _ => .none (by omega) (by omega) (by omega) (by omega)
    · rw [inside_eq]
      exact TP.now fun h' => ⟨fun _ => by simpa using h', fun _ => by omega, fun _ => by omega, fun _ => by omega⟩
    · refine TP.ite (fun e => h1' _ (fun _ => by omega) e2) (fun _ => TP.ite (fun e => h1' _ (fun _ => by omega) e2) (fun _ => TP.ite (fun e => h1' _ (fun _ => by omega) e2) (fun _ => TP.ite (fun e => h1' _ (fun _ => by omega) e2) (fun _ => TP.ite (fun e => h1' _ (fun _ => by omega) e2) (fun _ => h1' _ (fun e => .inr (.inr (.inr (.inr (.inr (by simpa using e)))))) e2)))))
  unfold mY.f
  simp only [hx, hn]
  refine TP.ite (fun _ => TP.ite (fun _ => TP.ite (fun _ => TP.ite (fun _ => ?_) (fun h => absurd g1 h)) (fun h => absurd g0 h)) (fun h => absurd h1 h)) (fun h => absurd h0 h)
  refine TP.bindT (names_T _) fun bt => ?_
  repeat' first
    | exact h0' _
    | refine TP.ite (fun _ => ?_) (fun _ => ?_)
end
theorem right_T : ∀ {x : S36}, G36 x → ∀ d : Int, T (fun k => vR.f k x.f0 x.f1 x.f2 x.f3 x.f4 d) := by
  intro x hx
  induction hx with
  | mk x h2 h3 h4 hs hl ih =>
  intro d
  have loop : ∀ (m : Nat) (j d : Int), (x.f3.length : Int) - j ≤ m → 0 ≤ j → T (fun k => vR.l0 k d x.f3 (x.f3.length : Int) j) := by
    intro m
    induction m with
    | zero =>
      intro j d hm hj
      refine T.succ ?_
      simp only [vR.l0, if_neg (show ¬ j < (x.f3.length : Int) by omega)]
      exact T.now _
    | succ m ihm =>
      intro j d hm hj
      refine T.succ ?_
      simp only [vR.l0]
      refine T.ite (fun h => T.ite (fun _ => T.ite (fun _ => T.bind (ih (rd_T36 x.f3 j) ?_ _) (fun b => T.ite (fun _ => ?_) (fun _ => T.now _))) (fun h' => absurd h h')) (fun h' => absurd hj h')) (fun _ => T.now _)
      · unfold rd_T36
        have : j.toNat < x.f3.length := by omega
        simp [List.getD_eq_getElem?_getD, this]
      · rw [show wrap64 (j + 1) = j + 1 by unfold wrap64; omega]
        exact ihm (j + 1) d (by omega) (by omega)
  have j2 : ∀ d b, T (fun k => vR.j2 k d b x.f0 x.f1 x.f2 x.f3 x.f4) := by
    intro d b
    refine T.succ ?_
    simp only [vR.j2]
    exact T.ite (fun _ => T.now _) (fun _ => loop _ 0 d (Int.le_of_eq (by rw [Int.sub_zero])) (Int.le_refl _))
  have j1 : ∀ d, T (fun k => vR.j1 k d x.f0 x.f1 x.f2 x.f3 x.f4) := by
    intro d
    refine T.succ ?_
    simp only [vR.j1, value_bare.f, Option.bind_some]
    repeat' first
      | exact j2 _ _
      | refine T.ite (fun _ => ?_) (fun _ => ?_)
  have hv : ∃ r, runes_Valid.f x.f2 = some r := ⟨_, runes_Valid.f_eq x.f2 (by omega)⟩
  have ha : ∃ r, value_apart.f x.f4 = some r := by
    unfold value_apart.f
    rw [if_pos ⟨h4, by simp only [List.all_eq_true, decide_eq_true_eq]; exact fun s h => by have := hs s h; omega⟩]
    exact ⟨_, rfl⟩
  obtain ⟨rv, hv⟩ := hv
  obtain ⟨ra, ha⟩ := ha
  have j0 : ∀ d a b, T (fun k => vR.j0 k d a b x.f0 x.f1 x.f2 x.f3 x.f4) := by
    intro d a b
    refine T.succ ?_
    simp only [vR.j0, value_bare.f, Option.bind_some, hv, ha]
    repeat' first
      | exact j1 _
      | exact T.now _
      | refine T.ite (fun _ => ?_) (fun _ => ?_)
  refine T.succ ?_
  simp only [vR.f]
  repeat' first
    | exact j0 _ _ _
    | exact T.now _
    | refine T.ite (fun _ => ?_) (fun _ => ?_)
structure Done (l0 : List S30) (l1 : List S36) (i : Int) : Prop where
  fair : ∀ j : Int, 0 ≤ j → j < ((R3 l0 i).f5.length : Int) → Fair ((R3 l0 i).f5.length : Int) (R6 (R3 l0 i).f5 j).f0 (R6 (R3 l0 i).f5 j).f1 j
  high : ∃ hs, Ev (fun k => cHt.f k l0 l1 i) (hs, true) ∧ HI (R3 l0 i).f5 hs ((R3 l0 i).f5.length : Int)
theorem G30_at {l0 : List S30} (hG : ∀ f ∈ l0, G30 f) {i : Int} (h0 : 0 ≤ i) (h1 : i < (l0.length : Int)) : G30 (R3 l0 i) := by
  unfold R3
  have : i.toNat < l0.length := by omega
  simp only [List.getD_eq_getElem?_getD, this, List.getElem?_eq_getElem, Option.getD_some]
  exact hG _ (List.getElem_mem _)
theorem G56_at {l : List S56} (hG : ∀ f ∈ l, G56 f) {i : Int} (h0 : 0 ≤ i) (h1 : i < (l.length : Int)) : G56 (R6 l i) := by
  unfold R6
  have : i.toNat < l.length := by omega
  simp only [List.getD_eq_getElem?_getD, this, List.getElem?_eq_getElem, Option.getD_some]
  exact hG _ (List.getElem_mem _)
theorem G36_at {l : List S36} (hG : ∀ f ∈ l, G36 f) {i : Int} (h0 : 0 ≤ i) (h1 : i < (l.length : Int)) : G36 (rd_T36 l i) := by
  unfold rd_T36
  have : i.toNat < l.length := by omega
  simp only [List.getD_eq_getElem?_getD, this, List.getElem?_eq_getElem, Option.getD_some]
  exact hG _ (List.getElem_mem _)
end Go.Proofs.YtlbcnacfgickcaaGreatDoor.A
