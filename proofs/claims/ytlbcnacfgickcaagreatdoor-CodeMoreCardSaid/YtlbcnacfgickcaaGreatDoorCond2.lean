/- What is known of a code to which Check answers 0: all its conditions. -/
import Derived.Test.YtlbcnacfgickcaaGreatDoorCond
set_option linter.unusedVariables false
set_option linter.unusedSimpArgs false
namespace Go.Proofs.YtlbcnacfgickcaaGreatDoor.A
open Go.RowKit Go.Proofs.YtlbcnacfgickcaaGreatDoorW.PrintWords Go.Proofs.YtlbcnacfgickcaaGreatDoorW.PrintLast Go.Proofs.YtlbcnacfgickcaaGreatDoorW.PrintMore
def Rt (l1 : List S36) (j : Int) : Prop := Ev (fun k => value_Right.f k (rd_T36 l1 j).f0 (rd_T36 l1 j).f1 (rd_T36 l1 j).f2 (rd_T36 l1 j).f3 (rd_T36 l1 j).f4) true
def Done2 (l0 : List S30) (l1 : List S36) (i : Int) : Prop := Done l0 l1 i ∧ ∀ j : Int, 0 ≤ j → j < ((R3 l0 i).f5.length : Int) → Ev (fun k => mY.f k l0 l1 i j) true
section
variable {l0 : List S30} {l1 : List S36} (hl0 : l0.length ≤ 140737488351232) (hl1 : l1.length ≤ 140737488351232) (hG0 : ∀ f ∈ l0, G30 f) (hG1 : ∀ x ∈ l1, G36 x)
include hl0 hG0
theorem l2_cond (hS : ∀ i : Int, 0 ≤ i → i < (l0.length : Int) → Shp l0 i) : ∀ (m : Nat) (i : Int), (l0.length : Int) - i ≤ m → 0 ≤ i → TP (fun k => cC.l2 k l0 (l0.length : Int) i l0 l1) (fun e => e = 0 → ∀ j : Int, i ≤ j → j < (l0.length : Int) → Done2 l0 l1 j) := by
  intro m
  induction m with
  | zero =>
    intro i hm hi
    refine TP.step (fun k => by rw [cC.l2]) ?_
    exact TP.ite (fun h => by omega) (fun _ => TP.now fun _ j h h' => by omega)
  | succ m ih =>
    intro i hm hi
    refine TP.step (fun k => by rw [cC.l2]) ?_
    refine TP.ite (fun h1 => TP.ite (fun _ => TP.ite (fun _ => ?_) (fun h => absurd h1 h)) (fun h => absurd hi h)) (fun h => TP.now fun _ j h' h'' => by omega)
    have G := G30_at hG0 hi h1
    have tail : ∀ j : Int, ((R3 l0 i).f5.length : Int) ≤ j → (∀ j' : Int, 0 ≤ j' → j' < j → j' < ((R3 l0 i).f5.length : Int) → Fair ((R3 l0 i).f5.length : Int) (R6 (R3 l0 i).f5 j').f0 (R6 (R3 l0 i).f5 j').f1 j' ∧ Ev (fun k => mY.f k l0 l1 i j') true) →
        TP (fun k => (cHt.f k l0 l1 i).bind fun bt201 => (if bt201.2 = true then (cC.l2 k l0 (l0.length : Int) (wrap64 (i + 1)) l0 l1) else (some 190))) (fun e => e = 0 → ∀ j : Int, i ≤ j → j < (l0.length : Int) → Done2 l0 l1 j) := by
      intro j hj hF
      have F : ∀ j' : Int, 0 ≤ j' → j' < ((R3 l0 i).f5.length : Int) → Fair ((R3 l0 i).f5.length : Int) (R6 (R3 l0 i).f5 j').f0 (R6 (R3 l0 i).f5 j').f1 j' ∧ Ev (fun k => mY.f k l0 l1 i j') true := fun j' a b => hF j' a (by omega) b
      obtain ⟨r, hr, hp⟩ := heights_spec (l1 := l1) hi h1 (hS i hi h1).ne (by have := G.1; omega) (fun j' a b => (F j' a b).1)
      obtain ⟨hs, b⟩ := r
      cases b with
      | false => exact ⟨190, Ev.bind hr (Ev.ite_neg (by simp) (Ev.now _)), fun e => by cases e⟩
      | true =>
        have D : Done2 l0 l1 i := ⟨⟨fun j' a b => (F j' a b).1, hs, hr, hp rfl⟩, fun j' a b => (F j' a b).2⟩
        rw [show wrap64 (i + 1) = i + 1 by unfold wrap64; omega]
        obtain ⟨r', hr', hp'⟩ := ih (i + 1) (by omega) (by omega)
        refine ⟨r', Ev.bind hr (Ev.ite_pos rfl hr'), fun e j a b => ?_⟩
        by_cases hj : j = i
        · rw [hj]; exact D
        · exact hp' e j (by omega) b
    have l3 : ∀ (m' : Nat) (j : Int), ((R3 l0 i).f5.length : Int) - j ≤ m' → 0 ≤ j → (∀ j' : Int, 0 ≤ j' → j' < j → j' < ((R3 l0 i).f5.length : Int) → Fair ((R3 l0 i).f5.length : Int) (R6 (R3 l0 i).f5 j').f0 (R6 (R3 l0 i).f5 j').f1 j' ∧ Ev (fun k => mY.f k l0 l1 i j') true) →
        TP (fun k => cC.l3 k i l0 (l0.length : Int) i ((R3 l0 i).f5.length : Int) j l0 l1) (fun e => e = 0 → ∀ j : Int, i ≤ j → j < (l0.length : Int) → Done2 l0 l1 j) := by
      intro m'
      induction m' with
      | zero =>
        intro j hm hj hF
        refine TP.step (fun k => by rw [cC.l3, if_neg (show ¬ j < ((R3 l0 i).f5.length : Int) by omega)]) ?_
        exact tail j (by omega) hF
      | succ m' ih' =>
        intro j hm hj hF
        refine TP.step (fun k => by rw [cC.l3]) ?_
        refine TP.ite (fun h => TP.bind (may_spec hS hl0 hi h1 hj h (G56_at G.2 hj h)).self fun b hb => TP.ite (fun e => ?_) (fun _ => TP.now fun e => by cases e)) (fun h => tail j (by omega) hF)
        have := G.1
        rw [show wrap64 (j + 1) = j + 1 by unfold wrap64; omega]
        refine ih' (j + 1) (by omega) (by omega) (fun j' a b c => ?_)
        by_cases hj' : j' = j
        · subst e; rw [hj']; exact ⟨hb.1 rfl, hb.2⟩
        · exact hF j' a (by omega) c
    exact l3 (R3 l0 i).f5.length 0 (by omega) (Int.le_refl _) (fun j' a b => by omega)
include hl1 hG1
theorem l1_cond (hS : ∀ i : Int, 0 ≤ i → i < (l0.length : Int) → Shp l0 i) : ∀ (m : Nat) (i : Int), (l1.length : Int) - i ≤ m → 0 ≤ i →
    TP (fun k => cC.l1 k l1 (l1.length : Int) i l0 l1 l0 l1) (fun e => e = 0 → (∀ j : Int, i ≤ j → j < (l1.length : Int) → Rt l1 j) ∧ ∀ j : Int, 0 ≤ j → j < (l0.length : Int) → Done2 l0 l1 j) := by
  intro m
  have tail := l2_cond (l1 := l1) hl0 hG0 hS l0.length 0 (by omega) (Int.le_refl _)
  induction m with
  | zero =>
    intro i hm hi
    exact TP.step (fun k => by rw [cC.l1, if_neg (show ¬ i < (l1.length : Int) by omega)]) (tail.mono fun e h he => ⟨fun j a b => by omega, h he⟩)
  | succ m ih =>
    intro i hm hi
    refine TP.step (fun k => by rw [cC.l1]) ?_
    refine TP.ite (fun h => TP.ite (fun _ => TP.ite (fun _ => TP.bind (T.tp (g := fun k => value_Right.f k (rd_T36 l1 i).f0 (rd_T36 l1 i).f1 (rd_T36 l1 i).f2 (rd_T36 l1 i).f3 (rd_T36 l1 i).f4) ?_).self fun b hb => TP.ite (fun e => ?_) (fun _ => TP.now fun e => by cases e)) (fun h' => absurd h h')) (fun h' => absurd hi h')) (fun _ => tail.mono fun e h he => ⟨fun j a b => by omega, h he⟩)
    · unfold value_Right.f
      exact T.bind (right_T (G36_at hG1 hi h) 10000) fun _ => T.now _
    · rw [show wrap64 (i + 1) = i + 1 by unfold wrap64; omega]
      refine (ih (i + 1) (by omega) (by omega)).mono fun e' hh he => ⟨fun j a b => ?_, (hh he).2⟩
      by_cases hj : j = i
      · subst e; rw [hj]; exact hb.2
      · exact (hh he).1 j (by omega) b
theorem l0_cond : ∀ (m : Nat) (i n : Int), (l0.length : Int) - i ≤ m → 0 ≤ i → 0 ≤ n → n ≤ 262144 → (∀ j : Int, 0 ≤ j → j < i → j < (l0.length : Int) → code_program_shape.f l0 l1 j = some true ∧ Shp l0 j) →
    TP (fun k => cC.l0 k n l0 (l0.length : Int) i l0 l1 l0 l1) (fun e => e = 0 → sumFrom l0 i ≤ n ∧ (∀ j : Int, 0 ≤ j → j < (l1.length : Int) → Rt l1 j) ∧ ∀ j : Int, 0 ≤ j → j < (l0.length : Int) → (code_program_shape.f l0 l1 j = some true ∧ Shp l0 j) ∧ Done2 l0 l1 j) := by
  intro m
  have tail : ∀ (i n : Int), 0 ≤ n → (l0.length : Int) ≤ i → (∀ j : Int, 0 ≤ j → j < i → j < (l0.length : Int) → code_program_shape.f l0 l1 j = some true ∧ Shp l0 j) → TP (fun k => cC.l1 k l1 (l1.length : Int) 0 l0 l1 l0 l1) (fun e => e = 0 → sumFrom l0 i ≤ n ∧ (∀ j : Int, 0 ≤ j → j < (l1.length : Int) → Rt l1 j) ∧ ∀ j : Int, 0 ≤ j → j < (l0.length : Int) → (code_program_shape.f l0 l1 j = some true ∧ Shp l0 j) ∧ Done2 l0 l1 j) := by
    intro i n hn hi hS
    have hS' : ∀ j : Int, 0 ≤ j → j < (l0.length : Int) → code_program_shape.f l0 l1 j = some true ∧ Shp l0 j := fun j a b => hS j a (by omega) b
    exact (l1_cond hl0 hl1 hG0 hG1 (fun j a b => (hS' j a b).2) l1.length 0 (by omega) (Int.le_refl _)).mono fun e h he => ⟨by rw [sumFrom_end hi]; exact hn, (h he).1, fun j a b => ⟨hS' j a b, (h he).2 j a b⟩⟩
  induction m with
  | zero =>
    intro i n hm hi hn hn' hS
    exact TP.step (fun k => by rw [cC.l0, if_neg (show ¬ i < (l0.length : Int) by omega)]) (tail i n hn (by omega) hS)
  | succ m ih =>
    intro i n hm hi hn hn' hS
    refine TP.step (fun k => by rw [cC.l0]) ?_
    refine TP.ite (fun h => TP.ite (fun _ => TP.ite (fun _ => TP.ite (fun _ => TP.now fun e => by cases e) (fun hw => ?_)) (fun h' => absurd h h')) (fun h' => absurd hi h')) (fun _ => tail i n hn (by omega) hS)
    have G := (G30_at hG0 hi h).1
    have e : wrap64 (n - ((R3 l0 i).f5.length : Int)) = n - ((R3 l0 i).f5.length : Int) := by unfold wrap64; omega
    rw [e] at hw ⊢
    obtain ⟨b, hb, hb'⟩ := shape_spec l0 l1 hl0 i hi h
    rw [hb]
    simp only [Option.bind_some]
    refine TP.ite (fun e => ?_) (fun _ => TP.now fun e => by cases e)
    rw [show wrap64 (i + 1) = i + 1 by unfold wrap64; omega]
    have hst := sumFrom_step hi h
    refine (ih (i + 1) _ (by omega) (by omega) (by omega) (by omega) (fun j a b' c => ?_)).mono fun e' hh he => ⟨by have := (hh he).1; omega, (hh he).2⟩
    by_cases hj : j = i
    · rw [hj]; exact ⟨by rw [hb, e], hb' e⟩
    · exact hS j a (by omega) c
theorem check_cond : TP (fun k => cC.f k l0 l1) (fun e => e = 0 → Cond l0 l1 ∧ ∀ i : Int, 0 ≤ i → i < (l0.length : Int) → Shp l0 i ∧ Done l0 l1 i) := by
  have j0 : ∀ b : Bool, (b = false → 1 ≤ (l0.length : Int) ∧ (l0.length : Int) ≤ 20000 ∧ (R3 l0 0).f1 = -1 ∧ (R3 l0 0).f2 = -1 ∧ (R3 l0 0).f3 = 0) → TP (fun k => cC.j0 k b l0 l1 l0 l1) (fun e => e = 0 → Cond l0 l1 ∧ ∀ i : Int, 0 ≤ i → i < (l0.length : Int) → Shp l0 i ∧ Done l0 l1 i) := by
    intro b hb
    refine TP.step (fun k => by rw [cC.j0]) ?_
    refine TP.ite (fun _ => TP.now fun e => by cases e) (fun h => ?_)
    obtain ⟨c1, c2, c3, c4, c5⟩ := hb (by simpa using h)
    refine (l0_cond hl0 hl1 hG0 hG1 l0.length 0 262144 (by omega) (Int.le_refl _) (by omega) (by omega) (fun j a b => by omega)).mono fun e he h0 => ?_
    obtain ⟨k1, k2, k3⟩ := he h0
    exact ⟨⟨c1, c2, c3, c4, c5, k1, fun i a b => (k3 i a b).1.1, k2, fun i a b => (k3 i a b).2.2, fun i a b => (k3 i a b).2.1.high.imp fun hs h => h.1⟩, fun i a b => ⟨(k3 i a b).1.2, (k3 i a b).2.1⟩⟩
  unfold cC.f
  refine TP.ite (fun _ => j0 _ (fun h => by cases h)) (fun h1 => TP.ite (fun _ => j0 _ (fun h => by cases h)) (fun h2 => TP.ite (fun h => ?_) (fun h => by omega)))
  refine TP.ite (fun e1 => TP.ite (fun e2 => j0 _ (fun h => ⟨by omega, by omega, e1, e2, by simpa using h⟩)) (fun _ => j0 _ (fun h => by cases h))) (fun _ => j0 _ (fun h => by cases h))
end
end Go.Proofs.YtlbcnacfgickcaaGreatDoor.A
