/- The heights of a code with one instruction more that no way leads to: plain Lean. -/
import Derived.Test.YtlbcnacfgickcaaGreatDoorHigh
set_option linter.unusedVariables false
set_option linter.unusedSimpArgs false
namespace Go.Proofs.YtlbcnacfgickcaaGreatDoor.A
open Go.RowKit Go.Proofs.YtlbcnacfgickcaaGreatDoorW.PrintWords Go.Proofs.YtlbcnacfgickcaaGreatDoorW.PrintLast Go.Proofs.YtlbcnacfgickcaaGreatDoorW.PrintMore
def LeO {α : Type} (a b : Option α) : Prop := ∀ r, a = some r → b = some r
theorem LeO.refl {α : Type} (a : Option α) : LeO a a := fun _ h => h
theorem LeO.ite {α : Type} {c : Prop} [Decidable c] {a a' b b' : Option α} (h : LeO a a') (k : LeO b b') : LeO (if c then a else b) (if c then a' else b') := by
  split
  · exact h
  · exact k
theorem cE.mono_l : ∀ k, (∀ y0 y1 y2 y3 y4 y5 y6, LeO (cE.j0 k y0 y1 y2 y3 y4 y5 y6) (cE.j0 (k + 1) y0 y1 y2 y3 y4 y5 y6)) ∧ (∀ y0 y1 y2 y3 y4 y5 y6, LeO (cE.j1 k y0 y1 y2 y3 y4 y5 y6) (cE.j1 (k + 1) y0 y1 y2 y3 y4 y5 y6)) ∧ (∀ y0 y1 y2 y3 y4 y5 y6, LeO (cE.j2 k y0 y1 y2 y3 y4 y5 y6) (cE.j2 (k + 1) y0 y1 y2 y3 y4 y5 y6)) ∧ (∀ y0 y1 y2 y3 y4 y5 y6, LeO (cE.j3 k y0 y1 y2 y3 y4 y5 y6) (cE.j3 (k + 1) y0 y1 y2 y3 y4 y5 y6)) ∧ (∀ y0 y1 y2 y3 y4 y5 y6, LeO (cE.j4 k y0 y1 y2 y3 y4 y5 y6) (cE.j4 (k + 1) y0 y1 y2 y3 y4 y5 y6))
 | 0 => ⟨fun _ _ _ _ _ _ _ r h => by simp [cE.j0] at h, fun _ _ _ _ _ _ _ r h => by simp [cE.j1] at h, fun _ _ _ _ _ _ _ r h => by simp [cE.j2] at h, fun _ _ _ _ _ _ _ r h => by simp [cE.j3] at h, fun _ _ _ _ _ _ _ r h => by simp [cE.j4] at h⟩
 | k + 1 => by
  obtain ⟨ih0, ih1, ih2, ih3, ih4⟩ := cE.mono_l k
  refine ⟨?_, ?_, ?_, ?_, ?_⟩
  ·intro y0 y1 y2 y3 y4 y5 y6
   unfold cE.j0
   repeat' first
   | (with_reducible exact ih0 _ _ _ _ _ _ _)
   | (with_reducible exact ih1 _ _ _ _ _ _ _)
   | (with_reducible exact ih2 _ _ _ _ _ _ _)
   | (with_reducible exact ih3 _ _ _ _ _ _ _)
   | (with_reducible exact ih4 _ _ _ _ _ _ _)
   | (with_reducible exact LeO.refl _)
   | (with_reducible exact LeO.none _)
   | (with_reducible refine LeO.ite ?_ ?_)
   | (with_reducible refine LeO.bind ?_ (fun _ => ?_))
   | exact ih0 _ _ _ _ _ _ _
   | exact ih1 _ _ _ _ _ _ _
   | exact ih2 _ _ _ _ _ _ _
   | exact ih3 _ _ _ _ _ _ _
   | exact ih4 _ _ _ _ _ _ _
   | exact LeO.none _
   | refine LeO.ite ?_ ?_
   | refine LeO.bind ?_ (fun _ => ?_)
  ·intro y0 y1 y2 y3 y4 y5 y6
   unfold cE.j1
   repeat' first
   | (with_reducible exact ih0 _ _ _ _ _ _ _)
   | (with_reducible exact ih1 _ _ _ _ _ _ _)
   | (with_reducible exact ih2 _ _ _ _ _ _ _)
   | (with_reducible exact ih3 _ _ _ _ _ _ _)
   | (with_reducible exact ih4 _ _ _ _ _ _ _)
   | (with_reducible exact LeO.refl _)
   | (with_reducible exact LeO.none _)
   | (with_reducible refine LeO.ite ?_ ?_)
   | (with_reducible refine LeO.bind ?_ (fun _ => ?_))
   | exact ih0 _ _ _ _ _ _ _
   | exact ih1 _ _ _ _ _ _ _
   | exact ih2 _ _ _ _ _ _ _
   | exact ih3 _ _ _ _ _ _ _
   | exact ih4 _ _ _ _ _ _ _
   | exact LeO.none _
   | refine LeO.ite ?_ ?_
   | refine LeO.bind ?_ (fun _ => ?_)
  ·intro y0 y1 y2 y3 y4 y5 y6
   unfold cE.j2
   repeat' first
   | (with_reducible exact ih0 _ _ _ _ _ _ _)
   | (with_reducible exact ih1 _ _ _ _ _ _ _)
   | (with_reducible exact ih2 _ _ _ _ _ _ _)
   | (with_reducible exact ih3 _ _ _ _ _ _ _)
   | (with_reducible exact ih4 _ _ _ _ _ _ _)
   | (with_reducible exact LeO.refl _)
   | (with_reducible exact LeO.none _)
   | (with_reducible refine LeO.ite ?_ ?_)
   | (with_reducible refine LeO.bind ?_ (fun _ => ?_))
   | exact ih0 _ _ _ _ _ _ _
   | exact ih1 _ _ _ _ _ _ _
   | exact ih2 _ _ _ _ _ _ _
   | exact ih3 _ _ _ _ _ _ _
   | exact ih4 _ _ _ _ _ _ _
   | exact LeO.none _
   | refine LeO.ite ?_ ?_
   | refine LeO.bind ?_ (fun _ => ?_)
  ·intro y0 y1 y2 y3 y4 y5 y6
   unfold cE.j3
   repeat' first
   | (with_reducible exact ih0 _ _ _ _ _ _ _)
   | (with_reducible exact ih1 _ _ _ _ _ _ _)
   | (with_reducible exact ih2 _ _ _ _ _ _ _)
   | (with_reducible exact ih3 _ _ _ _ _ _ _)
   | (with_reducible exact ih4 _ _ _ _ _ _ _)
   | (with_reducible exact LeO.refl _)
   | (with_reducible exact LeO.none _)
   | (with_reducible refine LeO.ite ?_ ?_)
   | (with_reducible refine LeO.bind ?_ (fun _ => ?_))
   | exact ih0 _ _ _ _ _ _ _
   | exact ih1 _ _ _ _ _ _ _
   | exact ih2 _ _ _ _ _ _ _
   | exact ih3 _ _ _ _ _ _ _
   | exact ih4 _ _ _ _ _ _ _
   | exact LeO.none _
   | refine LeO.ite ?_ ?_
   | refine LeO.bind ?_ (fun _ => ?_)
  ·intro y0 y1 y2 y3 y4 y5 y6
   unfold cE.j4
   repeat' first
   | (with_reducible exact ih0 _ _ _ _ _ _ _)
   | (with_reducible exact ih1 _ _ _ _ _ _ _)
   | (with_reducible exact ih2 _ _ _ _ _ _ _)
   | (with_reducible exact ih3 _ _ _ _ _ _ _)
   | (with_reducible exact ih4 _ _ _ _ _ _ _)
   | (with_reducible exact LeO.refl _)
   | (with_reducible exact LeO.none _)
   | (with_reducible refine LeO.ite ?_ ?_)
   | (with_reducible refine LeO.bind ?_ (fun _ => ?_))
   | exact ih0 _ _ _ _ _ _ _
   | exact ih1 _ _ _ _ _ _ _
   | exact ih2 _ _ _ _ _ _ _
   | exact ih3 _ _ _ _ _ _ _
   | exact ih4 _ _ _ _ _ _ _
   | exact LeO.none _
   | refine LeO.ite ?_ ?_
   | refine LeO.bind ?_ (fun _ => ?_)
theorem cE.mono : ∀ a0 a1 a2 a3 a4 k, LeO (cE.f k a0 a1 a2 a3 a4) (cE.f (k + 1) a0 a1 a2 a3 a4) := by
 intro a0 a1 a2 a3 a4 k
 obtain ⟨ih0, ih1, ih2, ih3, ih4⟩ := cE.mono_l k
 unfold cE.f
 repeat' first
   | (with_reducible exact ih0 _ _ _ _ _ _ _)
   | (with_reducible exact ih1 _ _ _ _ _ _ _)
   | (with_reducible exact ih2 _ _ _ _ _ _ _)
   | (with_reducible exact ih3 _ _ _ _ _ _ _)
   | (with_reducible exact ih4 _ _ _ _ _ _ _)
   | (with_reducible exact LeO.refl _)
   | (with_reducible exact LeO.none _)
   | (with_reducible refine LeO.ite ?_ ?_)
   | (with_reducible refine LeO.bind ?_ (fun _ => ?_))
   | exact ih0 _ _ _ _ _ _ _
   | exact ih1 _ _ _ _ _ _ _
   | exact ih2 _ _ _ _ _ _ _
   | exact ih3 _ _ _ _ _ _ _
   | exact ih4 _ _ _ _ _ _ _
   | exact LeO.none _
   | refine LeO.ite ?_ ?_
   | refine LeO.bind ?_ (fun _ => ?_)
theorem rdOf_more {hs : List Int} {i : Int} (h0 : 0 ≤ i) (h1 : i < (hs.length : Int)) (x : Int) : rdOf 0 (hs ++ [x]) i = rdOf 0 hs i := by
  unfold rdOf
  have : i.toNat < hs.length := by omega
  simp [List.getD_eq_getElem?_getD, List.getElem?_append, this]
theorem rdOf_last {hs : List Int} {i : Int} (h1 : i = (hs.length : Int)) (x : Int) : rdOf 0 (hs ++ [x]) i = x := by
  subst h1
  unfold rdOf
  simp [List.getD_eq_getElem?_getD]
theorem rd56_more {l : List S56} {i : Int} (h0 : 0 ≤ i) (h1 : i < (l.length : Int)) (x : S56) : R6 (l ++ [x]) i = R6 l i := by
  unfold R6
  have : i.toNat < l.length := by omega
  simp [List.getD_eq_getElem?_getD, List.getElem?_append, this]
theorem reach_more {hs hs1 : List Int} {p h : Int} (e : reach1 hs p h = some (some hs1)) (x : Int) : reach1 (hs ++ [x]) p h = some (some (hs1 ++ [x])) := by
  unfold reach1 at e ⊢
  by_cases hc : p ≥ (hs.length : Int)
  · rw [if_pos hc] at e; cases e
  rw [if_neg hc] at e
  rw [if_neg (show ¬ p ≥ ((hs ++ [x]).length : Int) by simp; omega)]
  by_cases h0 : 0 ≤ p
  case neg => rw [if_neg h0] at e; cases e
  rw [if_pos h0] at e ⊢
  rw [rdOf_more h0 (by omega)]
  have hset : (hs ++ [x]).set p.toNat h = hs.set p.toNat h ++ [x] := by
    rw [List.set_append_left _ _ (by omega)]
  rw [hset]
  split at e
  · split at e
    · cases e; rename_i h1 h2; rw [if_pos h1, if_pos h2]
    · cases e
  · cases e; rename_i h1; rw [if_neg h1]
theorem heights_more (x : S56) : ∀ (k : Nat) (l : List S56) (hs r : List Int) (i : Int), l.length ≤ 17592186044416 → hs.length = l.length → 0 ≤ i → cHt.l0 k l hs i = some (r, true) → cHt.l0 (k + 1) (l ++ [x]) (hs ++ [-1]) i = some (r ++ [-1], true) := by
  intro k
  induction k with
  | zero => intro l hs r i _ _ _ h; simp [cHt.l0] at h
  | succ k ih =>
    intro l hs r i hl hlen hi h
    rw [cHt.l0] at h ⊢
    by_cases h1 : i < (l.length : Int)
    case neg =>
      rw [if_neg h1] at h
      cases h
      by_cases h2 : i < ((l ++ [x]).length : Int)
      case neg => rw [if_neg h2]
      rw [if_pos h2, if_pos hi]
      have e : i = (hs.length : Int) := by simp at h2; omega
      rw [rdOf_last e, if_pos (by omega), cHt.l0, if_neg (by simp; unfold wrap64; omega)]
    rw [if_pos h1, if_pos hi] at h
    rw [if_pos (show i < ((l ++ [x]).length : Int) by simp; omega), if_pos hi]
    rw [rdOf_more hi (by omega), rd56_more hi h1]
    have hw : wrap64 (i + 1) = i + 1 := by unfold wrap64; omega
    rw [hw] at h ⊢
    by_cases c1 : rdOf 0 hs i < 0
    · rw [if_pos c1] at h ⊢
      exact ih l hs r (i + 1) hl hlen (by omega) h
    rw [if_neg c1] at h ⊢
    obtain ⟨nm, hnm, h⟩ := Option.bind_eq_some_iff.1 h
    rw [cE.mono _ _ _ _ _ _ _ hnm, Option.bind_some]
    by_cases c2 : rdOf 0 hs i < nm.1
    · rw [if_pos c2] at h; cases h
    rw [if_neg c2] at h ⊢
    by_cases c3 : rdOf 0 hs i > 10000
    · rw [if_pos c3] at h; cases h
    rw [if_neg c3] at h ⊢
    by_cases c4 : (R6 l i).f0 = 21
    · rw [if_pos c4] at h ⊢
      by_cases c5 : rdOf 0 hs i = 1
      · rw [if_pos c5] at h ⊢
        exact ih l hs r (i + 1) hl hlen (by omega) h
      · rw [if_neg c5] at h; cases h
    rw [if_neg c4] at h ⊢
    by_cases c5 : (R6 l i).f0 = 16
    · rw [if_pos c5] at h ⊢
      exact ih l hs r (i + 1) hl hlen (by omega) h
    rw [if_neg c5] at h ⊢
    have on : ∀ hs1 p q, reach1 hs p q = some (some hs1) → hs1.length = l.length := fun hs1 p q e => by rw [reach1_len e]; exact hlen
    by_cases c6 : (R6 l i).f0 = 17
    · rw [if_pos c6] at h ⊢
      obtain ⟨o, ho, h⟩ := Option.bind_eq_some_iff.1 h
      cases o with
      | none => cases h
      | some hs1 =>
        rw [reach_more ho, Option.bind_some]
        exact ih l hs1 r (i + 1) hl (on _ _ _ ho) (by omega) h
    rw [if_neg c6] at h ⊢
    obtain ⟨o, ho, h⟩ := Option.bind_eq_some_iff.1 h
    cases o with
    | none => cases h
    | some hs1 =>
      have key : (if (R6 l i).f0 = 18 ∨ (R6 l i).f0 = 15 ∨ (R6 l i).f0 = 25 then reach1 (hs ++ [-1]) (R6 l i).f1 (wrap64 (rdOf 0 hs i + nm.2)) else some (some (hs ++ [-1]))) = some (some (hs1 ++ [-1])) ∧ hs1.length = l.length := by
        by_cases c7 : (R6 l i).f0 = 18 ∨ (R6 l i).f0 = 15 ∨ (R6 l i).f0 = 25
        · rw [if_pos c7] at ho ⊢
          exact ⟨reach_more ho _, on _ _ _ ho⟩
        · rw [if_neg c7] at ho ⊢
          cases ho
          exact ⟨rfl, hlen⟩
      rw [key.1, Option.bind_some]
      obtain ⟨o2, ho2, h⟩ := Option.bind_eq_some_iff.1 h
      cases o2 with
      | none => cases h
      | some hs2 =>
        simp only [reach_more ho2, Option.bind_some]
        exact ih l hs2 r (i + 1) hl (by rw [reach1_len ho2]; exact key.2) (by omega) h
end Go.Proofs.YtlbcnacfgickcaaGreatDoor.A
