/- The law CodeMore in plain Lean: its function answers true. -/
import Derived.Test.YtlbcnacfgickcaaGreatDoorMoreLaw
set_option linter.unusedVariables false
set_option linter.unusedSimpArgs false
namespace Go.Proofs.YtlbcnacfgickcaaGreatDoor.A
open Go.RowKit Go.Proofs.YtlbcnacfgickcaaGreatDoorW.PrintWords Go.Proofs.YtlbcnacfgickcaaGreatDoorW.PrintLast Go.Proofs.YtlbcnacfgickcaaGreatDoorW.PrintMore
def cntL : List S30 → Int → Int
  | [], n => n
  | f :: r, n => cntL r (wrap64 (n + (f.f5.length : Int)))
theorem cntL_eq : ∀ (l : List S30) (n : Int), 0 ≤ n → n + ((l.map fun f => f.f5.length).sum : Nat) ≤ 9000000000000000000 → cntL l n = n + ((l.map fun f => f.f5.length).sum : Nat)
  | [], n, _, _ => by simp [cntL]
  | f :: r, n, h0, h1 => by
    simp only [List.map_cons, List.sum_cons, Int.natCast_add] at h1 ⊢
    rw [cntL, show wrap64 (n + (f.f5.length : Int)) = n + (f.f5.length : Int) by unfold wrap64; omega, cntL_eq r _ (by omega) (by omega)]
    omega
def moreF (k : Nat) (l0 : List S30) (l1 : List S36) : Option Bool :=
  (cC.f k l0 l1).bind fun e => if e ≠ 0 then some true else if ¬ (0 < l0.length ∧ l0.length ≤ 20000 ∧ 0 < (R3 l0 0).f5.length ∧ (R3 l0 0).f5.length ≤ 262144) then none else if cntL l0 0 ≥ 262144 then some true else
    (code_Heights.f k (moreL l0) l1 0).bind fun he => (cC.f k (moreL l0) l1).bind fun c =>
      some (c == 0 && (he.2 == 0 && (decide ((he.1.length : Int) > 0) && rd he.1 ((he.1.length : Int) - 1) == -1)))
section
variable {l0 : List S30} {l1 : List S36} (hl0 : l0.length ≤ 140737488351232) (hl1 : l1.length ≤ 140737488351232) (hG0 : ∀ f ∈ l0, G30 f) (hG1 : ∀ x ∈ l1, G36 x)
include hl0 hl1 hG0 hG1
theorem more_ok : ∃ k, moreF k l0 l1 = some true := by
  obtain ⟨e, hC, hp⟩ := check_cond hl0 hl1 hG0 hG1
  suffices h : Ev (fun k => moreF k l0 l1) true by exact h.rounds
  unfold moreF
  refine Ev.bind hC ?_
  by_cases hz : e ≠ 0
  · exact Ev.ite_pos hz (Ev.now _)
  refine Ev.ite_neg hz ?_
  have e0 : e = 0 := by omega
  subst e0
  obtain ⟨C, hD⟩ := hp rfl
  refine Ev.ite_neg (fun h => h ?_) ?_
  · have h1 := C.lo
    have h2 := C.hi
    have h3 := C.sum
    have h4 := sumFrom_step (l0 := l0) (Int.le_refl 0) (by omega)
    have h5 := sumFrom_nonneg l0 (0 + 1)
    have h6 := (hD 0 (Int.le_refl _) (by omega)).1.ne
    omega
  by_cases h0 : cntL l0 0 ≥ 262144
  · exact Ev.ite_pos h0 (Ev.now _)
  refine Ev.ite_neg h0 ?_
  have hsum : cntL l0 0 = sumFrom l0 0 := by
    have := C.sum
    have hs : sumFrom l0 0 = (((l0.map fun f => f.f5.length).sum : Nat) : Int) := by simp [sumFrom]
    rw [cntL_eq l0 0 (Int.le_refl _) (by omega), hs]
    omega
  have hlo := C.lo
  have hb : ∀ i : Int, 0 ≤ i → i < (l0.length : Int) → (R3 l0 i).f5.length < 17592186044416 := fun i a b => by have := (G30_at hG0 a b).1; omega
  have hS : ∀ i : Int, 0 ≤ i → i < (l0.length : Int) → Shp l0 i := fun i a b => (hD i a b).1
  have C' := moreL_cond hb C hS (by omega)
  have hK := check_of hl1 C'
  obtain ⟨hs, hE, hH⟩ := (hD 0 (Int.le_refl _) (by omega)).2.high
  have hE' := heights_first (by omega) (hS 0 (Int.le_refl _) (by omega)).ne (hb 0 (Int.le_refl _) (by omega)) hE
  have hHt : Ev (fun k => code_Heights.f k (moreL l0) l1 0) (hs ++ [-1], 0) := by
    unfold code_Heights.f
    refine Ev.bind hK (Ev.ite_pos rfl ?_)
    have hhi := C.hi
    rw [moreL_length, show wrap64 ((l0.length : Int) - 1) = (l0.length : Int) - 1 by unfold wrap64; omega, inside_eq]
    simp only [Option.bind_some]
    refine Ev.ite_pos (by simp; omega) ?_
    exact Ev.bind hE' (Ev.now _)
  refine Ev.bind hHt (Ev.bind hK ?_)
  have : rd (hs ++ [-1]) (((hs ++ [-1]).length : Int) - 1) = -1 := by
    unfold rd
    simp [List.getD_eq_getElem?_getD]
  rw [this]
  simp only [List.length_append, List.length_singleton]
  refine ⟨0, fun k _ => ?_⟩
  simp
end
end Go.Proofs.YtlbcnacfgickcaaGreatDoor.A
