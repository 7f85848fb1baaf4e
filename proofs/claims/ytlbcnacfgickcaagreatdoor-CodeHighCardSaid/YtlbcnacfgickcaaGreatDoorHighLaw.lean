/- The law CodeHigh in plain Lean: its function answers true. -/
import Derived.Test.YtlbcnacfgickcaaGreatDoorTotals2
import Derived.Test.YtlbcnacfgickcaaGreatDoorA32
set_option linter.unusedVariables false
set_option linter.unusedSimpArgs false
namespace Go.Proofs.YtlbcnacfgickcaaGreatDoor.A
open Go.RowKit Go.Proofs.YtlbcnacfgickcaaGreatDoorW.PrintWords Go.Proofs.YtlbcnacfgickcaaGreatDoorW.PrintLast Go.Proofs.YtlbcnacfgickcaaGreatDoorW.PrintMore
theorem Heights_ok {l0 : List S30} {l1 : List S36} (hl0 : l0.length ≤ 140737488351232) (hC : Ev (fun k => code_Check.f k l0 l1) 0) {i : Int} (h0 : 0 ≤ i) (h1 : i < (l0.length : Int)) (hD : Done l0 l1 i) :
    ∃ hs, Ev (fun k => code_Heights.f k l0 l1 i) (hs, 0) ∧ HI (rd_T30 l0 i).f5 hs ((rd_T30 l0 i).f5.length : Int) := by
  obtain ⟨hs, hE, hH⟩ := hD.high
  refine ⟨hs, ?_, hH⟩
  unfold code_Heights.f
  refine Ev.bind hC (Ev.ite_pos rfl ?_)
  have hw : wrap64 ((l0.length : Int) - 1) = (l0.length : Int) - 1 := by unfold wrap64; omega
  rw [hw, inside_eq]
  simp only [Option.bind_some]
  refine Ev.ite_pos (by simp; omega) ?_
  exact Ev.bind hE (Ev.now _)
section
variable {l0 : List S30} {l1 : List S36} (hl0 : l0.length ≤ 140737488351232) (hl1 : l1.length ≤ 140737488351232) (hG0 : ∀ f ∈ l0, G30 f) (hG1 : ∀ x ∈ l1, G36 x)
include hl0 hl1 hG0 hG1
theorem high_ok : ∃ k, colanderlaw19_CodeHigh.f k l0 l1 = some true := by
  obtain ⟨e, hC, hp⟩ := check_spec hl0 hl1 hG0 hG1
  suffices h : Ev (fun k => colanderlaw19_CodeHigh.f k l0 l1) true by exact h.rounds
  unfold colanderlaw19_CodeHigh.f
  refine Ev.bind hC ?_
  by_cases h0 : e = 0
  case neg => exact Ev.ite_neg h0 (by simp only [colanderlaw19_heads.f, Option.bind_some]; exact Ev.now _)
  refine Ev.ite_pos h0 ?_
  subst h0
  obtain ⟨hn, hD⟩ := hp rfl
  suffices loop : ∀ (m : Nat) (i : Int), (l0.length : Int) - i ≤ m → 0 ≤ i → Ev (fun k => colanderlaw19_CodeHigh.l0 k i l0 l1) true by
    exact loop l0.length 0 (by omega) (Int.le_refl _)
  intro m
  induction m with
  | zero =>
    intro i hm hi
    refine Ev.step (fun k => by rw [colanderlaw19_CodeHigh.l0, if_neg (show ¬ i < (l0.length : Int) by omega)]) ?_
    simp only [colanderlaw19_heads.f, Option.bind_some]
    exact Ev.now _
  | succ m ih =>
    intro i hm hi
    by_cases h1 : i < (l0.length : Int)
    case neg =>
      refine Ev.step (fun k => by rw [colanderlaw19_CodeHigh.l0, if_neg h1]) ?_
      simp only [colanderlaw19_heads.f, Option.bind_some]
      exact Ev.now _
    refine Ev.step (fun k => by rw [colanderlaw19_CodeHigh.l0, if_pos h1]) ?_
    obtain ⟨hs, hE, H⟩ := Heights_ok hl0 hC hi h1 (hD i hi h1).2
    refine Ev.bind hE ?_
    have hS := (hD i hi h1).1
    have hlen := H.len
    have hne := hS.ne
    have hG := (G30_at hG0 hi h1).1
    refine Ev.ite_pos hi (Ev.ite_pos rfl (Ev.ite_pos (by rw [hlen]) (Ev.ite_pos (by rw [hlen]; omega) ?_)))
    have hf : (rd hs 0 != 1) = false := by
      have : rd hs 0 = 1 := H.fst
      simp [this]
    simp only [hf]
    refine Ev.step (fun k => by rw [colanderlaw19_CodeHigh.j1, if_neg (by simp)]) ?_
    suffices inner : ∀ (m' : Nat) (j : Int), ((rd_T30 l0 i).f5.length : Int) - j ≤ m' → 0 ≤ j → Ev (fun k => colanderlaw19_CodeHigh.l1 k i hs (rd_T30 l0 i).f5 j l0 l1) true by
      exact inner (rd_T30 l0 i).f5.length 0 (by omega) (Int.le_refl _)
    have tail : ∀ j : Int, ((rd_T30 l0 i).f5.length : Int) ≤ j → Ev (fun k => colanderlaw19_CodeHigh.l1 k i hs (rd_T30 l0 i).f5 j l0 l1) true := by
      intro j hj
      refine Ev.step (fun k => by rw [colanderlaw19_CodeHigh.l1, if_neg (show ¬ j < ((rd_T30 l0 i).f5.length : Int) by omega)]) ?_
      rw [show wrap64 (i + 1) = i + 1 by unfold wrap64; omega]
      exact ih (i + 1) (by omega) (by omega)
    intro m'
    induction m' with
    | zero => exact fun j hm hj => tail j (by omega)
    | succ m' ih' =>
      intro j hm hj
      by_cases h2 : j < ((rd_T30 l0 i).f5.length : Int)
      case neg => exact tail j (by omega)
      have R := H.rng j hj h2
      have F := H.fin j hj h2 h2
      have er : rd hs j = rdOf 0 hs j := rfl
      have j3 : Ev (fun k => colanderlaw19_CodeHigh.j3 k i hs (rd_T30 l0 i).f5 j false l0 l1) true := by
        have on : Ev (fun k => colanderlaw19_CodeHigh.l1 k i hs (rd_T30 l0 i).f5 (wrap64 (j + 1)) l0 l1) true := by
          rw [show wrap64 (j + 1) = j + 1 by unfold wrap64; omega]
          exact ih' (j + 1) (by omega) (by omega)
        refine Ev.step (fun k => by rw [colanderlaw19_CodeHigh.j3, if_neg (by simp), if_pos hj, if_pos (show j < (hs.length : Int) by omega)]) ?_
        by_cases h3 : rd hs j ≥ 0
        case neg => exact Ev.ite_neg h3 on
        refine Ev.ite_pos h3 ?_
        by_cases h4 : wrap64 (j + 1) = ((rd_T30 l0 i).f5.length : Int)
        case neg => exact Ev.ite_neg h4 on
        refine Ev.ite_pos h4 (Ev.ite_pos h2 ?_)
        rw [show wrap64 (j + 1) = j + 1 by unfold wrap64; omega] at h4
        have K := (F h3).2.2 h4
        by_cases k1 : (rd_T56 (rd_T30 l0 i).f5 j).f0 = 21
        · exact Ev.ite_pos k1 on
        refine Ev.ite_neg k1 ?_
        by_cases k2 : (rd_T56 (rd_T30 l0 i).f5 j).f0 = 16
        · exact Ev.ite_pos k2 on
        exact Ev.ite_neg k2 (Ev.ite_pos (by omega) on)
      refine Ev.step (fun k => by rw [colanderlaw19_CodeHigh.l1, if_pos h2, if_pos hj, if_pos (show j < (hs.length : Int) by omega), if_neg (show ¬ rd hs j < -1 by omega)]) ?_
      by_cases h3 : rd hs j ≥ 0
      case neg => exact Ev.ite_neg h3 (Ev.ite_neg (by omega) j3)
      refine Ev.ite_pos h3 ?_
      obtain ⟨F1, F2, _⟩ := F h3
      by_cases k1 : (rd_T56 (rd_T30 l0 i).f5 j).f0 = 21
      · have := F1 k1
        exact Ev.ite_pos k1 (Ev.ite_pos this (Ev.ite_neg (by omega) j3))
      refine Ev.ite_neg k1 ?_
      by_cases k0 : rd hs j = 0
      case neg => exact Ev.ite_neg k0 j3
      refine Ev.ite_pos k0 ?_
      have K := F2 k0
      by_cases k2 : (rd_T56 (rd_T30 l0 i).f5 j).f0 = 10
      · exact Ev.ite_pos k2 j3
      refine Ev.ite_neg k2 ?_
      by_cases k3 : (rd_T56 (rd_T30 l0 i).f5 j).f0 = 17
      · exact Ev.ite_pos k3 j3
      refine Ev.ite_neg k3 ?_
      have k4 : (rd_T56 (rd_T30 l0 i).f5 j).f0 = 16 := by omega
      have : ((rd_T56 (rd_T30 l0 i).f5 j).f0 != 16) = false := by simp [k4]
      simp only [this]
      exact j3
end
end Go.Proofs.YtlbcnacfgickcaaGreatDoor.A
