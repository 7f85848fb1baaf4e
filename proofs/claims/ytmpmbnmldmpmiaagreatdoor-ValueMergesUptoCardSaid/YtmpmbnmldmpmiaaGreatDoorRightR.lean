/- ref's Right and value's Right say the same. -/
import Derived.Test.YtmpmbnmldmpmiaaGreatDoorRightK
import Derived.Test.YtmpmbnmldmpmiaaGreatDoorA7
import Derived.Test.YtmpmbnmldmpmiaaGreatDoorA26
set_option linter.unusedVariables false
set_option linter.unusedSimpArgs false
namespace Go.Proofs.YtmpmbnmldmpmiaaGreatDoor.A
open Go.RowKit Go.Lib Go.Proofs.YtmpmbnmldmpmiaaGreatDoorW.PrintWords Go.Proofs.YtmpmbnmldmpmiaaGreatDoorW.PrintLast Go.Proofs.YtmpmbnmldmpmiaaGreatDoorW.PrintMore
section
variable {d kd : Int} {nm : Nat} {s : ByteArray} {l : List S27} {ks : List ByteArray} {R : Bool} (hs : s.size ≤ 140737488351232) (hk : ∀ x ∈ ks, x.size ≤ 140737488351232) (hl : ks.length ≤ 8796093021952)
  (hR : Ev (fun k => colanderref03_right.l0 k d 0 kd nm s l ks) R)
include hs hk hl hR
theorem r2_ev (b : Bool) : Ev (fun k => colanderref03_right.j2 k d b kd nm s l ks) (if b = true then false else if validD (kd_ s) = true then (if apartB [] ks = true then R else false) else false) := by
  refine Ev.succ ?_
  simp only [colanderref03_right.j2]
  cases b with
  | true => simp only [if_true]; exact Ev.now _
  | false =>
    refine Ev.ite_neg (by simp) (Ev.bind (valid_ev hs) ?_)
    rw [if_neg (by simp)]
    by_cases hv : validD (kd_ s) = true
    · rw [if_pos hv]
      refine Ev.ite_pos hv (Ev.bind (keys_ev ks hk hl) (Ev.succ ?_))
      simp only [colanderref03_right.j3]
      by_cases ha : apartB [] ks = true
      · rw [if_pos ha]
        refine Ev.ite_neg (by simp [ha]) hR
      · rw [if_neg ha]
        exact Ev.ite_pos (by simp at ha; simp [ha]) (Ev.now _)
    · rw [if_neg hv]
      refine Ev.ite_neg hv (Ev.succ ?_)
      simp only [colanderref03_right.j3]
      exact Ev.ite_pos trivial (Ev.now _)
theorem r1_ev (b : Bool) : Ev (fun k => colanderref03_right.j1 k d b kd nm s l ks) (if b = true then false else if (if kd = 6 then ks.length = l.length else ks.length = 0) then (if validD (kd_ s) = true then (if apartB [] ks = true then R else false) else false) else false) := by
  refine Ev.succ ?_
  simp only [colanderref03_right.j1]
  cases b with
  | true => simp only [if_true]; exact Ev.now _
  | false =>
    rw [if_neg (show ¬ (false = true) by simp)]
    refine Ev.ite_neg (by simp) ?_
    by_cases h6 : kd = 6
    · simp only [if_pos h6]
      by_cases he : ks.length = l.length
      · rw [if_pos he]
        have := r2_ev hs hk hl hR (kd := kd) false
        rw [if_neg (by simp)] at this
        exact Ev.ite_pos (by omega) this
      · rw [if_neg he]
        have := r2_ev hs hk hl hR (kd := kd) true
        exact Ev.ite_neg (by omega) this
    · simp only [if_neg h6]
      by_cases he : ks.length = 0
      · rw [if_pos he]
        have := r2_ev hs hk hl hR (kd := kd) false
        rw [if_neg (by simp)] at this
        rw [decide_eq_false (show ¬ ((ks.length : Int) > 0) by omega)]
        exact this
      · rw [if_neg he]
        have := r2_ev hs hk hl hR (kd := kd) true
        rw [decide_eq_true (show ((ks.length : Int) > 0) by omega)]
        exact this
/-- What ref's Right asks. -/
theorem r0_ev (b : Bool) : Ev (fun k => colanderref03_right.j0 k d b kd nm s l ks) (if b = true then false else if kd ≠ 3 ∧ nm ≠ 0 then false else if kd ≠ 4 ∧ s.toList ≠ [] then false else if kd < 5 ∧ 0 < l.length then false else if (if kd = 6 then ks.length = l.length else ks.length = 0) then (if validD (kd_ s) = true then (if apartB [] ks = true then R else false) else false) else false) := by
  have j := fun b => r1_ev hs hk hl hR (kd := kd) b
  generalize hX : (if (if kd = 6 then ks.length = l.length else ks.length = 0) then (if validD (kd_ s) = true then (if apartB [] ks = true then R else false) else false) else false) = X at j ⊢
  have jt : Ev (fun k => colanderref03_right.j1 k d true kd nm s l ks) false := by have := j true; simpa using this
  have jf : Ev (fun k => colanderref03_right.j1 k d false kd nm s l ks) X := by have := j false; simpa using this
  have jd : Ev (fun k => colanderref03_right.j1 k d (decide ((l.length : Int) > 0)) kd nm s l ks) (if 0 < l.length then false else X) := by
    by_cases h : 0 < l.length
    · rw [if_pos h, decide_eq_true (show ((l.length : Int) > 0) by omega)]; exact jt
    · rw [if_neg h, decide_eq_false (show ¬ ((l.length : Int) > 0) by omega)]; exact jf
  clear j hR hX
  refine Ev.succ ?_
  simp only [colanderref03_right.j0, colanderref03_zero.f, Option.bind_some]
  cases b with
  | true => simp only [if_true]; exact Ev.now _
  | false =>
  have hz : (((nm : Int) == 0) = true) ↔ nm = 0 := by simp
  simp only [hz, Bool.false_eq_true, if_false]
  have inner : Ev (fun k => if kd < 5 then colanderref03_right.j1 k d (decide ((l.length : Int) > 0)) kd nm s l ks else colanderref03_right.j1 k d false kd nm s l ks) (if kd < 5 ∧ 0 < l.length then false else X) := by
    by_cases h5 : kd < 5
    · by_cases h6 : 0 < l.length
      · rw [if_pos ⟨h5, h6⟩]
        rw [if_pos h6] at jd
        exact Ev.ite_pos h5 jd
      · rw [if_neg (fun h => h6 h.2)]
        rw [if_neg h6] at jd
        exact Ev.ite_pos h5 jd
    · rw [if_neg (fun h => h5 h.1)]
      exact Ev.ite_neg h5 jf
  have tail : Ev (fun k => if kd = 4 then (if kd < 5 then colanderref03_right.j1 k d (decide ((l.length : Int) > 0)) kd nm s l ks else colanderref03_right.j1 k d false kd nm s l ks) else (if s.toList = ([] : List UInt8) then (if kd < 5 then colanderref03_right.j1 k d (decide ((l.length : Int) > 0)) kd nm s l ks else colanderref03_right.j1 k d false kd nm s l ks) else colanderref03_right.j1 k d true kd nm s l ks)) (if kd ≠ 4 ∧ s.toList ≠ [] then false else if kd < 5 ∧ 0 < l.length then false else X) := by
    by_cases h4 : kd = 4
    · rw [if_neg (fun h => h.1 h4)]
      exact Ev.ite_pos h4 inner
    · by_cases he : s.toList = []
      · rw [if_neg (fun h => h.2 he)]
        exact Ev.ite_neg h4 (Ev.ite_pos he inner)
      · rw [if_pos ⟨h4, he⟩]
        exact Ev.ite_neg h4 (Ev.ite_neg he jt)
  by_cases h3 : kd = 3
  · rw [if_neg (fun h => h.1 h3)]
    exact Ev.ite_pos h3 tail
  · by_cases hn : nm = 0
    · rw [if_neg (fun h => h.2 hn)]
      exact Ev.ite_neg h3 (Ev.ite_pos hn tail)
    · rw [if_pos ⟨h3, hn⟩]
      exact Ev.ite_neg h3 (Ev.ite_neg hn jt)
end
end Go.Proofs.YtmpmbnmldmpmiaaGreatDoor.A
