/- ref's Right and value's Right say the same. -/
import Derived.Test.YtmpmbnmldmpmiaaGreatDoorRightK
import Derived.Test.YtmpmbnmldmpmiaaGreatDoorA7
import Derived.Test.YtmpmbnmldmpmiaaGreatDoorA26
set_option linter.unusedVariables false
set_option linter.unusedSimpArgs false
namespace Go.Proofs.YtmpmbnmldmpmiaaGreatDoor.A
open Go.RowKit Go.Lib Go.Proofs.YtmpmbnmldmpmiaaGreatDoorW.PrintWords Go.Proofs.YtmpmbnmldmpmiaaGreatDoorW.PrintLast Go.Proofs.YtmpmbnmldmpmiaaGreatDoorW.PrintMore
section
variable {d kd : Int} {nm : Nat} {s : ByteArray} {l : List S27} {ks : List ByteArray} {R : Bool} (hs : s.size ≤ 140737488351232) (hk : ∀ x ∈ ks, x.size ≤ 140737488351232) (hl : ks.length ≤ 8796093021952)
  (hR : Ev (fun k => colanderref03_right.l0 k d 0 kd nm s l ks) R) (hV : Ev (fun k => value_right.l0 k d l (l.length : Int) 0) R)
include hs hk hl hR
theorem r2_ev (b : Bool) : Ev (fun k => colanderref03_right.j2 k d b kd nm s l ks) (if b = true then false else if validD (kd_ s) = true then (if apartB [] ks = true then R else false) else false) := by
  refine Ev.succ ?_
  simp only [colanderref03_right.j2]
  cases b with
  | true => simp only [if_true]; exact Ev.now _
  | false =>
    refine Ev.ite_neg (by simp) (Ev.bind (valid_ev hs) ?_)
    rw [if_neg (by simp)]
    by_cases hv : validD (kd_ s) = true
    · rw [if_pos hv]
      refine Ev.ite_pos hv (Ev.bind (keys_ev ks hk hl) (Ev.succ ?_))
      simp only [colanderref03_right.j3]
      by_cases ha : apartB [] ks = true
      · rw [if_pos ha]
        refine Ev.ite_neg (by simp [ha]) hR
      · rw [if_neg ha]
        exact Ev.ite_pos (by simp at ha; simp [ha]) (Ev.now _)
    · rw [if_neg hv]
      refine Ev.ite_neg hv (Ev.succ ?_)
      simp only [colanderref03_right.j3]
      exact Ev.ite_pos trivial (Ev.now _)
theorem r1_ev (b : Bool) : Ev (fun k => colanderref03_right.j1 k d b kd nm s l ks) (if b = true then false else if (if kd = 6 then ks.length = l.length else ks.length = 0) then (if validD (kd_ s) = true then (if apartB [] ks = true then R else false) else false) else false) := by
  refine Ev.succ ?_
  simp only [colanderref03_right.j1]
  cases b with
  | true => simp only [if_true]; exact Ev.now _
  | false =>
    rw [if_neg (show ¬ (false = true) by simp)]
    refine Ev.ite_neg (by simp) ?_
    by_cases h6 : kd = 6
    · simp only [if_pos h6]
      by_cases he : ks.length = l.length
      · rw [if_pos he]
        have := r2_ev hs hk hl hR (kd := kd) false
        rw [if_neg (by simp)] at this
        exact Ev.ite_pos (by omega) this
      · rw [if_neg he]
        have := r2_ev hs hk hl hR (kd := kd) true
        exact Ev.ite_neg (by omega) this
    · simp only [if_neg h6]
      by_cases he : ks.length = 0
      · rw [if_pos he]
        have := r2_ev hs hk hl hR (kd := kd) false
        rw [if_neg (by simp)] at this
        rw [decide_eq_false (show ¬ ((ks.length : Int) > 0) by omega)]
        exact this
      · rw [if_neg he]
        have := r2_ev hs hk hl hR (kd := kd) true
        rw [decide_eq_true (show ((ks.length : Int) > 0) by omega)]
        exact this
/-- What ref's Right asks. -/
theorem r0_ev (b : Bool) : Ev (fun k => colanderref03_right.j0 k d b kd nm s l ks) (if b = true then false else if kd ≠ 3 ∧ nm ≠ 0 then false else if kd ≠ 4 ∧ s.toList ≠ [] then false else if kd < 5 ∧ 0 < l.length then false else if (if kd = 6 then ks.length = l.length else ks.length = 0) then (if validD (kd_ s) = true then (if apartB [] ks = true then R else false) else false) else false) := by
  have j := fun b => r1_ev hs hk hl hR (kd := kd) b
  generalize hX : (if (if kd = 6 then ks.length = l.length else ks.length = 0) then (if validD (kd_ s) = true then (if apartB [] ks = true then R else false) else false) else false) = X at j ⊢
  have jt : Ev (fun k => colanderref03_right.j1 k d true kd nm s l ks) false := by have := j true; simpa using this
  have jf : Ev (fun k => colanderref03_right.j1 k d false kd nm s l ks) X := by have := j false; simpa using this
  have jd : Ev (fun k => colanderref03_right.j1 k d (decide ((l.length : Int) > 0)) kd nm s l ks) (if 0 < l.length then false else X) := by
    by_cases h : 0 < l.length
    · rw [if_pos h, decide_eq_true (show ((l.length : Int) > 0) by omega)]; exact jt
    · rw [if_neg h, decide_eq_false (show ¬ ((l.length : Int) > 0) by omega)]; exact jf
  clear j hR hX
  refine Ev.succ ?_
  simp only [colanderref03_right.j0, colanderref03_zero.f, Option.bind_some]
  cases b with
  | true => simp only [if_true]; exact Ev.now _
  | false =>
  have hz : (((nm : Int) == 0) = true) ↔ nm = 0 := by simp
  simp only [hz, Bool.false_eq_true, if_false]
  have inner : Ev (fun k => if kd < 5 then colanderref03_right.j1 k d (decide ((l.length : Int) > 0)) kd nm s l ks else colanderref03_right.j1 k d false kd nm s l ks) (if kd < 5 ∧ 0 < l.length then false else X) := by
    by_cases h5 : kd < 5
    · by_cases h6 : 0 < l.length
      · rw [if_pos ⟨h5, h6⟩]
        rw [if_pos h6] at jd
        exact Ev.ite_pos h5 jd
      · rw [if_neg (fun h => h6 h.2)]
        rw [if_neg h6] at jd
        exact Ev.ite_pos h5 jd
    · rw [if_neg (fun h => h5 h.1)]
      exact Ev.ite_neg h5 jf
  have tail : Ev (fun k => if kd = 4 then (if kd < 5 then colanderref03_right.j1 k d (decide ((l.length : Int) > 0)) kd nm s l ks else colanderref03_right.j1 k d false kd nm s l ks) else (if s.toList = ([] : List UInt8) then (if kd < 5 then colanderref03_right.j1 k d (decide ((l.length : Int) > 0)) kd nm s l ks else colanderref03_right.j1 k d false kd nm s l ks) else colanderref03_right.j1 k d true kd nm s l ks)) (if kd ≠ 4 ∧ s.toList ≠ [] then false else if kd < 5 ∧ 0 < l.length then false else X) := by
    by_cases h4 : kd = 4
    · rw [if_neg (fun h => h.1 h4)]
      exact Ev.ite_pos h4 inner
    · by_cases he : s.toList = []
      · rw [if_neg (fun h => h.2 he)]
        exact Ev.ite_neg h4 (Ev.ite_pos he inner)
      · rw [if_pos ⟨h4, he⟩]
        exact Ev.ite_neg h4 (Ev.ite_neg he jt)
  by_cases h3 : kd = 3
  · rw [if_neg (fun h => h.1 h3)]
    exact Ev.ite_pos h3 tail
  · by_cases hn : nm = 0
    · rw [if_neg (fun h => h.2 hn)]
      exact Ev.ite_neg h3 (Ev.ite_pos hn tail)
    · rw [if_pos ⟨h3, hn⟩]
      exact Ev.ite_neg h3 (Ev.ite_neg hn jt)
end
section
variable {d kd : Int} {nm : Nat} {s : ByteArray} {l : List S27} {ks : List ByteArray} {R : Bool} (hs : s.size ≤ 140737488351232) (hk : ∀ x ∈ ks, x.size ≤ 140737488351232) (hl : ks.length ≤ 8796093021952)
  (hV : Ev (fun k => value_right.l0 k d l (l.length : Int) 0) R)
include hV
theorem v2_ev (b : Bool) : Ev (fun k => value_right.j2 k d b kd nm s l ks) (if b = true then false else R) := by
  refine Ev.succ ?_
  simp only [value_right.j2]
  cases b with
  | true => simp only [if_true]; exact Ev.now _
  | false =>
    rw [if_neg (show ¬ (false = true) by simp)]
    exact Ev.ite_neg (by simp) hV
theorem v1_ev : Ev (fun k => value_right.j1 k d kd nm s l ks) (if kd = 5 ∧ 0 < ks.length then false else if nm ≠ 0 then false else if s.toList ≠ [] then false else R) := by
  have jt : Ev (fun k => value_right.j2 k d true kd nm s l ks) false := by have := v2_ev hV (kd := kd) (nm := nm) (s := s) (ks := ks) true; simpa using this
  have jf : Ev (fun k => value_right.j2 k d false kd nm s l ks) R := by have := v2_ev hV (kd := kd) (nm := nm) (s := s) (ks := ks) false; simpa using this
  have hz : (((nm : Int) == 0) = true) ↔ nm = 0 := by simp
  have inner : Ev (fun k => if nm = 0 then value_right.j2 k d (s.toList != ([] : List UInt8)) kd nm s l ks else value_right.j2 k d true kd nm s l ks) (if nm ≠ 0 then false else if s.toList ≠ [] then false else R) := by
    by_cases hn : nm = 0
    · rw [if_neg (fun h => h hn)]
      refine Ev.ite_pos hn ?_
      by_cases he : s.toList = []
      · rw [if_neg (fun h => h he), show (s.toList != ([] : List UInt8)) = false by rw [he]; rfl]
        exact jf
      · rw [if_pos he, show (s.toList != ([] : List UInt8)) = true from bne_iff_ne.2 he]
        exact jt
    · rw [if_pos hn]
      exact Ev.ite_neg hn jt
  refine Ev.succ ?_
  simp only [value_right.j1, value_bare.f, Option.bind_some, hz]
  by_cases h5 : kd = 5
  · refine Ev.ite_pos h5 ?_
    by_cases h0 : 0 < ks.length
    · rw [if_pos ⟨h5, h0⟩]
      exact Ev.ite_pos (by omega) jt
    · rw [if_neg (fun h => h0 h.2)]
      exact Ev.ite_neg (by omega) inner
  · rw [if_neg (fun h => h5 h.1)]
    exact Ev.ite_neg h5 inner
include hs hk hl
theorem v0_ev (b : Bool) : Ev (fun k => value_right.j0 k d kd b kd nm s l ks) (if b = true then (if nm ≠ 0 then false else if s.toList ≠ [] then false else if l.length ≠ 0 then false else decide (ks.length = 0))
    else if kd = 3 then (if s.toList ≠ [] then false else if l.length ≠ 0 then false else decide (ks.length = 0))
    else if kd = 4 then (if nm ≠ 0 then false else if validD (kd_ s) = true then (if l.length ≠ 0 then false else decide (ks.length = 0)) else false)
    else if kd = 6 then (if ks.length = l.length then (if apartB [] ks = true then (if nm ≠ 0 then false else if s.toList ≠ [] then false else R) else false) else false)
    else if kd = 5 then (if 0 < ks.length then false else if nm ≠ 0 then false else if s.toList ≠ [] then false else R) else false) := by
  have hz : (((nm : Int) == 0) = true) ↔ nm = 0 := by simp
  have hsV : runes_Valid.f s = some (validD (kd_ s)) := runes_Valid.f_eq s (by omega)
  have hap : value_apart.f ks = some (apartB [] ks) := by
    unfold value_apart.f
    rw [if_pos ⟨by omega, List.all_eq_true.2 fun x hx => by have := hk x hx; simp; omega⟩]
  have h1 := v1_ev hV (kd := kd) (nm := nm) (s := s) (ks := ks)
  have lz : ((l.length : Int) = 0) ↔ l.length = 0 := by omega
  have kz : ((ks.length : Int) == 0) = decide (ks.length = 0) := by rw [Bool.eq_iff_iff]; simp
  have tl : Ev (fun k => if (l.length : Int) = 0 then some ((ks.length : Int) == 0) else some false) (if l.length ≠ 0 then false else decide (ks.length = 0)) := by
    by_cases h : l.length = 0
    · refine Ev.ite_pos (by omega) ?_
      rw [if_neg (show ¬ (l.length ≠ 0) from fun k => k h), ← kz]
      exact Ev.now _
    · refine Ev.ite_neg (by omega) ?_
      rw [if_pos h]
      exact Ev.now _
  have sl : Ev (fun k => if s.toList = ([] : List UInt8) then (if (l.length : Int) = 0 then some ((ks.length : Int) == 0) else some false) else some false) (if s.toList ≠ [] then false else if l.length ≠ 0 then false else decide (ks.length = 0)) := by
    by_cases h : s.toList = []
    · refine Ev.ite_pos h ?_
      rw [if_neg (show ¬ (s.toList ≠ []) from fun k => k h)]
      exact tl
    · refine Ev.ite_neg h ?_
      rw [if_pos h]
      exact Ev.now _
  refine Ev.succ ?_
  simp only [value_right.j0, value_bare.f, Option.bind_some, hz, hsV, hap]
  cases b with
  | true =>
    refine Ev.ite_pos rfl ?_
    rw [if_pos rfl]
    by_cases hn : nm = 0
    · refine Ev.ite_pos hn ?_
      rw [if_neg (show ¬ (nm ≠ 0) from fun h => h hn)]
      exact sl
    · refine Ev.ite_neg hn ?_
      rw [if_pos hn]
      exact Ev.now _
  | false =>
    refine Ev.ite_neg (by simp) ?_
    rw [if_neg (show ¬ (false = true) by simp)]
    by_cases h3 : kd = 3
    · refine Ev.ite_pos h3 ?_
      rw [if_pos h3]
      exact sl
    refine Ev.ite_neg h3 ?_
    rw [if_neg h3]
    by_cases h4 : kd = 4
    · refine Ev.ite_pos h4 ?_
      rw [if_pos h4]
      by_cases hn : nm = 0
      · refine Ev.ite_pos hn ?_
        rw [if_neg (show ¬ (nm ≠ 0) from fun h => h hn)]
        by_cases hv : validD (kd_ s) = true
        · refine Ev.ite_pos hv ?_
          rw [if_pos hv]
          exact tl
        · refine Ev.ite_neg hv ?_
          rw [if_neg hv]
          exact Ev.now _
      · refine Ev.ite_neg hn ?_
        rw [if_pos hn]
        exact Ev.now _
    refine Ev.ite_neg h4 ?_
    rw [if_neg h4]
    by_cases h6 : kd = 6
    · refine Ev.ite_pos h6 ?_
      rw [if_pos h6]
      by_cases he : ks.length = l.length
      · refine Ev.ite_pos (by omega) ?_
        rw [if_pos he]
        by_cases ha : apartB [] ks = true
        · refine Ev.ite_pos ha ?_
          rw [if_pos ha]
          rw [if_neg (fun h => by have := h.1; omega)] at h1
          exact h1
        · refine Ev.ite_neg ha ?_
          rw [if_neg ha]
          exact Ev.now _
      · refine Ev.ite_neg (by omega) ?_
        rw [if_neg he]
        exact Ev.now _
    refine Ev.ite_neg h6 ?_
    rw [if_neg h6]
    by_cases h5 : kd = 5
    · refine Ev.ite_pos h5 ?_
      rw [if_pos h5]
      by_cases h0 : 0 < ks.length
      · rw [if_pos ⟨h5, h0⟩] at h1
        rw [if_pos h0]
        exact h1
      · rw [if_neg (fun h => h0 h.2)] at h1
        rw [if_neg h0]
        exact h1
    · refine Ev.ite_neg h5 ?_
      rw [if_neg h5]
      exact Ev.now _
end
end Go.Proofs.YtmpmbnmldmpmiaaGreatDoor.A
