/- Texts of this claim, put together. -/
import Derived.Test.YtmpmbnmldmpmiaaGreatDoorRefA
import Derived.Test.YtmpmbnmldmpmiaaGreatDoorCmpA
import Derived.Test.YtmpmbnmldmpmiaaGreatDoorRightK
import Derived.Test.YtmpmbnmldmpmiaaGreatDoorA5
set_option linter.unusedVariables false
set_option linter.unusedSimpArgs false
set_option maxRecDepth 100000
namespace Go.Proofs.YtmpmbnmldmpmiaaGreatDoor.Sim
open Go Go.RowKit Go.Proofs.YtmpmbnmldmpmiaaGreatDoor.A Go.Proofs.YtmpmbnmldmpmiaaGreatDoorW.PrintWords Go.Proofs.YtmpmbnmldmpmiaaGreatDoorW.PrintLast Go.Proofs.YtmpmbnmldmpmiaaGreatDoorW.PrintMore
/-- Keys, sorted. -/
def srt (l : List ByteArray) : List ByteArray := l.mergeSort leB
theorem srt_perm (l : List ByteArray) : (srt l).Perm l := List.mergeSort_perm l leB
theorem srt_sorted (l : List ByteArray) : (srt l).Pairwise fun a b => leB a b = true := List.pairwise_mergeSort leB_trans leB_total l
theorem toList_inj {a b : ByteArray} (h : a.toList = b.toList) : a = b := by
  rw [ByteArray.toList_eq, ByteArray.toList_eq] at h
  exact ByteArray.ext (Array.toList_inj.1 h)
theorem perm_sorted_eq {α : Type} {le : α → α → Bool} (anti : ∀ a b, le a b = true → le b a = true → a = b) : ∀ {l m : List α}, l.Perm m → l.Pairwise (fun a b => le a b = true) → m.Pairwise (fun a b => le a b = true) → l = m
  | [], m, h, _, _ => by rw [List.nil_perm.1 h]
  | a :: l, [], h, _, _ => absurd h.length_eq (by simp)
  | a :: l, b :: m, h, hl, hm => by
    obtain ⟨hl1, hl2⟩ := List.pairwise_cons.1 hl
    obtain ⟨hm1, hm2⟩ := List.pairwise_cons.1 hm
    have hab : a = b := by
      have ha : a ∈ b :: m := h.mem_iff.1 List.mem_cons_self
      have hb : b ∈ a :: l := h.mem_iff.2 List.mem_cons_self
      rcases List.mem_cons.1 ha with e | ha
      · exact e
      · rcases List.mem_cons.1 hb with e | hb
        · exact e.symm
        · exact anti a b (hl1 b hb) (hm1 a ha)
    subst hab
    rw [perm_sorted_eq anti (List.perm_cons a |>.1 h) hl2 hm2]
theorem srt_unique {l t : List ByteArray} (h : t.Perm l) (k : t.Pairwise fun a b => leB a b = true) : t = srt l :=
  perm_sorted_eq (fun a b h1 h2 => toList_inj (leB_anti h1 h2)) (h.trans (srt_perm l).symm) k (srt_sorted l)
/-- From place i on so many things more; z: what comes behind them. -/
def seqL (f : Nat → Option Int) (z : Int) : Nat → Nat → Option Int
  | 0, _ => some z
  | k + 1, i => (f i).bind fun c => if c = 0 then seqL f z k (i + 1) else some c
def listsV (f : S27 → S27 → Option Int) (l m : List S27) : Option Int := seqL (fun i => (l[i]?).bind fun x => (m[i]?).bind fun y => f x y) (signL (decide ((l.length : Int) < m.length)) (decide ((l.length : Int) > m.length))) (min l.length m.length) 0
end Go.Proofs.YtmpmbnmldmpmiaaGreatDoor.Sim
set_option linter.unusedVariables false
set_option linter.unusedSimpArgs false
set_option maxRecDepth 100000
namespace Go.Proofs.YtmpmbnmldmpmiaaGreatDoor.Sim
open Go Go.RowKit Go.Proofs.YtmpmbnmldmpmiaaGreatDoor.A Go.Proofs.YtmpmbnmldmpmiaaGreatDoorW.PrintWords Go.Proofs.YtmpmbnmldmpmiaaGreatDoorW.PrintLast Go.Proofs.YtmpmbnmldmpmiaaGreatDoorW.PrintMore
def byKeysL (x : S27) : List S27 := (srt x.f4).map fun k => (getL x k).1
end Go.Proofs.YtmpmbnmldmpmiaaGreatDoor.Sim
set_option linter.unusedVariables false
set_option linter.unusedSimpArgs false
set_option maxRecDepth 100000
namespace Go.Proofs.YtmpmbnmldmpmiaaGreatDoor.Sim
open Go Go.RowKit Go.Proofs.YtmpmbnmldmpmiaaGreatDoor.A Go.Proofs.YtmpmbnmldmpmiaaGreatDoorW.PrintWords Go.Proofs.YtmpmbnmldmpmiaaGreatDoorW.PrintLast Go.Proofs.YtmpmbnmldmpmiaaGreatDoorW.PrintMore
/-- The reference's Compare, by so many levels at most. -/
def refV : Nat → S27 → S27 → Option Int
  | 0, _, _ => none
  | k + 1, a, b =>
    if a.f0 ≠ b.f0 then some (signL (decide (a.f0 < b.f0)) true)
    else if a.f0 = 3 then (if fNan a.f1 = true then some (-1) else some (signL (FloatKind.f64.format.order a.f1 b.f1 == some Ordering.lt) (FloatKind.f64.format.order a.f1 b.f1 == some Ordering.gt || fNan b.f1)))
    else if a.f0 = 4 then some (signL (Op.bytesLess a.f2.toList b.f2.toList) (!(Op.bytesLess a.f2.toList b.f2.toList || a.f2.toList == b.f2.toList)))
    else if a.f0 = 5 then listsV (refV k) a.f3 b.f3
    else if a.f0 = 6 then
      (if (a.f4.length ≤ 1759218604390 ∧ b.f4.length ≤ 1759218604390) ∧ (a.f4.length ≤ a.f3.length ∧ b.f4.length ≤ b.f3.length) then
        (listsV (refV k) ((srt a.f4).map strV) ((srt b.f4).map strV)).bind fun c =>
        if c ≠ 0 then some c else listsV (refV k) (byKeysL a) (byKeysL b)
      else none)
    else some 0
end Go.Proofs.YtmpmbnmldmpmiaaGreatDoor.Sim
