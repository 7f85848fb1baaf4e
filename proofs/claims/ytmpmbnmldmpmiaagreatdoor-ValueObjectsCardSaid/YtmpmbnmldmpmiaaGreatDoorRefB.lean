/- Texts of this claim, put together. -/
import Derived.Test.YtmpmbnmldmpmiaaGreatDoorRefA
import Derived.Test.YtmpmbnmldmpmiaaGreatDoorCmpA
import Derived.Test.YtmpmbnmldmpmiaaGreatDoorRightK
import Derived.Test.YtmpmbnmldmpmiaaGreatDoorA5
set_option linter.unusedVariables false
set_option linter.unusedSimpArgs false
set_option maxRecDepth 100000
namespace Go.Proofs.YtmpmbnmldmpmiaaGreatDoor.Sim
open Go Go.RowKit Go.Proofs.YtmpmbnmldmpmiaaGreatDoor.A Go.Proofs.YtmpmbnmldmpmiaaGreatDoorW.PrintWords Go.Proofs.YtmpmbnmldmpmiaaGreatDoorW.PrintLast Go.Proofs.YtmpmbnmldmpmiaaGreatDoorW.PrintMore
/-- Keys, sorted. -/
def srt (l : List ByteArray) : List ByteArray := l.mergeSort leB
theorem srt_perm (l : List ByteArray) : (srt l).Perm l := List.mergeSort_perm l leB
theorem srt_sorted (l : List ByteArray) : (srt l).Pairwise fun a b => leB a b = true := List.pairwise_mergeSort leB_trans leB_total l
theorem toList_inj {a b : ByteArray} (h : a.toList = b.toList) : a = b := by
  rw [ByteArray.toList_eq, ByteArray.toList_eq] at h
  exact ByteArray.ext (Array.toList_inj.1 h)
theorem perm_sorted_eq {α : Type} {le : α → α → Bool} (anti : ∀ a b, le a b = true → le b a = true → a = b) : ∀ {l m : List α}, l.Perm m → l.Pairwise (fun a b => le a b = true) → m.Pairwise (fun a b => le a b = true) → l = m
  | [], m, h, _, _ => by rw [List.nil_perm.1 h]
  | a :: l, [], h, _, _ => absurd h.length_eq (by simp)
  | a :: l, b :: m, h, hl, hm => by
    obtain ⟨hl1, hl2⟩ := List.pairwise_cons.1 hl
    obtain ⟨hm1, hm2⟩ := List.pairwise_cons.1 hm
    have hab : a = b := by
      have ha : a ∈ b :: m := h.mem_iff.1 List.mem_cons_self
      have hb : b ∈ a :: l := h.mem_iff.2 List.mem_cons_self
      rcases List.mem_cons.1 ha with e | ha
      · exact e
      · rcases List.mem_cons.1 hb with e | hb
        · exact e.symm
        · exact anti a b (hl1 b hb) (hm1 a ha)
    subst hab
    rw [perm_sorted_eq anti (List.perm_cons a |>.1 h) hl2 hm2]
theorem srt_unique {l t : List ByteArray} (h : t.Perm l) (k : t.Pairwise fun a b => leB a b = true) : t = srt l :=
  perm_sorted_eq (fun a b h1 h2 => toList_inj (leB_anti h1 h2)) (h.trans (srt_perm l).symm) k (srt_sorted l)
theorem sorted_gv {v : World} {l : List ByteArray} {A : Option Addr} {c : Nat} (h : Sw v l A c) (hl : l.length ≤ 8796093021952) : Gv Tryz.prog 87 [.slice A l.length c] v fun u v' => ∃ A' c', u = .slice A' (srt l).length c' ∧ Sw v' (srt l) A' c' := by
  obtain ⟨t, ⟨k, hk⟩, hp, hs⟩ := sorted_ev l.length l (Nat.le_refl _) hl
  have ht := srt_unique hp hs
  subst ht
  have hk := hk k (Nat.le_refl _)
  refine Gv.of_made Tryz.func87 (by kernel_rfl) rfl (Rm := fun w w' u => Kd.string.R 9 w' w.heap.size (fun _ => True) u (srt l)) (fun w hw => ?_) fun w w' v' u hr hj => ?_
  · refine (colanderref03_Sorted.calls k A c l _ w ((h.up hw).1) h.2 hk).mono ?_
    rintro e w' ⟨u, rfl, hr, hb⟩
    exact ⟨u, rfl, hr, hb⟩
  · obtain ⟨A', c', e, h1, h2⟩ := R_news hr hj
    exact ⟨A', c', e, h2, h1⟩
theorem keysRef_gv {v : World} {x : S27} {u : Value} (h : Vr v x u) (hl : x.f4.length ≤ 8796093021952) : Gv Tryz.prog 42 [u] v fun u' v' => ∃ A' c', u' = .slice A' (srt x.f4).length c' ∧ Sw v' (srt x.f4) A' c' := by
  obtain ⟨A3, c3, A4, c4, rfl, h3, h4⟩ := h
  refine Gv.run Tryz.func42 (by kernel_rfl) rfl rfl rfl rfl fun b hb => ?_
  subst hb
  first | refine WpB.row (by decide) (by decide) (ev ?_) | refine WpB.seq (WpB.row (by decide) (by decide) (ev ?_)) | refine WpB.seq (WpB.seq (WpB.row (by decide) (by decide) (ev ?_))) | refine WpB.seq (WpB.seq (WpB.seq (WpB.row (by decide) (by decide) (ev ?_))))
  first | refine WpB.row (by decide) (by decide) (evh ?_) | refine WpB.seq (WpB.row (by decide) (by decide) (evh ?_)) | refine WpB.seq (WpB.seq (WpB.row (by decide) (by decide) (evh ?_))) | refine WpB.seq (WpB.seq (WpB.seq (WpB.row (by decide) (by decide) (evh ?_))))
  refine SeqB.callV (by decide) (sorted_gv h4 hl) (by decide) rfl rfl rfl rfl ?_
  rintro u v1 ⟨A', c', rfl, hs⟩ hk
  refine evh ?_
  refine WpB.ret ⟨.inr rfl, evr ?_⟩
  exact ⟨A', c', rfl, hs⟩
end Go.Proofs.YtmpmbnmldmpmiaaGreatDoor.Sim
set_option linter.unusedVariables false
set_option linter.unusedSimpArgs false
set_option maxRecDepth 100000
namespace Go.Proofs.YtmpmbnmldmpmiaaGreatDoor.Sim
open Go Go.RowKit Go.Proofs.YtmpmbnmldmpmiaaGreatDoor.A Go.Proofs.YtmpmbnmldmpmiaaGreatDoorW.PrintWords Go.Proofs.YtmpmbnmldmpmiaaGreatDoorW.PrintLast Go.Proofs.YtmpmbnmldmpmiaaGreatDoorW.PrintMore
end Go.Proofs.YtmpmbnmldmpmiaaGreatDoor.Sim
set_option linter.unusedVariables false
set_option linter.unusedSimpArgs false
set_option maxRecDepth 100000
namespace Go.Proofs.YtmpmbnmldmpmiaaGreatDoor.Sim
open Go Go.RowKit Go.Proofs.YtmpmbnmldmpmiaaGreatDoor.A Go.Proofs.YtmpmbnmldmpmiaaGreatDoorW.PrintWords Go.Proofs.YtmpmbnmldmpmiaaGreatDoorW.PrintLast Go.Proofs.YtmpmbnmldmpmiaaGreatDoorW.PrintMore
end Go.Proofs.YtmpmbnmldmpmiaaGreatDoor.Sim
