/- Texts of this claim, put together. -/
import Derived.Test.YtmpmbnmldmpmiaaGreatDoorRefA
import Derived.Test.YtmpmbnmldmpmiaaGreatDoorCmpA
import Derived.Test.YtmpmbnmldmpmiaaGreatDoorRightK
import Derived.Test.YtmpmbnmldmpmiaaGreatDoorA5
set_option linter.unusedVariables false
set_option linter.unusedSimpArgs false
set_option maxRecDepth 100000
namespace Go.Proofs.YtmpmbnmldmpmiaaGreatDoor.Sim
open Go Go.RowKit Go.Proofs.YtmpmbnmldmpmiaaGreatDoor.A Go.Proofs.YtmpmbnmldmpmiaaGreatDoorW.PrintWords Go.Proofs.YtmpmbnmldmpmiaaGreatDoorW.PrintLast Go.Proofs.YtmpmbnmldmpmiaaGreatDoorW.PrintMore
/-- Keys, sorted. -/
def srt (l : List ByteArray) : List ByteArray := l.mergeSort leB
theorem srt_perm (l : List ByteArray) : (srt l).Perm l := List.mergeSort_perm l leB
theorem srt_sorted (l : List ByteArray) : (srt l).Pairwise fun a b => leB a b = true := List.pairwise_mergeSort leB_trans leB_total l
theorem toList_inj {a b : ByteArray} (h : a.toList = b.toList) : a = b := by
  rw [ByteArray.toList_eq, ByteArray.toList_eq] at h
  exact ByteArray.ext (Array.toList_inj.1 h)
theorem perm_sorted_eq {α : Type} {le : α → α → Bool} (anti : ∀ a b, le a b = true → le b a = true → a = b) : ∀ {l m : List α}, l.Perm m → l.Pairwise (fun a b => le a b = true) → m.Pairwise (fun a b => le a b = true) → l = m
  | [], m, h, _, _ => by rw [List.nil_perm.1 h]
  | a :: l, [], h, _, _ => absurd h.length_eq (by simp)
  | a :: l, b :: m, h, hl, hm => by
    obtain ⟨hl1, hl2⟩ := List.pairwise_cons.1 hl
    obtain ⟨hm1, hm2⟩ := List.pairwise_cons.1 hm
    have hab : a = b := by
      have ha : a ∈ b :: m := h.mem_iff.1 List.mem_cons_self
      have hb : b ∈ a :: l := h.mem_iff.2 List.mem_cons_self
      rcases List.mem_cons.1 ha with e | ha
      · exact e
      · rcases List.mem_cons.1 hb with e | hb
        · exact e.symm
        · exact anti a b (hl1 b hb) (hm1 a ha)
    subst hab
    rw [perm_sorted_eq anti (List.perm_cons a |>.1 h) hl2 hm2]
theorem srt_unique {l t : List ByteArray} (h : t.Perm l) (k : t.Pairwise fun a b => leB a b = true) : t = srt l :=
  perm_sorted_eq (fun a b h1 h2 => toList_inj (leB_anti h1 h2)) (h.trans (srt_perm l).symm) k (srt_sorted l)
theorem sorted_gv {v : World} {l : List ByteArray} {A : Option Addr} {c : Nat} (h : Sw v l A c) (hl : l.length ≤ 8796093021952) : Gv Tryz.prog 87 [.slice A l.length c] v fun u v' => ∃ A' c', u = .slice A' (srt l).length c' ∧ Sw v' (srt l) A' c' := by
  obtain ⟨t, ⟨k, hk⟩, hp, hs⟩ := sorted_ev l.length l (Nat.le_refl _) hl
  have ht := srt_unique hp hs
  subst ht
  have hk := hk k (Nat.le_refl _)
  refine Gv.of_made Tryz.func87 (by kernel_rfl) rfl (Rm := fun w w' u => Kd.string.R 9 w' w.heap.size (fun _ => True) u (srt l)) (fun w hw => ?_) fun w w' v' u hr hj => ?_
  · refine (colanderref03_Sorted.calls k A c l _ w ((h.up hw).1) h.2 hk).mono ?_
    rintro e w' ⟨u, rfl, hr, hb⟩
    exact ⟨u, rfl, hr, hb⟩
  · obtain ⟨A', c', e, h1, h2⟩ := R_news hr hj
    exact ⟨A', c', e, h2, h1⟩
theorem keysRef_gv {v : World} {x : S27} {u : Value} (h : Vr v x u) (hl : x.f4.length ≤ 8796093021952) : Gv Tryz.prog 42 [u] v fun u' v' => ∃ A' c', u' = .slice A' (srt x.f4).length c' ∧ Sw v' (srt x.f4) A' c' := by
  obtain ⟨A3, c3, A4, c4, rfl, h3, h4⟩ := h
  refine Gv.run Tryz.func42 (by kernel_rfl) rfl rfl rfl rfl fun b hb => ?_
  subst hb
  first | refine WpB.row (by decide) (by decide) (ev ?_) | refine WpB.seq (WpB.row (by decide) (by decide) (ev ?_)) | refine WpB.seq (WpB.seq (WpB.row (by decide) (by decide) (ev ?_))) | refine WpB.seq (WpB.seq (WpB.seq (WpB.row (by decide) (by decide) (ev ?_))))
  first | refine WpB.row (by decide) (by decide) (evh ?_) | refine WpB.seq (WpB.row (by decide) (by decide) (evh ?_)) | refine WpB.seq (WpB.seq (WpB.row (by decide) (by decide) (evh ?_))) | refine WpB.seq (WpB.seq (WpB.seq (WpB.row (by decide) (by decide) (evh ?_))))
  refine SeqB.callV (by decide) (sorted_gv h4 hl) (by decide) rfl rfl rfl rfl ?_
  rintro u v1 ⟨A', c', rfl, hs⟩ hk
  refine evh ?_
  refine WpB.ret ⟨.inr rfl, evr ?_⟩
  exact ⟨A', c', rfl, hs⟩
/-- From place i on so many things more; z: what comes behind them. -/
def seqL (f : Nat → Option Int) (z : Int) : Nat → Nat → Option Int
  | 0, _ => some z
  | k + 1, i => (f i).bind fun c => if c = 0 then seqL f z k (i + 1) else some c
def listsV (f : S27 → S27 → Option Int) (l m : List S27) : Option Int := seqL (fun i => (l[i]?).bind fun x => (m[i]?).bind fun y => f x y) (signL (decide ((l.length : Int) < m.length)) (decide ((l.length : Int) > m.length))) (min l.length m.length) 0
set_option maxHeartbeats 1000000 in
theorem lists_gv {v : World} {f : S27 → S27 → Option Int} {l m : List S27} {r : Int} (hr : listsV f l m = some r) {A B : Option Addr} {c d : Nat} (hl : Rw v l A c) (hm : Rw v m B d)
    (ih : ∀ x y r, f x y = some r → ∀ (v : World) (ux uy : Value), Vr v x ux → Vr v y uy → Gv Tryz.prog 21 [ux, uy] v fun u _ => u = .int .i64 r) : Gv Tryz.prog 70 [.slice A l.length c, .slice B m.length d] v fun u _ => u = .int .i64 r := by
  refine Gv.run Tryz.func70 (by kernel_rfl) rfl rfl rfl rfl fun b hb => ?_
  subst hb
  unfold listsV at hr
  have q1 : min l.length m.length ≤ l.length := Nat.min_le_left _ _
  have q2 : min l.length m.length ≤ m.length := Nat.min_le_right _ _
  have hmax := hl.1.2.1
  first | refine WpB.row (by decide) (by decide) (ev ?_) | refine WpB.seq (WpB.row (by decide) (by decide) (ev ?_)) | refine WpB.seq (WpB.seq (WpB.row (by decide) (by decide) (ev ?_))) | refine WpB.seq (WpB.seq (WpB.seq (WpB.row (by decide) (by decide) (ev ?_))))
  first | refine WpB.row (by decide) (by decide) (ev ?_) | refine WpB.seq (WpB.row (by decide) (by decide) (ev ?_)) | refine WpB.seq (WpB.seq (WpB.row (by decide) (by decide) (ev ?_))) | refine WpB.seq (WpB.seq (WpB.seq (WpB.row (by decide) (by decide) (ev ?_))))
  first | refine WpB.block ?_ | refine WpB.seq (WpB.block ?_) | refine WpB.seq (WpB.seq (WpB.block ?_)) | refine WpB.seq (WpB.seq (WpB.seq (WpB.block ?_)))
  refine WpB.loop (fun k b' F S => ∃ (i : Nat), b' = b ∧ S = ⟨[], 0, 0⟩ ∧ F 0 = .s (.slice A l.length c) ∧ F 1 = .s (.slice B m.length d) ∧ F 5 = .s (.int .i64 (i : Int)) ∧ i ≤ min l.length m.length ∧ k = min l.length m.length - i ∧ seqL (fun i => (l[i]?).bind fun x => (m[i]?).bind fun y => f x y) (signL (decide ((l.length : Int) < m.length)) (decide ((l.length : Int) > m.length))) (min l.length m.length - i) i = some r) (min l.length m.length) ⟨0, rfl, rfl, rfl, rfl, rfl, Nat.zero_le _, rfl, hr⟩ ?_
  generalize hM : min l.length m.length = M at q1 q2
  rintro k b' F S ⟨i, rfl, rfl, f0, f1, f5, hi, rfl, hrr⟩
  by_cases hlt : i < M
  · have g0 : (0 : Int) ≤ (i : Int) := by omega
    have g1 : (i : Int) < (l.length : Int) := by omega
    have g2 : (i : Int) < (m.length : Int) := by omega
    have d7 : IntKind.i64.wrap ((i : Int) + 1) = ((i + 1 : Nat) : Int) := by rw [IntKind.wrap_i64]; omega
    obtain ⟨k, off, cs, P3, p3, P4, p4, rfl, hw, hx, r3, r4⟩ := hl.get (show i < l.length by omega)
    obtain ⟨k2, off2, cs2, Q3, q3, Q4, q4, rfl, hw2, hx2, s3, s4⟩ := hm.get (show i < m.length by omega)
    obtain ⟨M', hM'⟩ : ∃ M', M - i = M' + 1 := ⟨M - i - 1, by omega⟩
    have hM2 : M' = M - (i + 1) := by omega
    rw [hM', seqL] at hrr
    obtain ⟨z, hz, hrest⟩ := Option.bind_eq_some_iff.1 hrr
    rw [List.getElem?_eq_getElem (by omega), List.getElem?_eq_getElem (by omega)] at hz
    have hcall := ih _ _ _ hz b'.v _ _ ⟨_, _, _, _, rfl, r3, r4⟩ ⟨_, _, _, _, rfl, s3, s4⟩
    first | refine WpB.row (by decide) (by decide) (evh ?_) | refine WpB.seq (WpB.row (by decide) (by decide) (evh ?_)) | refine WpB.seq (WpB.seq (WpB.row (by decide) (by decide) (evh ?_))) | refine WpB.seq (WpB.seq (WpB.seq (WpB.row (by decide) (by decide) (evh ?_))))
    first | refine WpB.cond (by decide) rfl (fun _ => WpB.skip ?_) (fun e => by cases e) | refine WpB.seq (WpB.cond (by decide) rfl (fun _ => WpB.skip ?_) (fun e => by cases e)) | refine WpB.seq (WpB.seq (WpB.cond (by decide) rfl (fun _ => WpB.skip ?_) (fun e => by cases e))) | refine WpB.seq (WpB.seq (WpB.seq (WpB.cond (by decide) rfl (fun _ => WpB.skip ?_) (fun e => by cases e))))
    first | refine WpB.block ?_ | refine WpB.seq (WpB.block ?_) | refine WpB.seq (WpB.seq (WpB.block ?_)) | refine WpB.seq (WpB.seq (WpB.seq (WpB.block ?_)))
    first | refine WpB.draw (by kernel_rfl) (by decide) [0, 1, 2, 3, 4, 5, 6, 7, 8, 9] (by kernel_rfl) (by kernel_rfl) (by kernel_rfl) (by kernel_rfl) (by kernel_rfl) rfl (evh ?_) | refine WpB.seq (WpB.draw (by kernel_rfl) (by decide) [0, 1, 2, 3, 4, 5, 6, 7, 8, 9] (by kernel_rfl) (by kernel_rfl) (by kernel_rfl) (by kernel_rfl) (by kernel_rfl) rfl (evh ?_)) | refine WpB.seq (WpB.seq (WpB.draw (by kernel_rfl) (by decide) [0, 1, 2, 3, 4, 5, 6, 7, 8, 9] (by kernel_rfl) (by kernel_rfl) (by kernel_rfl) (by kernel_rfl) (by kernel_rfl) rfl (evh ?_))) | refine WpB.seq (WpB.seq (WpB.seq (WpB.draw (by kernel_rfl) (by decide) [0, 1, 2, 3, 4, 5, 6, 7, 8, 9] (by kernel_rfl) (by kernel_rfl) (by kernel_rfl) (by kernel_rfl) (by kernel_rfl) rfl (evh ?_))))
    refine ⟨_, _, _, _, rfl, CallB.of_ok (Gv.okx (hcall) _), ?_⟩
    rintro b2 u ⟨rfl, rfl⟩
    refine evh ?_
    by_cases hz0 : z = 0
    · subst hz0
      rw [if_pos rfl] at hrest
      first | refine WpB.row (by decide) (by decide) (evh ?_) | refine WpB.seq (WpB.row (by decide) (by decide) (evh ?_)) | refine WpB.seq (WpB.seq (WpB.row (by decide) (by decide) (evh ?_))) | refine WpB.seq (WpB.seq (WpB.seq (WpB.row (by decide) (by decide) (evh ?_))))
      first | refine WpB.cond (by decide) rfl (fun e => by cases e) (fun _ => WpB.skip ?_) | refine WpB.seq (WpB.cond (by decide) rfl (fun e => by cases e) (fun _ => WpB.skip ?_)) | refine WpB.seq (WpB.seq (WpB.cond (by decide) rfl (fun e => by cases e) (fun _ => WpB.skip ?_))) | refine WpB.seq (WpB.seq (WpB.seq (WpB.cond (by decide) rfl (fun e => by cases e) (fun _ => WpB.skip ?_))))
      first | refine WpB.row (by decide) (by decide) (evh ?_) | refine WpB.seq (WpB.row (by decide) (by decide) (evh ?_)) | refine WpB.seq (WpB.seq (WpB.row (by decide) (by decide) (evh ?_))) | refine WpB.seq (WpB.seq (WpB.seq (WpB.row (by decide) (by decide) (evh ?_))))
      exact ⟨M - (i + 1), by omega, i + 1, rfl, rfl, f0, f1, by rw [← d7]; rfl, hlt, rfl, by rw [← hM2]; exact hrest⟩
    · have q9 : (z != 0) = true := by simpa using hz0
      rw [if_neg hz0] at hrest
      have hzr : z = r := by injection hrest
      subst hzr
      first | refine WpB.row (by decide) (by decide) (evh ?_) | refine WpB.seq (WpB.row (by decide) (by decide) (evh ?_)) | refine WpB.seq (WpB.seq (WpB.row (by decide) (by decide) (evh ?_))) | refine WpB.seq (WpB.seq (WpB.seq (WpB.row (by decide) (by decide) (evh ?_))))
      first | refine WpB.cond (by decide) rfl (fun _ => ?_) (fun e => by cases e) | refine WpB.seq (WpB.cond (by decide) rfl (fun _ => ?_) (fun e => by cases e)) | refine WpB.seq (WpB.seq (WpB.cond (by decide) rfl (fun _ => ?_) (fun e => by cases e))) | refine WpB.seq (WpB.seq (WpB.seq (WpB.cond (by decide) rfl (fun _ => ?_) (fun e => by cases e))))
      first | refine WpB.row (by decide) (by decide) (evh ?_) | refine WpB.seq (WpB.row (by decide) (by decide) (evh ?_)) | refine WpB.seq (WpB.seq (WpB.row (by decide) (by decide) (evh ?_))) | refine WpB.seq (WpB.seq (WpB.seq (WpB.row (by decide) (by decide) (evh ?_))))
      refine WpB.ret ⟨.inr rfl, evr ?_⟩
      trivial
  · have g3 : ¬ ((i : Int) < (l.length : Int) ∧ (i : Int) < (m.length : Int)) := by omega
    have hz : M - i = 0 := by omega
    rw [hz, seqL] at hrr
    have hrr : signL (decide ((l.length : Int) < m.length)) (decide ((l.length : Int) > m.length)) = r := by injection hrr
    by_cases g4 : (i : Int) < (l.length : Int)
    · have g5 : ¬ (i : Int) < (m.length : Int) := by omega
      first | refine WpB.row (by decide) (by decide) (evh ?_) | refine WpB.seq (WpB.row (by decide) (by decide) (evh ?_)) | refine WpB.seq (WpB.seq (WpB.row (by decide) (by decide) (evh ?_))) | refine WpB.seq (WpB.seq (WpB.seq (WpB.row (by decide) (by decide) (evh ?_))))
      first | refine WpB.cond (by decide) rfl (fun e => by first | (cases e; done) | exact absurd (of_decide_eq_true e) g5) (fun _ => WpB.exit ?_) | refine WpB.seq (WpB.cond (by decide) rfl (fun e => by first | (cases e; done) | exact absurd (of_decide_eq_true e) g5) (fun _ => WpB.exit ?_)) | refine WpB.seq (WpB.seq (WpB.cond (by decide) rfl (fun e => by first | (cases e; done) | exact absurd (of_decide_eq_true e) g5) (fun _ => WpB.exit ?_))) | refine WpB.seq (WpB.seq (WpB.seq (WpB.cond (by decide) rfl (fun e => by first | (cases e; done) | exact absurd (of_decide_eq_true e) g5) (fun _ => WpB.exit ?_))))
      first | refine WpB.row (by decide) (by decide) (evh ?_) | refine WpB.seq (WpB.row (by decide) (by decide) (evh ?_)) | refine WpB.seq (WpB.seq (WpB.row (by decide) (by decide) (evh ?_))) | refine WpB.seq (WpB.seq (WpB.seq (WpB.row (by decide) (by decide) (evh ?_))))
      refine SeqB.callQ (by decide) ((sign_gv _ _ _).okx _) (by decide) rfl rfl rfl rfl ?_
      rintro u S' ⟨rfl, rfl⟩ _
      refine evh ?_
      refine WpB.ret ⟨.inr rfl, evr ?_⟩
      trivial
    · first | refine WpB.row (by decide) (by decide) (evh ?_) | refine WpB.seq (WpB.row (by decide) (by decide) (evh ?_)) | refine WpB.seq (WpB.seq (WpB.row (by decide) (by decide) (evh ?_))) | refine WpB.seq (WpB.seq (WpB.seq (WpB.row (by decide) (by decide) (evh ?_))))
      first | refine WpB.cond (by decide) rfl (fun e => by first | (cases e; done) | exact absurd (of_decide_eq_true e) g4) (fun _ => WpB.exit ?_) | refine WpB.seq (WpB.cond (by decide) rfl (fun e => by first | (cases e; done) | exact absurd (of_decide_eq_true e) g4) (fun _ => WpB.exit ?_)) | refine WpB.seq (WpB.seq (WpB.cond (by decide) rfl (fun e => by first | (cases e; done) | exact absurd (of_decide_eq_true e) g4) (fun _ => WpB.exit ?_))) | refine WpB.seq (WpB.seq (WpB.seq (WpB.cond (by decide) rfl (fun e => by first | (cases e; done) | exact absurd (of_decide_eq_true e) g4) (fun _ => WpB.exit ?_))))
      first | refine WpB.row (by decide) (by decide) (evh ?_) | refine WpB.seq (WpB.row (by decide) (by decide) (evh ?_)) | refine WpB.seq (WpB.seq (WpB.row (by decide) (by decide) (evh ?_))) | refine WpB.seq (WpB.seq (WpB.seq (WpB.row (by decide) (by decide) (evh ?_))))
      refine SeqB.callQ (by decide) ((sign_gv _ _ _).okx _) (by decide) rfl rfl rfl rfl ?_
      rintro u S' ⟨rfl, rfl⟩ _
      refine evh ?_
      refine WpB.ret ⟨.inr rfl, evr ?_⟩
      trivial
end Go.Proofs.YtmpmbnmldmpmiaaGreatDoor.Sim
set_option linter.unusedVariables false
set_option linter.unusedSimpArgs false
set_option maxRecDepth 100000
namespace Go.Proofs.YtmpmbnmldmpmiaaGreatDoor.Sim
open Go Go.RowKit Go.Proofs.YtmpmbnmldmpmiaaGreatDoor.A Go.Proofs.YtmpmbnmldmpmiaaGreatDoorW.PrintWords Go.Proofs.YtmpmbnmldmpmiaaGreatDoorW.PrintLast Go.Proofs.YtmpmbnmldmpmiaaGreatDoorW.PrintMore
def byKeysL (x : S27) : List S27 := (srt x.f4).map fun k => (getL x k).1
theorem roomV {n : Nat} (h : n ≤ 1759218604390) : roomOk 80 n = true := by
  unfold roomOk
  rw [Bool.and_eq_true]
  exact ⟨Nat.ble_eq_true_of_le (by omega), Nat.ble_eq_true_of_le (by omega)⟩
set_option maxHeartbeats 2000000 in
theorem byKeys_gv {v : World} {x : S27} {u : Value} (h : Vr v x u) (hl : x.f4.length ≤ x.f3.length) (hl4 : x.f4.length ≤ 1759218604390) : Gv Tryz.prog 72 [u] v fun u' v' => ∃ A' c', u' = .slice A' (byKeysL x).length c' ∧ Rw v' (byKeysL x) A' c' := by
  have hkeys := keysRef_gv h (by omega)
  have hget := fun key => fun (v' : World) (hk : Known v v') => getRef_ex (h.up hk) hl key
  obtain ⟨A3, c3, A4, c4, rfl, h3, h4⟩ := h
  have hsl : Hide ((srt x.f4).length = x.f4.length) := ⟨(srt_perm x.f4).length_eq⟩
  refine Gv.run Tryz.func72 (by kernel_rfl) rfl rfl rfl rfl fun b hb => ?_
  subst hb
  first | refine WpB.row (by decide) (by decide) (ev ?_) | refine WpB.seq (WpB.row (by decide) (by decide) (ev ?_)) | refine WpB.seq (WpB.seq (WpB.row (by decide) (by decide) (ev ?_))) | refine WpB.seq (WpB.seq (WpB.seq (WpB.row (by decide) (by decide) (ev ?_))))
  first | refine WpB.row (by decide) (by decide) (evh ?_) | refine WpB.seq (WpB.row (by decide) (by decide) (evh ?_)) | refine WpB.seq (WpB.seq (WpB.row (by decide) (by decide) (evh ?_))) | refine WpB.seq (WpB.seq (WpB.seq (WpB.row (by decide) (by decide) (evh ?_))))
  refine SeqB.callV (by decide) (hkeys) (by decide) rfl rfl rfl rfl ?_
  rintro u v1 ⟨A', c', rfl, hs⟩ hk
  refine evh ?_
  first | refine WpB.row (by decide) (by decide) (evh ?_) | refine WpB.seq (WpB.row (by decide) (by decide) (evh ?_)) | refine WpB.seq (WpB.seq (WpB.row (by decide) (by decide) (evh ?_))) | refine WpB.seq (WpB.seq (WpB.seq (WpB.row (by decide) (by decide) (evh ?_))))
  first | refine WpB.row (by decide) (by decide) (evh ?_) | refine WpB.seq (WpB.row (by decide) (by decide) (evh ?_)) | refine WpB.seq (WpB.seq (WpB.row (by decide) (by decide) (evh ?_))) | refine WpB.seq (WpB.seq (WpB.seq (WpB.row (by decide) (by decide) (evh ?_))))
  unfold byKeysL
  generalize hL : srt x.f4 = L at hs hsl
  first | refine WpB.block ?_ | refine WpB.seq (WpB.block ?_) | refine WpB.seq (WpB.seq (WpB.block ?_)) | refine WpB.seq (WpB.seq (WpB.seq (WpB.block ?_)))
  refine WpB.loop (fun m b' F S => ∃ (i : Nat) (xs : List Value), b' = ⟨b.w, v1⟩ ∧ F 1 = .ptr 0 0 ∧ F 3 = .s (.slice A' L.length c') ∧ F 5 = .s (.int .i64 (i : Int)) ∧ i ≤ L.length ∧ m = L.length - i ∧ Fl k27 v1 ((L.take i).map fun k => (getL x k).1) xs ∧ ((i = 0 ∧ F 4 = .s (.slice none 0 0) ∧ S = ⟨[(0, .row [.s (.int .i64 x.f0), .s (.float .f64 x.f1), .s (.string x.f2), .s (.slice A3 x.f3.length c3), .s (.slice A4 x.f4.length c4)] 27 none .no)], 1, 0⟩) ∨ (0 < i ∧ ∃ id N, id < N ∧ 0 < id ∧ F 4 = .slc id 0 i none ∧ S = ⟨[(id, .row (xs.map .s) 27 (some 5) .no), (0, .row [.s (.int .i64 x.f0), .s (.float .f64 x.f1), .s (.string x.f2), .s (.slice A3 x.f3.length c3), .s (.slice A4 x.f4.length c4)] 27 none .no)], N, 0⟩))) L.length ⟨0, [], rfl, rfl, rfl, rfl, Nat.zero_le _, rfl, Fl.nil, .inl ⟨rfl, rfl, rfl⟩⟩ ?_
  rintro m b' F S ⟨i, xs, rfl, f1, f3, f5, hi, rfl, hfl, hS⟩
  by_cases hlt : i < L.length
  · obtain ⟨k', off, rfl, x1⟩ := hs.get hlt
    have hmax := hs.1.2.1
    have g0 : (0 : Int) ≤ (i : Int) := by omega
    have g1 : (i : Int) < (L.length : Int) := by omega
    have d7 : IntKind.i64.wrap ((i : Int) + 1) = ((i + 1 : Nat) : Int) := by rw [IntKind.wrap_i64]; omega
    have r0 : roomOk 80 1 = true := by decide
    have r1 : roomOk 80 (i + 1) = true := roomV (by have := hsl.out; omega)
    obtain ⟨uy, ⟨P3, p3, P4, p4, rfl, y3, y4⟩, hcall⟩ := hget L[i] v1 hk
    have hfl2 := hfl.append (Fl.one (Vr.K y3 y4))
    have e2 : ((L.take (i + 1)).map fun k => (getL x k).1) = ((L.take i).map fun k => (getL x k).1) ++ [(getL x L[i]).1] := by
      rw [List.take_succ_eq_append_getElem hlt, List.map_append]
      rfl
    rw [← e2] at hfl2
    clear e2
    generalize (getL x L[i]).1 = y at y3 y4 hfl2 hcall
    generalize (getL x L[i]).2 = ok at hcall
    rcases hS with ⟨hi0, f4, rfl⟩ | ⟨hi0, id, N, hid, hid0, f4, rfl⟩
    · have HI := Hide.mk hi0
      have HF := Hide.mk hfl
      have HF2 := Hide.mk hfl2
      clear hi0 hfl hfl2
      first | refine WpB.row (by decide) (by decide) (evh ?_) | refine WpB.seq (WpB.row (by decide) (by decide) (evh ?_)) | refine WpB.seq (WpB.seq (WpB.row (by decide) (by decide) (evh ?_))) | refine WpB.seq (WpB.seq (WpB.seq (WpB.row (by decide) (by decide) (evh ?_))))
      first | refine WpB.cond (by decide) rfl (fun _ => WpB.skip ?_) (fun e => by first | (cases e; done) | exact absurd g1 (of_decide_eq_false e)) | refine WpB.seq (WpB.cond (by decide) rfl (fun _ => WpB.skip ?_) (fun e => by first | (cases e; done) | exact absurd g1 (of_decide_eq_false e))) | refine WpB.seq (WpB.seq (WpB.cond (by decide) rfl (fun _ => WpB.skip ?_) (fun e => by first | (cases e; done) | exact absurd g1 (of_decide_eq_false e)))) | refine WpB.seq (WpB.seq (WpB.seq (WpB.cond (by decide) rfl (fun _ => WpB.skip ?_) (fun e => by first | (cases e; done) | exact absurd g1 (of_decide_eq_false e)))))
      first | refine WpB.block ?_ | refine WpB.seq (WpB.block ?_) | refine WpB.seq (WpB.seq (WpB.block ?_)) | refine WpB.seq (WpB.seq (WpB.seq (WpB.block ?_)))
      refine WpB.seq (WpB.ofF (WpF.drawE (whole_tab _) (by kernel_rfl) (by decide) (callOne_ok hcall) (ks := [(3, 11), (0, 1)])
        (ds := [[], [], [], [1, 2], [3], [0, 4], [5], [6], [6], [], [9, 7, 5, 0, 1, 2, 3, 4, 5, 6, 7, 9], [8, 10, 0, 1, 2, 3, 4, 5, 6, 7, 8, 9, 10]])
        (ancs := [0, 0, 0, 6, 14, 31, 63, 127, 127, 0, 767, 2047]) (by kernel_rfl) fun hnew => evh ?_))
      first | refine WpB.row (by decide) (by decide) (evh ?_) | refine WpB.seq (WpB.row (by decide) (by decide) (evh ?_)) | refine WpB.seq (WpB.seq (WpB.row (by decide) (by decide) (evh ?_))) | refine WpB.seq (WpB.seq (WpB.seq (WpB.row (by decide) (by decide) (evh ?_))))
      refine WpB.forget (S2 := ⟨[(_, _), (0, .row [.s (.int .i64 x.f0), .s (.float .f64 x.f1), .s (.string x.f2), .s (.slice A3 x.f3.length c3), .s (.slice A4 x.f4.length c4)] 27 none .no)], _, 0⟩) (find_both (by repeat (first | exact find_same | refine find_skip ?_ (find_not (by omega))))) rfl ?_
      first | refine WpB.row (by decide) (by decide) (evh ?_) | refine WpB.seq (WpB.row (by decide) (by decide) (evh ?_)) | refine WpB.seq (WpB.seq (WpB.row (by decide) (by decide) (evh ?_))) | refine WpB.seq (WpB.seq (WpB.seq (WpB.row (by decide) (by decide) (evh ?_))))
      have hi0 := HI.out
      have hfl2 := HF2.out
      have hfl := HF.out
      subst hi0
      have hxs : xs = [] := List.eq_nil_of_length_eq_zero (by have := hfl.1; simpa using this)
      subst hxs
      exact ⟨L.length - 1, by omega, 1, _, rfl, f1, f3, by rw [← d7]; rfl, hlt, rfl, hfl2, .inr ⟨by omega, _, _, Nat.lt_succ_self _, Nat.succ_pos _, rfl, rfl⟩⟩
    · have HF := Hide.mk hfl
      have HF2 := Hide.mk hfl2
      have hxl : xs.length = i * 5 := by have : xs.length = ((L.take i).map fun k => (getL x k).1).length * 5 := hfl.1; rw [this, List.length_map, List.length_take]; congr 1; omega
      clear hfl hfl2
      have htk : (xs.map V.s).take (i * 5) = xs.map V.s := List.take_of_length_le (by rw [List.length_map]; omega)
      have e1 : ¬ N = id := by omega
      have e3 : id < N + 1 := by omega
      have e4 : ¬ id = 0 := by omega
      have e5 : 0 ≤ N := Nat.zero_le _
      have e6 : ¬ 0 = id := by omega
      have e7 : ¬ N ≤ id := by omega
      have e8 : ¬ N ≤ 0 := by omega
      first | refine WpB.row (by decide) (by decide) (evh ?_) | refine WpB.seq (WpB.row (by decide) (by decide) (evh ?_)) | refine WpB.seq (WpB.seq (WpB.row (by decide) (by decide) (evh ?_))) | refine WpB.seq (WpB.seq (WpB.seq (WpB.row (by decide) (by decide) (evh ?_))))
      first | refine WpB.cond (by decide) rfl (fun _ => WpB.skip ?_) (fun e => by first | (cases e; done) | exact absurd g1 (of_decide_eq_false e)) | refine WpB.seq (WpB.cond (by decide) rfl (fun _ => WpB.skip ?_) (fun e => by first | (cases e; done) | exact absurd g1 (of_decide_eq_false e))) | refine WpB.seq (WpB.seq (WpB.cond (by decide) rfl (fun _ => WpB.skip ?_) (fun e => by first | (cases e; done) | exact absurd g1 (of_decide_eq_false e)))) | refine WpB.seq (WpB.seq (WpB.seq (WpB.cond (by decide) rfl (fun _ => WpB.skip ?_) (fun e => by first | (cases e; done) | exact absurd g1 (of_decide_eq_false e)))))
      first | refine WpB.block ?_ | refine WpB.seq (WpB.block ?_) | refine WpB.seq (WpB.seq (WpB.block ?_)) | refine WpB.seq (WpB.seq (WpB.seq (WpB.block ?_)))
      refine WpB.seq (WpB.ofF (WpF.drawE (whole_tab _) (by kernel_rfl) (by decide) (callOne_ok hcall) (ks := [(3, 11), (0, 1)])
        (ds := [[], [], [], [1, 2], [3], [0, 4], [5], [6], [6], [], [9, 7, 5, 0, 1, 2, 3, 4, 5, 6, 7, 9], [8, 10, 0, 1, 2, 3, 4, 5, 6, 7, 8, 9, 10]])
        (ancs := [0, 0, 0, 6, 14, 31, 63, 127, 127, 0, 767, 2047]) (by kernel_rfl) fun hnew => evh ?_))
      first | refine WpB.row (by decide) (by decide) (evh ?_) | refine WpB.seq (WpB.row (by decide) (by decide) (evh ?_)) | refine WpB.seq (WpB.seq (WpB.row (by decide) (by decide) (evh ?_))) | refine WpB.seq (WpB.seq (WpB.seq (WpB.row (by decide) (by decide) (evh ?_))))
      refine WpB.forget (S2 := ⟨[(_, _), (0, .row [.s (.int .i64 x.f0), .s (.float .f64 x.f1), .s (.string x.f2), .s (.slice A3 x.f3.length c3), .s (.slice A4 x.f4.length c4)] 27 none .no)], _, 0⟩) (find_both (by repeat (first | exact find_same | refine find_skip ?_ (find_not (by omega))))) rfl ?_
      first | refine WpB.row (by decide) (by decide) (evh ?_) | refine WpB.seq (WpB.row (by decide) (by decide) (evh ?_)) | refine WpB.seq (WpB.seq (WpB.row (by decide) (by decide) (evh ?_))) | refine WpB.seq (WpB.seq (WpB.seq (WpB.row (by decide) (by decide) (evh ?_))))
      have hfl2 := HF2.out
      exact ⟨L.length - (i + 1), by omega, i + 1, _, rfl, f1, f3, by rw [← d7]; rfl, hlt, rfl, hfl2, .inr ⟨by omega, _, _, Nat.lt_succ_self _, Nat.succ_pos _, rfl, by rw [List.map_append]; rfl⟩⟩
  · have hil : i = L.length := by omega
    have g1 : ¬ ((i : Int) < (L.length : Int)) := by omega
    have hl2 : L.take i = L := List.take_of_length_le (by omega)
    rw [hl2] at hfl
    have HF := Hide.mk hfl
    have HI := Hide.mk hil
    clear hfl hil hl2
    rcases hS with ⟨hi0, f4, rfl⟩ | ⟨hi0, id, N, hid, hid0, f4, rfl⟩
    · have HJ := Hide.mk hi0
      clear hi0
      first | refine WpB.row (by decide) (by decide) (evh ?_) | refine WpB.seq (WpB.row (by decide) (by decide) (evh ?_)) | refine WpB.seq (WpB.seq (WpB.row (by decide) (by decide) (evh ?_))) | refine WpB.seq (WpB.seq (WpB.seq (WpB.row (by decide) (by decide) (evh ?_))))
      first | refine WpB.cond (by decide) rfl (fun e => by first | (cases e; done) | exact absurd (of_decide_eq_true e) g1) (fun _ => WpB.exit ?_) | refine WpB.seq (WpB.cond (by decide) rfl (fun e => by first | (cases e; done) | exact absurd (of_decide_eq_true e) g1) (fun _ => WpB.exit ?_)) | refine WpB.seq (WpB.seq (WpB.cond (by decide) rfl (fun e => by first | (cases e; done) | exact absurd (of_decide_eq_true e) g1) (fun _ => WpB.exit ?_))) | refine WpB.seq (WpB.seq (WpB.seq (WpB.cond (by decide) rfl (fun e => by first | (cases e; done) | exact absurd (of_decide_eq_true e) g1) (fun _ => WpB.exit ?_))))
      first | refine WpB.row (by decide) (by decide) (evh ?_) | refine WpB.seq (WpB.row (by decide) (by decide) (evh ?_)) | refine WpB.seq (WpB.seq (WpB.row (by decide) (by decide) (evh ?_))) | refine WpB.seq (WpB.seq (WpB.seq (WpB.row (by decide) (by decide) (evh ?_))))
      refine WpB.ret ⟨.inr rfl, evr ?_⟩
      have hi0 := HJ.out
      have hil := HI.out
      have : L = [] := List.eq_nil_of_length_eq_zero (by omega)
      subst this
      exact ⟨none, 0, rfl, Rw.nil⟩
    · have e4 : ¬ id = 0 := by omega
      have e6 : ¬ 0 = id := by omega
      first | refine WpB.row (by decide) (by decide) (evh ?_) | refine WpB.seq (WpB.row (by decide) (by decide) (evh ?_)) | refine WpB.seq (WpB.seq (WpB.row (by decide) (by decide) (evh ?_))) | refine WpB.seq (WpB.seq (WpB.seq (WpB.row (by decide) (by decide) (evh ?_))))
      first | refine WpB.cond (by decide) rfl (fun e => by first | (cases e; done) | exact absurd (of_decide_eq_true e) g1) (fun _ => WpB.exit ?_) | refine WpB.seq (WpB.cond (by decide) rfl (fun e => by first | (cases e; done) | exact absurd (of_decide_eq_true e) g1) (fun _ => WpB.exit ?_)) | refine WpB.seq (WpB.seq (WpB.cond (by decide) rfl (fun e => by first | (cases e; done) | exact absurd (of_decide_eq_true e) g1) (fun _ => WpB.exit ?_))) | refine WpB.seq (WpB.seq (WpB.seq (WpB.cond (by decide) rfl (fun e => by first | (cases e; done) | exact absurd (of_decide_eq_true e) g1) (fun _ => WpB.exit ?_))))
      first | refine WpB.row (by decide) (by decide) (evh ?_) | refine WpB.seq (WpB.row (by decide) (by decide) (evh ?_)) | refine WpB.seq (WpB.seq (WpB.row (by decide) (by decide) (evh ?_))) | refine WpB.seq (WpB.seq (WpB.seq (WpB.row (by decide) (by decide) (evh ?_))))
      refine WpB.freeze id (xs := xs) (by rw [find_cons, if_pos rfl]) fun b2 k cp ys fr hle hblk hcap => ?_
      refine WpB.ret ⟨.inr rfl, evr ?_⟩
      have hil := HI.out
      have hfl := HF.out
      have hcap : xs.length + ys.length = cp * 5 := hcap
      have hxl : xs.length = (L.map fun k => (getL x k).1).length * 5 := hfl.1
      have hlen2 := hsl.out
      refine ⟨some ⟨k, 0, none⟩, cp, by rw [hil]; rfl, (hfl.up k27_up hle.v).rows hblk (by rw [List.length_map]; omega), by omega⟩
end Go.Proofs.YtmpmbnmldmpmiaaGreatDoor.Sim
set_option linter.unusedVariables false
set_option linter.unusedSimpArgs false
set_option maxRecDepth 100000
namespace Go.Proofs.YtmpmbnmldmpmiaaGreatDoor.Sim
open Go Go.RowKit Go.Proofs.YtmpmbnmldmpmiaaGreatDoor.A Go.Proofs.YtmpmbnmldmpmiaaGreatDoorW.PrintWords Go.Proofs.YtmpmbnmldmpmiaaGreatDoorW.PrintLast Go.Proofs.YtmpmbnmldmpmiaaGreatDoorW.PrintMore
/-- The reference's Compare, by so many levels at most. -/
def refV : Nat → S27 → S27 → Option Int
  | 0, _, _ => none
  | k + 1, a, b =>
    if a.f0 ≠ b.f0 then some (signL (decide (a.f0 < b.f0)) true)
    else if a.f0 = 3 then (if fNan a.f1 = true then some (-1) else some (signL (FloatKind.f64.format.order a.f1 b.f1 == some Ordering.lt) (FloatKind.f64.format.order a.f1 b.f1 == some Ordering.gt || fNan b.f1)))
    else if a.f0 = 4 then some (signL (Op.bytesLess a.f2.toList b.f2.toList) (!(Op.bytesLess a.f2.toList b.f2.toList || a.f2.toList == b.f2.toList)))
    else if a.f0 = 5 then listsV (refV k) a.f3 b.f3
    else if a.f0 = 6 then
      (if (a.f4.length ≤ 1759218604390 ∧ b.f4.length ≤ 1759218604390) ∧ (a.f4.length ≤ a.f3.length ∧ b.f4.length ≤ b.f3.length) then
        (listsV (refV k) ((srt a.f4).map strV) ((srt b.f4).map strV)).bind fun c =>
        if c ≠ 0 then some c else listsV (refV k) (byKeysL a) (byKeysL b)
      else none)
    else some 0
set_option maxHeartbeats 4000000 in
theorem ref_gv : ∀ (k : Nat) (x y : S27) (r : Int), refV k x y = some r → ∀ (v : World) (ux uy : Value), Vr v x ux → Vr v y uy → Gv Tryz.prog 21 [ux, uy] v fun u _ => u = .int .i64 r := by
  intro k
  induction k with
  | zero => intro x y r h; cases h
  | succ k ih =>
  intro x y r h v ux uy hx hy
  have kx := fun hl => keysRef_gv (hx) hl
  have ky := fun v' (hk : Known v v') hl => keysRef_gv (hy.up hk) hl
  have bx := fun v' (hk : Known v v') h1 h2 => byKeys_gv (hx.up hk) h1 h2
  have by_ := fun v' (hk : Known v v') h1 h2 => byKeys_gv (hy.up hk) h1 h2
  obtain ⟨A3, c3, A4, c4, rfl, h3, h4⟩ := hx
  obtain ⟨B3, d3, B4, d4, rfl, k3, k4⟩ := hy
  rw [refV] at h
  refine Gv.run Tryz.func21 (by kernel_rfl) rfl rfl rfl rfl fun b hb => ?_
  subst hb
  first | refine WpB.row (by decide) (by decide) (ev ?_) | refine WpB.seq (WpB.row (by decide) (by decide) (ev ?_)) | refine WpB.seq (WpB.seq (WpB.row (by decide) (by decide) (ev ?_))) | refine WpB.seq (WpB.seq (WpB.seq (WpB.row (by decide) (by decide) (ev ?_))))
  by_cases e0 : x.f0 = y.f0
  rotate_left
  · rw [if_pos e0] at h
    cases h
    have q1 : (x.f0 != y.f0) = true := by simpa using e0
    clear e0
    first | refine WpB.row (by decide) (by decide) (evh ?_) | refine WpB.seq (WpB.row (by decide) (by decide) (evh ?_)) | refine WpB.seq (WpB.seq (WpB.row (by decide) (by decide) (evh ?_))) | refine WpB.seq (WpB.seq (WpB.seq (WpB.row (by decide) (by decide) (evh ?_))))
    first | refine WpB.cond (by decide) rfl (fun _ => ?_) (fun e => by cases e) | refine WpB.seq (WpB.cond (by decide) rfl (fun _ => ?_) (fun e => by cases e)) | refine WpB.seq (WpB.seq (WpB.cond (by decide) rfl (fun _ => ?_) (fun e => by cases e))) | refine WpB.seq (WpB.seq (WpB.seq (WpB.cond (by decide) rfl (fun _ => ?_) (fun e => by cases e))))
    first | refine WpB.row (by decide) (by decide) (evh ?_) | refine WpB.seq (WpB.row (by decide) (by decide) (evh ?_)) | refine WpB.seq (WpB.seq (WpB.row (by decide) (by decide) (evh ?_))) | refine WpB.seq (WpB.seq (WpB.seq (WpB.row (by decide) (by decide) (evh ?_))))
    refine SeqB.callQ (by decide) ((sign_gv _ _ _).okx _) (by decide) rfl rfl rfl rfl ?_
    rintro u S' ⟨rfl, rfl⟩ _
    refine evh ?_
    refine WpB.ret ⟨.inr rfl, evr ?_⟩
    trivial
  rw [if_neg (by simpa using e0)] at h
  have q1 : (x.f0 != y.f0) = false := by simpa using e0
  have E0 := Hide.mk e0
  clear e0
  first | refine WpB.row (by decide) (by decide) (evh ?_) | refine WpB.seq (WpB.row (by decide) (by decide) (evh ?_)) | refine WpB.seq (WpB.seq (WpB.row (by decide) (by decide) (evh ?_))) | refine WpB.seq (WpB.seq (WpB.seq (WpB.row (by decide) (by decide) (evh ?_))))
  first | refine WpB.cond (by decide) rfl (fun e => by cases e) (fun _ => WpB.skip ?_) | refine WpB.seq (WpB.cond (by decide) rfl (fun e => by cases e) (fun _ => WpB.skip ?_)) | refine WpB.seq (WpB.seq (WpB.cond (by decide) rfl (fun e => by cases e) (fun _ => WpB.skip ?_))) | refine WpB.seq (WpB.seq (WpB.seq (WpB.cond (by decide) rfl (fun e => by cases e) (fun _ => WpB.skip ?_))))
  first | refine WpB.row (by decide) (by decide) (evh ?_) | refine WpB.seq (WpB.row (by decide) (by decide) (evh ?_)) | refine WpB.seq (WpB.seq (WpB.row (by decide) (by decide) (evh ?_))) | refine WpB.seq (WpB.seq (WpB.seq (WpB.row (by decide) (by decide) (evh ?_))))
  clear q1
  first | refine WpB.block ?_ | refine WpB.seq (WpB.block ?_) | refine WpB.seq (WpB.seq (WpB.block ?_)) | refine WpB.seq (WpB.seq (WpB.seq (WpB.block ?_)))
  by_cases e3 : x.f0 = 3
  · rw [if_pos e3] at h
    have q3 : (x.f0 == 3) = true := by simpa using e3
    clear e3
    first | refine WpB.row (by decide) (by decide) (evh ?_) | refine WpB.seq (WpB.row (by decide) (by decide) (evh ?_)) | refine WpB.seq (WpB.seq (WpB.row (by decide) (by decide) (evh ?_))) | refine WpB.seq (WpB.seq (WpB.seq (WpB.row (by decide) (by decide) (evh ?_))))
    first | refine WpB.cond (by decide) rfl (fun _ => ?_) (fun e => by cases e) | refine WpB.seq (WpB.cond (by decide) rfl (fun _ => ?_) (fun e => by cases e)) | refine WpB.seq (WpB.seq (WpB.cond (by decide) rfl (fun _ => ?_) (fun e => by cases e))) | refine WpB.seq (WpB.seq (WpB.seq (WpB.cond (by decide) rfl (fun _ => ?_) (fun e => by cases e))))
    clear q3
    cases hn : fNan x.f1 with
    | true =>
      rw [hn, if_pos rfl] at h
      cases h
      have hn' : (FloatKind.f64.format.order x.f1 x.f1 == some Ordering.eq) = false := by simpa [fNan] using hn
      first | refine WpB.row (by decide) (by decide) (evh ?_) | refine WpB.seq (WpB.row (by decide) (by decide) (evh ?_)) | refine WpB.seq (WpB.seq (WpB.row (by decide) (by decide) (evh ?_))) | refine WpB.seq (WpB.seq (WpB.seq (WpB.row (by decide) (by decide) (evh ?_))))
      first | refine WpB.cond (by decide) rfl (fun _ => ?_) (fun e => by cases e) | refine WpB.seq (WpB.cond (by decide) rfl (fun _ => ?_) (fun e => by cases e)) | refine WpB.seq (WpB.seq (WpB.cond (by decide) rfl (fun _ => ?_) (fun e => by cases e))) | refine WpB.seq (WpB.seq (WpB.seq (WpB.cond (by decide) rfl (fun _ => ?_) (fun e => by cases e))))
      first | refine WpB.row (by decide) (by decide) (evh ?_) | refine WpB.seq (WpB.row (by decide) (by decide) (evh ?_)) | refine WpB.seq (WpB.seq (WpB.row (by decide) (by decide) (evh ?_))) | refine WpB.seq (WpB.seq (WpB.seq (WpB.row (by decide) (by decide) (evh ?_))))
      refine WpB.ret ⟨.inr rfl, evr ?_⟩
      trivial
    | false =>
      rw [hn, if_neg (by simp)] at h
      have hn' : (FloatKind.f64.format.order x.f1 x.f1 == some Ordering.eq) = true := by simpa [fNan] using hn
      have hy' : (!(FloatKind.f64.format.order y.f1 y.f1 == some Ordering.eq)) = fNan y.f1 := rfl
      first | refine WpB.row (by decide) (by decide) (evh ?_) | refine WpB.seq (WpB.row (by decide) (by decide) (evh ?_)) | refine WpB.seq (WpB.seq (WpB.row (by decide) (by decide) (evh ?_))) | refine WpB.seq (WpB.seq (WpB.seq (WpB.row (by decide) (by decide) (evh ?_))))
      first | refine WpB.cond (by decide) rfl (fun e => by cases e) (fun _ => WpB.skip ?_) | refine WpB.seq (WpB.cond (by decide) rfl (fun e => by cases e) (fun _ => WpB.skip ?_)) | refine WpB.seq (WpB.seq (WpB.cond (by decide) rfl (fun e => by cases e) (fun _ => WpB.skip ?_))) | refine WpB.seq (WpB.seq (WpB.seq (WpB.cond (by decide) rfl (fun e => by cases e) (fun _ => WpB.skip ?_))))
      clear hn'
      cases hg : (FloatKind.f64.format.order x.f1 y.f1 == some Ordering.gt) with
      | true =>
        rw [hg] at h
        first | refine WpB.row (by decide) (by decide) (evh ?_) | refine WpB.seq (WpB.row (by decide) (by decide) (evh ?_)) | refine WpB.seq (WpB.seq (WpB.row (by decide) (by decide) (evh ?_))) | refine WpB.seq (WpB.seq (WpB.seq (WpB.row (by decide) (by decide) (evh ?_))))
        refine SeqB.callQ (by decide) ((sign_gv _ _ _).okx _) (by decide) rfl rfl rfl rfl ?_
        rintro u S' ⟨rfl, rfl⟩ _
        refine evh ?_
        refine WpB.ret ⟨.inr rfl, evr ?_⟩
        simpa using h
      | false =>
        rw [hg] at h
        first | refine WpB.row (by decide) (by decide) (evh ?_) | refine WpB.seq (WpB.row (by decide) (by decide) (evh ?_)) | refine WpB.seq (WpB.seq (WpB.row (by decide) (by decide) (evh ?_))) | refine WpB.seq (WpB.seq (WpB.seq (WpB.row (by decide) (by decide) (evh ?_))))
        refine SeqB.callQ (by decide) ((sign_gv _ _ _).okx _) (by decide) rfl rfl rfl rfl ?_
        rintro u S' ⟨rfl, rfl⟩ _
        refine evh ?_
        refine WpB.ret ⟨.inr rfl, evr ?_⟩
        simpa using h
  rw [if_neg e3] at h
  have q3 : (x.f0 == 3) = false := by simpa using e3
  clear e3
  first | refine WpB.row (by decide) (by decide) (evh ?_) | refine WpB.seq (WpB.row (by decide) (by decide) (evh ?_)) | refine WpB.seq (WpB.seq (WpB.row (by decide) (by decide) (evh ?_))) | refine WpB.seq (WpB.seq (WpB.seq (WpB.row (by decide) (by decide) (evh ?_))))
  first | refine WpB.cond (by decide) rfl (fun e => by cases e) (fun _ => ?_) | refine WpB.seq (WpB.cond (by decide) rfl (fun e => by cases e) (fun _ => ?_)) | refine WpB.seq (WpB.seq (WpB.cond (by decide) rfl (fun e => by cases e) (fun _ => ?_))) | refine WpB.seq (WpB.seq (WpB.seq (WpB.cond (by decide) rfl (fun e => by cases e) (fun _ => ?_))))
  clear q3
  by_cases e4 : x.f0 = 4
  · rw [if_pos e4] at h
    have q3 : (x.f0 == 4) = true := by simpa using e4
    clear e4
    first | refine WpB.row (by decide) (by decide) (evh ?_) | refine WpB.seq (WpB.row (by decide) (by decide) (evh ?_)) | refine WpB.seq (WpB.seq (WpB.row (by decide) (by decide) (evh ?_))) | refine WpB.seq (WpB.seq (WpB.seq (WpB.row (by decide) (by decide) (evh ?_))))
    first | refine WpB.cond (by decide) rfl (fun _ => ?_) (fun e => by cases e) | refine WpB.seq (WpB.cond (by decide) rfl (fun _ => ?_) (fun e => by cases e)) | refine WpB.seq (WpB.seq (WpB.cond (by decide) rfl (fun _ => ?_) (fun e => by cases e))) | refine WpB.seq (WpB.seq (WpB.seq (WpB.cond (by decide) rfl (fun _ => ?_) (fun e => by cases e))))
    first | refine WpB.row (by decide) (by decide) (evh ?_) | refine WpB.seq (WpB.row (by decide) (by decide) (evh ?_)) | refine WpB.seq (WpB.seq (WpB.row (by decide) (by decide) (evh ?_))) | refine WpB.seq (WpB.seq (WpB.seq (WpB.row (by decide) (by decide) (evh ?_))))
    refine SeqB.callQ (by decide) ((sign_gv _ _ _).okx _) (by decide) rfl rfl rfl rfl ?_
    rintro u S' ⟨rfl, rfl⟩ _
    refine evh ?_
    refine WpB.ret ⟨.inr rfl, evr ?_⟩
    simpa using h
  rw [if_neg e4] at h
  have q3 : (x.f0 == 4) = false := by simpa using e4
  clear e4
  first | refine WpB.row (by decide) (by decide) (evh ?_) | refine WpB.seq (WpB.row (by decide) (by decide) (evh ?_)) | refine WpB.seq (WpB.seq (WpB.row (by decide) (by decide) (evh ?_))) | refine WpB.seq (WpB.seq (WpB.seq (WpB.row (by decide) (by decide) (evh ?_))))
  first | refine WpB.cond (by decide) rfl (fun e => by cases e) (fun _ => ?_) | refine WpB.seq (WpB.cond (by decide) rfl (fun e => by cases e) (fun _ => ?_)) | refine WpB.seq (WpB.seq (WpB.cond (by decide) rfl (fun e => by cases e) (fun _ => ?_))) | refine WpB.seq (WpB.seq (WpB.seq (WpB.cond (by decide) rfl (fun e => by cases e) (fun _ => ?_))))
  clear q3
  by_cases e5 : x.f0 = 5
  · rw [if_pos e5] at h
    have q3 : (x.f0 == 5) = true := by simpa using e5
    clear e5
    first | refine WpB.row (by decide) (by decide) (evh ?_) | refine WpB.seq (WpB.row (by decide) (by decide) (evh ?_)) | refine WpB.seq (WpB.seq (WpB.row (by decide) (by decide) (evh ?_))) | refine WpB.seq (WpB.seq (WpB.seq (WpB.row (by decide) (by decide) (evh ?_))))
    first | refine WpB.cond (by decide) rfl (fun _ => ?_) (fun e => by cases e) | refine WpB.seq (WpB.cond (by decide) rfl (fun _ => ?_) (fun e => by cases e)) | refine WpB.seq (WpB.seq (WpB.cond (by decide) rfl (fun _ => ?_) (fun e => by cases e))) | refine WpB.seq (WpB.seq (WpB.seq (WpB.cond (by decide) rfl (fun _ => ?_) (fun e => by cases e))))
    first | refine WpB.row (by decide) (by decide) (evh ?_) | refine WpB.seq (WpB.row (by decide) (by decide) (evh ?_)) | refine WpB.seq (WpB.seq (WpB.row (by decide) (by decide) (evh ?_))) | refine WpB.seq (WpB.seq (WpB.seq (WpB.row (by decide) (by decide) (evh ?_))))
    refine SeqB.callQ (by decide) ((lists_gv h h3 k3 ih).okx _) (by decide) rfl rfl rfl rfl ?_
    rintro u S' ⟨rfl, rfl⟩ _
    refine evh ?_
    refine WpB.ret ⟨.inr rfl, evr ?_⟩
    trivial
  rw [if_neg e5] at h
  have q3 : (x.f0 == 5) = false := by simpa using e5
  clear e5
  first | refine WpB.row (by decide) (by decide) (evh ?_) | refine WpB.seq (WpB.row (by decide) (by decide) (evh ?_)) | refine WpB.seq (WpB.seq (WpB.row (by decide) (by decide) (evh ?_))) | refine WpB.seq (WpB.seq (WpB.seq (WpB.row (by decide) (by decide) (evh ?_))))
  first | refine WpB.cond (by decide) rfl (fun e => by cases e) (fun _ => ?_) | refine WpB.seq (WpB.cond (by decide) rfl (fun e => by cases e) (fun _ => ?_)) | refine WpB.seq (WpB.seq (WpB.cond (by decide) rfl (fun e => by cases e) (fun _ => ?_))) | refine WpB.seq (WpB.seq (WpB.seq (WpB.cond (by decide) rfl (fun e => by cases e) (fun _ => ?_))))
  clear q3
  by_cases e6 : x.f0 = 6
  · rw [if_pos e6] at h
    split at h
    rotate_left
    · cases h
    rename_i hlen
    have hsx : (srt x.f4).length ≤ 1759218604390 := by rw [(srt_perm x.f4).length_eq]; exact hlen.1.1
    have hsy : (srt y.f4).length ≤ 1759218604390 := by rw [(srt_perm y.f4).length_eq]; exact hlen.1.2
    have q3 : (x.f0 == 6) = true := by simpa using e6
    clear e6
    obtain ⟨c0, hc0, hrest⟩ := Option.bind_eq_some_iff.1 h
    first | refine WpB.row (by decide) (by decide) (evh ?_) | refine WpB.seq (WpB.row (by decide) (by decide) (evh ?_)) | refine WpB.seq (WpB.seq (WpB.row (by decide) (by decide) (evh ?_))) | refine WpB.seq (WpB.seq (WpB.seq (WpB.row (by decide) (by decide) (evh ?_))))
    first | refine WpB.cond (by decide) rfl (fun _ => ?_) (fun e => by cases e) | refine WpB.seq (WpB.cond (by decide) rfl (fun _ => ?_) (fun e => by cases e)) | refine WpB.seq (WpB.seq (WpB.cond (by decide) rfl (fun _ => ?_) (fun e => by cases e))) | refine WpB.seq (WpB.seq (WpB.seq (WpB.cond (by decide) rfl (fun _ => ?_) (fun e => by cases e))))
    clear q3
    first | refine WpB.draw (by kernel_rfl) (by decide) [0, 3, 1, 2, 4, 5, 6, 7] (by kernel_rfl) (by kernel_rfl) (by kernel_rfl) (by kernel_rfl) (by kernel_rfl) rfl (evh ?_) | refine WpB.seq (WpB.draw (by kernel_rfl) (by decide) [0, 3, 1, 2, 4, 5, 6, 7] (by kernel_rfl) (by kernel_rfl) (by kernel_rfl) (by kernel_rfl) (by kernel_rfl) rfl (evh ?_)) | refine WpB.seq (WpB.seq (WpB.draw (by kernel_rfl) (by decide) [0, 3, 1, 2, 4, 5, 6, 7] (by kernel_rfl) (by kernel_rfl) (by kernel_rfl) (by kernel_rfl) (by kernel_rfl) rfl (evh ?_))) | refine WpB.seq (WpB.seq (WpB.seq (WpB.draw (by kernel_rfl) (by decide) [0, 3, 1, 2, 4, 5, 6, 7] (by kernel_rfl) (by kernel_rfl) (by kernel_rfl) (by kernel_rfl) (by kernel_rfl) rfl (evh ?_))))
    refine ⟨_, _, _, _, rfl, CallB.of_gv (kx (by omega)), ?_⟩
    rintro b1 u ⟨q, rfl, hw1, hk1, P1, p1, rfl, hs1⟩
    refine evh ?_
    refine ⟨_, _, _, _, rfl, CallB.of_gv (strs_gv hs1 hsx), ?_⟩
    rintro b2 u ⟨q, rfl, hw2, hk2, P2, p2, rfl, hs2⟩
    refine evh ?_
    refine ⟨_, _, _, _, rfl, CallB.of_gv (ky _ (hk1.trans hk2) (by omega)), ?_⟩
    rintro b3 u ⟨q, rfl, hw3, hk3, P3, p3, rfl, hs3⟩
    refine evh ?_
    refine ⟨_, _, _, _, rfl, CallB.of_gv (strs_gv hs3 hsy), ?_⟩
    rintro b4 u ⟨q, rfl, hw4, hk4, P4, p4, rfl, hs4⟩
    refine evh ?_
    have hcall := lists_gv hc0 (hs2.up (hk3.trans hk4)) hs4 ih
    simp only [List.length_map] at hcall
    refine ⟨_, _, _, _, rfl, CallB.of_ok (Gv.okx (hcall) _), ?_⟩
    rintro b5 u ⟨rfl, rfl⟩
    have hkk := hk1.trans (hk2.trans (hk3.trans hk4))
    clear hs1 hs2 hs3 hs4 hcall hk1 hk2 hk3 hk4 hw1 hw2 hw3 hw4
    refine evh ?_
    by_cases hz : c0 = 0
    · subst hz
      rw [if_neg (by simp)] at hrest
      first | refine WpB.row (by decide) (by decide) (evh ?_) | refine WpB.seq (WpB.row (by decide) (by decide) (evh ?_)) | refine WpB.seq (WpB.seq (WpB.row (by decide) (by decide) (evh ?_))) | refine WpB.seq (WpB.seq (WpB.seq (WpB.row (by decide) (by decide) (evh ?_))))
      first | refine WpB.cond (by decide) rfl (fun e => by cases e) (fun _ => WpB.skip ?_) | refine WpB.seq (WpB.cond (by decide) rfl (fun e => by cases e) (fun _ => WpB.skip ?_)) | refine WpB.seq (WpB.seq (WpB.cond (by decide) rfl (fun e => by cases e) (fun _ => WpB.skip ?_))) | refine WpB.seq (WpB.seq (WpB.seq (WpB.cond (by decide) rfl (fun e => by cases e) (fun _ => WpB.skip ?_))))
      first | refine WpB.draw (by kernel_rfl) (by decide) [0, 2, 1, 3, 4, 5] (by kernel_rfl) (by kernel_rfl) (by kernel_rfl) (by kernel_rfl) (by kernel_rfl) rfl (evh ?_) | refine WpB.seq (WpB.draw (by kernel_rfl) (by decide) [0, 2, 1, 3, 4, 5] (by kernel_rfl) (by kernel_rfl) (by kernel_rfl) (by kernel_rfl) (by kernel_rfl) rfl (evh ?_)) | refine WpB.seq (WpB.seq (WpB.draw (by kernel_rfl) (by decide) [0, 2, 1, 3, 4, 5] (by kernel_rfl) (by kernel_rfl) (by kernel_rfl) (by kernel_rfl) (by kernel_rfl) rfl (evh ?_))) | refine WpB.seq (WpB.seq (WpB.seq (WpB.draw (by kernel_rfl) (by decide) [0, 2, 1, 3, 4, 5] (by kernel_rfl) (by kernel_rfl) (by kernel_rfl) (by kernel_rfl) (by kernel_rfl) rfl (evh ?_))))
      refine ⟨_, _, _, _, rfl, CallB.of_gv (bx _ hkk hlen.2.1 hlen.1.1), ?_⟩
      rintro b6 u ⟨q, rfl, hw1, hk1, P1, p1, rfl, hs1⟩
      refine evh ?_
      refine ⟨_, _, _, _, rfl, CallB.of_gv (by_ _ (hkk.trans hk1) hlen.2.2 hlen.1.2), ?_⟩
      rintro b7 u ⟨q, rfl, hw2, hk2, P2, p2, rfl, hs2⟩
      refine evh ?_
      refine ⟨_, _, _, _, rfl, CallB.of_ok (Gv.okx (lists_gv hrest (hs1.up hk2) hs2 ih) _), ?_⟩
      rintro b8 u ⟨rfl, rfl⟩
      refine evh ?_
      refine WpB.ret ⟨.inr rfl, evr ?_⟩
      trivial
    · have q9 : (c0 != 0) = true := by simpa using hz
      rw [if_pos hz] at hrest
      have hcr : c0 = r := by injection hrest
      subst hcr
      first | refine WpB.row (by decide) (by decide) (evh ?_) | refine WpB.seq (WpB.row (by decide) (by decide) (evh ?_)) | refine WpB.seq (WpB.seq (WpB.row (by decide) (by decide) (evh ?_))) | refine WpB.seq (WpB.seq (WpB.seq (WpB.row (by decide) (by decide) (evh ?_))))
      first | refine WpB.cond (by decide) rfl (fun _ => ?_) (fun e => by cases e) | refine WpB.seq (WpB.cond (by decide) rfl (fun _ => ?_) (fun e => by cases e)) | refine WpB.seq (WpB.seq (WpB.cond (by decide) rfl (fun _ => ?_) (fun e => by cases e))) | refine WpB.seq (WpB.seq (WpB.seq (WpB.cond (by decide) rfl (fun _ => ?_) (fun e => by cases e))))
      first | refine WpB.row (by decide) (by decide) (evh ?_) | refine WpB.seq (WpB.row (by decide) (by decide) (evh ?_)) | refine WpB.seq (WpB.seq (WpB.row (by decide) (by decide) (evh ?_))) | refine WpB.seq (WpB.seq (WpB.seq (WpB.row (by decide) (by decide) (evh ?_))))
      refine WpB.ret ⟨.inr rfl, evr ?_⟩
      trivial
  rw [if_neg e6] at h
  have q3 : (x.f0 == 6) = false := by simpa using e6
  clear e6
  first | refine WpB.row (by decide) (by decide) (evh ?_) | refine WpB.seq (WpB.row (by decide) (by decide) (evh ?_)) | refine WpB.seq (WpB.seq (WpB.row (by decide) (by decide) (evh ?_))) | refine WpB.seq (WpB.seq (WpB.seq (WpB.row (by decide) (by decide) (evh ?_))))
  first | refine WpB.cond (by decide) rfl (fun e => by cases e) (fun _ => WpB.skip ?_) | refine WpB.seq (WpB.cond (by decide) rfl (fun e => by cases e) (fun _ => WpB.skip ?_)) | refine WpB.seq (WpB.seq (WpB.cond (by decide) rfl (fun e => by cases e) (fun _ => WpB.skip ?_))) | refine WpB.seq (WpB.seq (WpB.seq (WpB.cond (by decide) rfl (fun e => by cases e) (fun _ => WpB.skip ?_))))
  cases h
  first | refine WpB.row (by decide) (by decide) (evh ?_) | refine WpB.seq (WpB.row (by decide) (by decide) (evh ?_)) | refine WpB.seq (WpB.seq (WpB.row (by decide) (by decide) (evh ?_))) | refine WpB.seq (WpB.seq (WpB.seq (WpB.row (by decide) (by decide) (evh ?_))))
  refine WpB.ret ⟨.inr rfl, evr ?_⟩
  trivial
end Go.Proofs.YtmpmbnmldmpmiaaGreatDoor.Sim
