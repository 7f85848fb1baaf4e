/- Texts of this claim, put together. -/
import Derived.Test.YtmpmbnmldmpmiaaGreatDoorRightA
import Derived.Test.YtmpmbnmldmpmiaaGreatDoorA2
import Derived.Test.YtmpmbnmldmpmiaaGreatDoorHandValid
import Derived.Laws.BitsLemmas
set_option linter.unusedVariables false
set_option linter.unusedSimpArgs false
namespace Go.Proofs.YtmpmbnmldmpmiaaGreatDoor.A
open Go.RowKit Go.Lib Go.Proofs.YtmpmbnmldmpmiaaGreatDoorW.PrintWords Go.Proofs.YtmpmbnmldmpmiaaGreatDoorW.PrintLast Go.Proofs.YtmpmbnmldmpmiaaGreatDoorW.PrintMore
theorem and192 : ∀ b : Fin 256, Go.bits .and .u8 ((b.val : Nat) : Int) 192 = ((b.val / 64 * 64 : Nat) : Int) := by decide +kernel
theorem and224 : ∀ b : Fin 256, Go.bits .and .u8 ((b.val : Nat) : Int) 224 = ((b.val / 32 * 32 : Nat) : Int) := by decide +kernel
theorem and240 : ∀ b : Fin 256, Go.bits .and .u8 ((b.val : Nat) : Int) 240 = ((b.val / 16 * 16 : Nat) : Int) := by decide +kernel
theorem and248 : ∀ b : Fin 256, Go.bits .and .u8 ((b.val : Nat) : Int) 248 = ((b.val / 8 * 8 : Nat) : Int) := by decide +kernel
theorem or64 {p b : Nat} (hp : p < 1048576) (hb : b < 64) : Go.bits .or .i64 ((p * 64 : Nat) : Int) ((b : Nat) : Int) = ((p * 64 + b : Nat) : Int) := by
  rw [bits_join .i64 62 (by decide) (fun n h0 h1 => by rw [IntKind.wrap_i64]; omega) 6 _ _ (by omega) (by omega) (by omega) (by omega) (by omega) (by omega)]
  omega
/-- Byte j of a string, from i on. -/
def by_ (s : ByteArray) (i : Nat) : Nat := if h : i < s.size then (s[i]'h).toNat else 0
theorem by_lt (s : ByteArray) (i : Nat) : by_ s i < 256 := by
  unfold by_
  split
  · exact (s[i]).toNat_lt
  · omega
theorem bt_by (s : ByteArray) (i : Nat) : bt s (i : Int) = (by_ s i : Int) := by
  unfold bt by_
  rw [Int.toNat_natCast]
  by_cases h : i < s.size
  · rw [dif_pos h, dif_pos h]
  · rw [dif_neg h, dif_neg h]; rfl
theorem right_f (p : Nat) : colanderref01_Right.f (p : Int) = some (Utf8.valid (p : Int)) := by
  unfold colanderref01_Right.f Utf8.valid
  rw [if_pos (by omega)]
  by_cases h1 : (p : Int) ≤ 1114111
  · rw [if_pos h1]
    by_cases h2 : (p : Int) < 55296
    · rw [if_pos h2]
      refine congrArg some (Eq.symm ?_)
      simp only [Bool.or_eq_true, Bool.and_eq_true, decide_eq_true_eq]
      omega
    · rw [if_neg h2]
      refine congrArg some ?_
      rw [Bool.eq_iff_iff]
      simp only [Bool.or_eq_true, Bool.and_eq_true, decide_eq_true_eq]
      omega
  · rw [if_neg h1]
    refine congrArg some (Eq.symm ?_)
    rw [Bool.eq_false_iff]
    intro h
    simp only [Bool.or_eq_true, Bool.and_eq_true, decide_eq_true_eq] at h
    omega
theorem decode_at (s : ByteArray) (i : Nat) (hi : i < s.size) : decodeL (s.data.toList.drop i) =
    (if by_ s i < 128 then (by_ s i, 1)
    else if by_ s i / 32 = 6 ∧ (i + 1 < s.size ∧ by_ s (i + 1) / 64 = 2) then (if (by_ s i % 32) * 64 + by_ s (i + 1) % 64 ≥ 128 then ((by_ s i % 32) * 64 + by_ s (i + 1) % 64, 2) else (65533, 1))
    else if by_ s i / 16 = 14 ∧ (i + 1 < s.size ∧ by_ s (i + 1) / 64 = 2) ∧ (i + 2 < s.size ∧ by_ s (i + 2) / 64 = 2) then (if (by_ s i % 16) * 4096 + (by_ s (i + 1) % 64) * 64 + by_ s (i + 2) % 64 ≥ 2048 ∧ Utf8.valid (((by_ s i % 16) * 4096 + (by_ s (i + 1) % 64) * 64 + by_ s (i + 2) % 64 : Nat) : Int) = true then ((by_ s i % 16) * 4096 + (by_ s (i + 1) % 64) * 64 + by_ s (i + 2) % 64, 3) else (65533, 1))
    else if by_ s i / 8 = 30 ∧ (i + 1 < s.size ∧ by_ s (i + 1) / 64 = 2) ∧ (i + 2 < s.size ∧ by_ s (i + 2) / 64 = 2) ∧ (i + 3 < s.size ∧ by_ s (i + 3) / 64 = 2) then (if (by_ s i % 8) * 262144 + (by_ s (i + 1) % 64) * 4096 + (by_ s (i + 2) % 64) * 64 + by_ s (i + 3) % 64 ≥ 65536 ∧ Utf8.valid (((by_ s i % 8) * 262144 + (by_ s (i + 1) % 64) * 4096 + (by_ s (i + 2) % 64) * 64 + by_ s (i + 3) % 64 : Nat) : Int) = true then ((by_ s i % 8) * 262144 + (by_ s (i + 1) % 64) * 4096 + (by_ s (i + 2) % 64) * 64 + by_ s (i + 3) % 64, 4) else (65533, 1))
    else (65533, 1)) := by
  have hg : ∀ k, ((⟨(s.data.toList.drop i).toArray⟩ : ByteArray).get! (0 + k)).toNat = by_ s (i + k) := by
    intro k
    rw [Nat.zero_add]
    show ((s.data.toList.drop i).toArray[k]!).toNat = _
    unfold by_
    by_cases h : i + k < s.size
    · rw [dif_pos h]
      have h' : k < (s.data.toList.drop i).toArray.size := by
        have : s.data.size = s.size := rfl
        simp [this]
        omega
      rw [getElem!_pos (s.data.toList.drop i).toArray k h']
      simp
      rfl
    · rw [dif_neg h]
      have h' : ¬ k < (s.data.toList.drop i).toArray.size := by
        have : s.data.size = s.size := rfl
        simp [this]
        omega
      rw [getElem!_neg (s.data.toList.drop i).toArray k h']
      rfl
  have hg0 := hg 0
  rw [Nat.zero_add, Nat.add_zero] at hg0
  have hc : ∀ k, (0 + k < (⟨(s.data.toList.drop i).toArray⟩ : ByteArray).size) ↔ i + k < s.size := by
    intro k
    show 0 + k < (s.data.toList.drop i).toArray.size ↔ _
    have : s.data.size = s.size := rfl
    simp [this]
    omega
  unfold decodeL Utf8.decode
  simp only [hg, hg0, hc, Nat.add_zero, Utf8.runeError, Bool.and_eq_true, decide_eq_true_eq, beq_iff_eq, and_assoc]
theorem more_f (s : ByteArray) (i : Nat) : colanderref01_more.f (bt s (i : Int)) = some (decide (by_ s i / 64 = 2)) := by
  unfold colanderref01_more.f
  rw [bt_by, and192 ⟨by_ s i, by_lt s i⟩]
  refine congrArg some ?_
  rw [Bool.eq_iff_iff, beq_iff_eq, decide_eq_true_eq]
  show ((by_ s i / 64 * 64 : Nat) : Int) = 128 ↔ _
  omega
section
variable {s : ByteArray} (hs : s.size ≤ 140737488351232) {i n j p least : Nat}
include hs
theorem at_ij (h : i + j < s.size) : wrap64 ((i : Int) + (j : Int)) = ((i + j : Nat) : Int) := by unfold wrap64; omega
theorem step_ok {r : Int × Int × Bool} (hn : n ≤ 4) (hj : j < n) (h : i + j < s.size) (hb : by_ s (i + j) / 64 = 2) (hp : p < 1048576) (k : Ev (fun k => colanderref01_piece.l0 k s (i : Int) (n : Int) ((p * 64 + by_ s (i + j) % 64 : Nat) : Int) (least : Int) ((j + 1 : Nat) : Int)) r) :
    Ev (fun k => colanderref01_piece.l0 k s (i : Int) (n : Int) (p : Int) (least : Int) (j : Int)) r := by
  refine Ev.succ ?_
  simp only [colanderref01_piece.l0]
  rw [at_ij hs h]
  refine Ev.ite_pos (by omega) (Ev.ite_pos (by omega) (Ev.ite_pos (by omega) ?_))
  rw [more_f]
  simp only [Option.bind_some, hb, decide_true]
  refine Ev.ite_pos trivial ?_
  have e1 : wrap64 ((p : Int) * 64) = ((p * 64 : Nat) : Int) := by unfold wrap64; omega
  have e2 : wrap64 (Go.bits .and .u8 (bt s ((i + j : Nat) : Int)) 63) = ((by_ s (i + j) % 64 : Nat) : Int) := by
    have := by_lt s (i + j)
    rw [bt_by, u8_and63 _ (by omega) (by omega)]
    unfold wrap64
    omega
  have e3 : wrap64 ((j : Int) + 1) = ((j + 1 : Nat) : Int) := by unfold wrap64; omega
  rw [e1, e2, e3, or64 hp (Nat.mod_lt _ (by omega))]
  exact k
theorem step_bad (hn : n ≤ 4) (hj : j < n) (h : i + j < s.size) (hb : ¬ by_ s (i + j) / 64 = 2) :
    Ev (fun k => colanderref01_piece.l0 k s (i : Int) (n : Int) (p : Int) (least : Int) (j : Int)) (65533, 1, false) := by
  refine Ev.succ ?_
  simp only [colanderref01_piece.l0]
  rw [at_ij hs h]
  refine Ev.ite_pos (by omega) (Ev.ite_pos (by omega) (Ev.ite_pos (by omega) ?_))
  rw [more_f]
  simp only [Option.bind_some, decide_eq_false hb]
  exact Ev.ite_neg (by simp) (Ev.now _)
omit hs in
set_option maxRecDepth 100000 in
theorem step_end (hs : s.size ≤ 140737488351232) (hj : ¬ j < n) : Ev (fun k => colanderref01_piece.l0 k s (i : Int) (n : Int) (p : Int) (least : Int) (j : Int)) (if p < least then (65533, 1, false) else if Utf8.valid (p : Int) = true then ((p : Int), (n : Int), true) else (65533, 1, false)) := by
  refine Ev.succ ?_
  simp only [colanderref01_piece.l0]
  refine Ev.ite_neg (by omega) ?_
  by_cases h : p < least
  · rw [if_pos h]
    exact Ev.ite_pos (by omega) (Ev.now _)
  · rw [if_neg h]
    refine Ev.ite_neg (by omega) ?_
    rw [right_f]
    simp only [Option.bind_some]
    by_cases hv : Utf8.valid (p : Int) = true
    · simp only [if_pos hv]
      exact Ev.now _
    · simp only [if_neg hv]
      exact Ev.now _
omit hs in
theorem j0_bad (hs : s.size ≤ 140737488351232) (hn : n ≤ 4) (hi : i < s.size) (h : s.size < i + n) : Ev (fun k => colanderref01_piece.j0 k s (i : Int) (n : Int) (p : Int) (least : Int)) (65533, 1, false) := by
  refine Ev.succ ?_
  simp only [colanderref01_piece.j0]
  have e : wrap64 ((s.size : Int) - (i : Int)) = (s.size : Int) - (i : Int) := by unfold wrap64; omega
  rw [e]
  exact Ev.ite_pos (by omega) (Ev.now _)
theorem j0_go {r : Int × Int × Bool} (hn : n ≤ 4) (hi : i < s.size) (h : i + n ≤ s.size) (k : Ev (fun k => colanderref01_piece.l0 k s (i : Int) (n : Int) (p : Int) (least : Int) ((1 : Nat) : Int)) r) : Ev (fun k => colanderref01_piece.j0 k s (i : Int) (n : Int) (p : Int) (least : Int)) r := by
  refine Ev.succ ?_
  simp only [colanderref01_piece.j0]
  have e : wrap64 ((s.size : Int) - (i : Int)) = (s.size : Int) - (i : Int) := by unfold wrap64; omega
  rw [e]
  exact Ev.ite_neg (by omega) k
/-- What a piece and a decoded rune have to do with each other. -/
def Pieces (q : Int × Int × Bool) (d : Nat × Nat) : Prop := (q.2.2 = true → q.2.1 = (d.2 : Int) ∧ ¬(d.1 = 65533 ∧ d.2 = 1) ∧ 0 < d.2) ∧ (q.2.2 = false → d.1 = 65533 ∧ d.2 = 1)
omit hs in
theorem pieces_bad : Pieces (65533, 1, false) (65533, 1) := ⟨fun h => (by cases h), fun _ => ⟨rfl, rfl⟩⟩
omit hs in
theorem pieces_one {b : Nat} {q : Int} (hb : b < 128) : Pieces (q, 1, true) (b, 1) := ⟨fun _ => ⟨rfl, fun h => (by have : b = 65533 := h.1; omega), Nat.one_pos⟩, fun h => (by cases h)⟩
omit hs in
theorem pieces_ok {p n : Nat} (hn : 2 ≤ n) : Pieces ((p : Int), (n : Int), true) (p, n) := ⟨fun _ => ⟨rfl, fun h => absurd h.2 (by show ¬ n = 1; omega), by show 0 < n; omega⟩, fun h => (by cases h)⟩
end
end Go.Proofs.YtmpmbnmldmpmiaaGreatDoor.A
set_option linter.unusedVariables false
set_option linter.unusedSimpArgs false
namespace Go.Proofs.YtmpmbnmldmpmiaaGreatDoor.A
open Go.RowKit Go.Lib Go.Proofs.YtmpmbnmldmpmiaaGreatDoorW.PrintWords Go.Proofs.YtmpmbnmldmpmiaaGreatDoorW.PrintLast Go.Proofs.YtmpmbnmldmpmiaaGreatDoorW.PrintMore
theorem w31_by {b : Nat} (hb : b < 256) : wrap64 (Go.bits .and .u8 (b : Int) 31) = ((b % 32 : Nat) : Int) := by
  rw [u8_and31 _ (by omega) (by omega)]
  unfold wrap64
  omega
theorem w15_by {b : Nat} (hb : b < 256) : wrap64 (Go.bits .and .u8 (b : Int) 15) = ((b % 16 : Nat) : Int) := by
  rw [u8_and15 _ (by omega) (by omega)]
  unfold wrap64
  omega
theorem w7_by {b : Nat} (hb : b < 256) : wrap64 (Go.bits .and .u8 (b : Int) 7) = ((b % 8 : Nat) : Int) := by
  rw [u8_and7 _ (by omega) (by omega)]
  unfold wrap64
  omega
section
variable {s : ByteArray} (hs : s.size ≤ 140737488351232) {i n j p least : Nat}
include hs
theorem piece_ev (hi : i < s.size) : ∃ q, Ev (fun k => colanderref01_piece.f k s (i : Int)) q ∧ Pieces q (decodeL (s.data.toList.drop i)) := by
  have hb := by_lt s i
  have hbt := bt_by s i
  have m224 := and224 ⟨by_ s i, hb⟩
  have m240 := and240 ⟨by_ s i, hb⟩
  have m248 := and248 ⟨by_ s i, hb⟩
  simp only at m224 m240 m248
  have w31 := w31_by hb
  have w15 := w15_by hb
  have w7 := w7_by hb
  unfold colanderref01_piece.f
  simp only [hbt, m224, m240, m248, w31, w15, w7]
  clear hbt m224 m240 m248 w31 w15 w7
  rw [decode_at s i hi]
  by_cases c0 : by_ s i < 128
  · rw [if_pos c0]
    exact ⟨(wrap64 ((by_ s i : Nat) : Int), 1, true), Ev.ite_pos (by omega) (Ev.ite_pos (by omega) (Ev.ite_pos (by omega) (Ev.now _))), pieces_one c0⟩
  rw [if_neg c0]
  have pre : ∀ {g : Nat → Option (Int × Int × Bool)} {d : Nat × Nat}, (∃ q, Ev g q ∧ Pieces q d) → ∃ q, Ev (fun k => if 0 ≤ (i : Int) then (if (i : Int) < (s.size : Int) then (if ((by_ s i : Nat) : Int) < 128 then (some (wrap64 ((by_ s i : Nat) : Int), 1, true)) else g k) else none) else none) q ∧ Pieces q d := by
    rintro g d ⟨q, h1, h2⟩
    exact ⟨q, Ev.ite_pos (by omega) (Ev.ite_pos (by omega) (Ev.ite_neg (by omega) h1)), h2⟩
  refine pre ?_
  by_cases c2 : by_ s i / 32 = 6
  · have hc : ((by_ s i / 32 * 32 : Nat) : Int) = 192 := by omega
    by_cases k1 : i + 1 < s.size ∧ by_ s (i + 1) / 64 = 2
    · rw [if_pos ⟨c2, k1⟩]
      refine ⟨_, Ev.ite_pos hc (j0_go hs (n := 2) (by omega) hi (by omega) (step_ok hs (n := 2) (j := 1) (by omega) (by omega) k1.1 k1.2 (by omega) (step_end hs (n := 2) (least := 128) (by omega)))), ?_⟩
      generalize hP : by_ s i % 32 * 64 + by_ s (i + 1) % 64 = p
      have hv : Utf8.valid (p : Int) = true := by
        unfold Utf8.valid
        simp only [Bool.or_eq_true, Bool.and_eq_true, decide_eq_true_eq]
        omega
      by_cases hl : p < 128
      · rw [if_pos hl, if_neg (by omega)]
        exact pieces_bad
      · rw [if_neg hl, if_pos hv, if_pos (by omega)]
        exact pieces_ok (by omega)
    · rw [if_neg (fun h => k1 h.2), if_neg (by omega), if_neg (by omega)]
      refine ⟨(65533, 1, false), Ev.ite_pos hc ?_, pieces_bad⟩
      by_cases k0 : i + 1 < s.size
      · exact j0_go hs (n := 2) (least := 128) (by omega) hi (by omega) (step_bad hs (n := 2) (j := 1) (by omega) (by omega) k0 (by omega))
      · exact j0_bad hs (n := 2) (least := 128) (by omega) hi (by omega)
  by_cases c3 : by_ s i / 16 = 14
  · have hn2 : ¬ ((by_ s i / 32 * 32 : Nat) : Int) = 192 := by omega
    have hc : ((by_ s i / 16 * 16 : Nat) : Int) = 224 := by omega
    rw [if_neg (fun h => c2 h.1)]
    by_cases k3 : (i + 1 < s.size ∧ by_ s (i + 1) / 64 = 2) ∧ (i + 2 < s.size ∧ by_ s (i + 2) / 64 = 2)
    · rw [if_pos ⟨c3, k3⟩]
      refine ⟨_, Ev.ite_neg hn2 (Ev.ite_pos hc (j0_go hs (n := 3) (by omega) hi (by omega) (step_ok hs (n := 3) (j := 1) (by omega) (by omega) k3.1.1 k3.1.2 (by omega) (step_ok hs (n := 3) (j := 2) (by omega) (by omega) k3.2.1 k3.2.2 (by omega) (step_end hs (n := 3) (least := 2048) (by omega)))))), ?_⟩
      rw [show (by_ s i % 16 * 64 + by_ s (i + 1) % 64) * 64 + by_ s (i + 2) % 64 = by_ s i % 16 * 4096 + by_ s (i + 1) % 64 * 64 + by_ s (i + 2) % 64 by omega]
      generalize by_ s i % 16 * 4096 + by_ s (i + 1) % 64 * 64 + by_ s (i + 2) % 64 = p
      by_cases hl : p < 2048
      · rw [if_pos hl, if_neg (fun h => by have := h.1; omega)]
        exact pieces_bad
      · rw [if_neg hl]
        by_cases hv : Utf8.valid (p : Int) = true
        · rw [if_pos hv, if_pos ⟨by omega, hv⟩]
          exact pieces_ok (by omega)
        · rw [if_neg hv, if_neg (fun h => hv h.2)]
          exact pieces_bad
    · rw [if_neg (fun h => k3 h.2), if_neg (by omega)]
      refine ⟨(65533, 1, false), Ev.ite_neg hn2 (Ev.ite_pos hc ?_), pieces_bad⟩
      by_cases k0 : i + 3 ≤ s.size
      · refine j0_go hs (n := 3) (least := 2048) (by omega) hi k0 ?_
        by_cases b1 : by_ s (i + 1) / 64 = 2
        · exact step_ok hs (n := 3) (j := 1) (by omega) (by omega) (by omega) b1 (by omega) (step_bad hs (n := 3) (j := 2) (by omega) (by omega) (by omega) (by omega))
        · exact step_bad hs (n := 3) (j := 1) (by omega) (by omega) (by omega) b1
      · exact j0_bad hs (n := 3) (least := 2048) (by omega) hi (by omega)
  have hn2 : ¬ ((by_ s i / 32 * 32 : Nat) : Int) = 192 := by omega
  have hn3 : ¬ ((by_ s i / 16 * 16 : Nat) : Int) = 224 := by omega
  rw [if_neg (fun h => c2 h.1), if_neg (fun h => c3 h.1)]
  by_cases c4 : by_ s i / 8 = 30
  · have hc : ((by_ s i / 8 * 8 : Nat) : Int) = 240 := by omega
    by_cases k4 : (i + 1 < s.size ∧ by_ s (i + 1) / 64 = 2) ∧ (i + 2 < s.size ∧ by_ s (i + 2) / 64 = 2) ∧ (i + 3 < s.size ∧ by_ s (i + 3) / 64 = 2)
    · rw [if_pos ⟨c4, k4⟩]
      refine ⟨_, Ev.ite_neg hn2 (Ev.ite_neg hn3 (Ev.ite_pos hc (j0_go hs (n := 4) (by omega) hi (by omega) (step_ok hs (n := 4) (j := 1) (by omega) (by omega) k4.1.1 k4.1.2 (by omega) (step_ok hs (n := 4) (j := 2) (by omega) (by omega) k4.2.1.1 k4.2.1.2 (by omega) (step_ok hs (n := 4) (j := 3) (by omega) (by omega) k4.2.2.1 k4.2.2.2 (by omega) (step_end hs (n := 4) (least := 65536) (by omega)))))))), ?_⟩
      rw [show ((by_ s i % 8 * 64 + by_ s (i + 1) % 64) * 64 + by_ s (i + 2) % 64) * 64 + by_ s (i + 3) % 64 = by_ s i % 8 * 262144 + by_ s (i + 1) % 64 * 4096 + by_ s (i + 2) % 64 * 64 + by_ s (i + 3) % 64 by omega]
      generalize by_ s i % 8 * 262144 + by_ s (i + 1) % 64 * 4096 + by_ s (i + 2) % 64 * 64 + by_ s (i + 3) % 64 = p
      by_cases hl : p < 65536
      · rw [if_pos hl, if_neg (fun h => by have := h.1; omega)]
        exact pieces_bad
      · rw [if_neg hl]
        by_cases hv : Utf8.valid (p : Int) = true
        · rw [if_pos hv, if_pos ⟨by omega, hv⟩]
          exact pieces_ok (by omega)
        · rw [if_neg hv, if_neg (fun h => hv h.2)]
          exact pieces_bad
    · rw [if_neg (fun h => k4 h.2)]
      refine ⟨(65533, 1, false), Ev.ite_neg hn2 (Ev.ite_neg hn3 (Ev.ite_pos hc ?_)), pieces_bad⟩
      by_cases k0 : i + 4 ≤ s.size
      · refine j0_go hs (n := 4) (least := 65536) (by omega) hi k0 ?_
        by_cases b1 : by_ s (i + 1) / 64 = 2
        · refine step_ok hs (n := 4) (j := 1) (by omega) (by omega) (by omega) b1 (by omega) ?_
          by_cases b2 : by_ s (i + 2) / 64 = 2
          · exact step_ok hs (n := 4) (j := 2) (by omega) (by omega) (by omega) b2 (by omega) (step_bad hs (n := 4) (j := 3) (by omega) (by omega) (by omega) (by omega))
          · exact step_bad hs (n := 4) (j := 2) (by omega) (by omega) (by omega) b2
        · exact step_bad hs (n := 4) (j := 1) (by omega) (by omega) (by omega) b1
      · exact j0_bad hs (n := 4) (least := 65536) (by omega) hi (by omega)
  have hn4 : ¬ ((by_ s i / 8 * 8 : Nat) : Int) = 240 := by omega
  rw [if_neg (fun h => c4 h.1)]
  exact ⟨(65533, 1, false), Ev.ite_neg hn2 (Ev.ite_neg hn3 (Ev.ite_neg hn4 (Ev.now _))), pieces_bad⟩
omit hs in
theorem decode_le (hi : i < s.size) : i + (decodeL (s.data.toList.drop i)).2 ≤ s.size := by
  rw [decode_at s i hi]
  repeat' split
  all_goals (show i + _ ≤ s.size)
  all_goals omega
theorem valid_go : ∀ (n i : Nat), i ≤ s.size → s.size - i ≤ n → Ev (fun k => colanderref01_Valid.l0 k s (i : Int)) (validGoD n (s.data.toList.drop i)) := by
  intro n
  induction n with
  | zero =>
    intro i h1 h2
    refine Ev.succ ?_
    simp only [colanderref01_Valid.l0]
    exact Ev.ite_neg (by omega) (Ev.now _)
  | succ n ih =>
    intro i h1 h2
    have hlen : s.data.toList.length = s.size := rfl
    refine Ev.succ ?_
    simp only [colanderref01_Valid.l0]
    by_cases hi : i < s.size
    · refine Ev.ite_pos (by omega) ?_
      obtain ⟨⟨p, w, ok⟩, e1, e2, e3⟩ := piece_ev hs hi
      refine Ev.bind e1 ?_
      unfold validGoD
      rw [if_neg (fun h => by have := congrArg List.length h; simp [hlen] at this; omega)]
      cases ok with
      | true =>
        obtain ⟨f1, f2, f3⟩ := e2 rfl
        rw [if_neg f2]
        simp only at f1
        subst f1
        have hle := decode_le hi
        have hw : wrap64 ((i : Int) + ((decodeL (s.data.toList.drop i)).2 : Int)) = ((i + (decodeL (s.data.toList.drop i)).2 : Nat) : Int) := by unfold wrap64; omega
        refine Ev.ite_pos rfl ?_
        simp only [hw]
        rw [List.drop_drop]
        exact ih _ hle (by omega)
      | false =>
        rw [if_pos (e3 rfl)]
        exact Ev.ite_neg (by simp) (Ev.now _)
    · refine Ev.ite_neg (by omega) ?_
      unfold validGoD
      rw [if_pos (List.drop_eq_nil_of_le (by omega))]
      exact Ev.now _
theorem valid_ev : Ev (fun k => colanderref01_Valid.f k s) (validD s.data.toList) := by
  unfold colanderref01_Valid.f validD
  have := valid_go hs s.size 0 (Nat.zero_le _) (by omega)
  rw [List.drop_zero] at this
  exact this
end
end Go.Proofs.YtmpmbnmldmpmiaaGreatDoor.A
