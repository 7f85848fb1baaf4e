/- ValueRight in plain Lean, first part: values that are small enough; Copy answers the same value; both say alike what is too large. -/
import Derived.Test.YtmpmbnmldmpmiaaGreatDoorHandLarge
import Derived.Test.YtmpmbnmldmpmiaaGreatDoorA28
set_option linter.unusedVariables false
set_option linter.unusedSimpArgs false
namespace Go.Proofs.YtmpmbnmldmpmiaaGreatDoor.A
open Go.RowKit Go.Proofs.YtmpmbnmldmpmiaaGreatDoorW.PrintWords Go.Proofs.YtmpmbnmldmpmiaaGreatDoorW.PrintLast Go.Proofs.YtmpmbnmldmpmiaaGreatDoorW.PrintMore
theorem Ev.succ {α : Type} {g : Nat → Option α} {r : α} (h : Ev (fun k => g (k + 1)) r) : Ev g r := Ev.step (f := fun k => g (k + 1)) (fun _ => rfl) h
theorem Ev.ite_pos {α : Type} {c : Prop} [Decidable c] {f g : Nat → Option α} {r : α} (hc : c) (h : Ev f r) : Ev (fun n => if c then f n else g n) r := by
  simp only [if_pos hc]
  exact h
theorem Ev.ite_neg {α : Type} {c : Prop} [Decidable c] {f g : Nat → Option α} {r : α} (hc : ¬c) (h : Ev g r) : Ev (fun n => if c then f n else g n) r := by
  simp only [if_neg hc]
  exact h
/-- A value that is in memory. -/
inductive G27 : S27 → Prop where
  | mk (x : S27) : x.f2.size ≤ 140737488351232 → x.f3.length ≤ 1759218604390 → x.f4.length ≤ 8796093021952 → (∀ k ∈ x.f4, k.size ≤ 140737488351232) → (∀ y ∈ x.f3, G27 y) → G27 x
theorem rd_T27_at {l : List S27} {i : Nat} (h : i < l.length) : rd_T27 l (i : Int) = l[i] := by
  unfold rd_T27
  simp [List.getD_eq_getElem?_getD, h]
theorem wrap_succ {i n : Nat} (h : i < n) (hn : n ≤ 140737488351232) : wrap64 ((i : Int) + 1) = ((i + 1 : Nat) : Int) := by
  unfold wrap64
  omega
theorem keysL_ev (s : ByteArray) (l : List S27) (ks : List ByteArray) (hks : ks.length ≤ 140737488351232) (kd : Int) (nm : Nat) (n d : Int) {r : Int × Int} (hl : Ev (fun k => colanderref03_room.l1 k n (keysL ks 0) d 0 kd nm s l ks) r → True) :
    ∀ (m i : Nat) (b : Int), m = ks.length - i → i ≤ ks.length → Ev (fun k => colanderref03_room.l1 k n (keysL (ks.drop i) b) d 0 kd nm s l ks) r → Ev (fun k => colanderref03_room.l0 k n b d (i : Int) kd nm s l ks) r := by
  intro m
  induction m with
  | zero =>
    intro i b hm hi h
    refine Ev.succ ?_
    simp only [colanderref03_room.l0]
    refine Ev.ite_neg (by omega) ?_
    rw [List.drop_eq_nil_of_le (by omega), keysL] at h
    exact h
  | succ m ih =>
    intro i b hm hi h
    have hlt : i < ks.length := by omega
    refine Ev.succ ?_
    simp only [colanderref03_room.l0]
    refine Ev.ite_pos (by omega) (Ev.ite_pos (by omega) ?_)
    rw [wrap_succ hlt hks]
    refine ih (i + 1) _ (by omega) (by omega) ?_
    rw [List.drop_eq_getElem_cons hlt, keysL] at h
    have e : rdOf ByteArray.empty ks (i : Int) = ks[i] := by
      unfold rdOf
      simp [List.getD_eq_getElem?_getD, hlt]
    rw [e]
    exact h
/-- What is weighed alike. -/
def Alike (p : Bool × Int × Int) (q : Int × Int) : Prop := (p.1 = true → q = p.2 ∧ 0 ≤ p.2.1 ∧ 0 ≤ p.2.2) ∧ (p.1 = false → q.1 < 0 ∨ q.2 < 0)
theorem weigh {x : S27} (h : G27 x) : ∀ (n b d : Int), 0 ≤ d → d ≤ 10000 → ∃ p q, Ev (fun k => value_put.f k x.f2 x.f3 x.f4 n b d) p ∧ Ev (fun k => colanderref03_room.f k x.f0 x.f1 x.f2 x.f3 x.f4 n b d) q ∧ Alike p q := by
  induction h with
  | mk x h2 h3 h4 h5 h6 ih =>
  intro n b d hd0 hd1
  have start : ∀ {q : Int × Int}, ¬ d < 1 → Ev (fun k => colanderref03_room.l1 k (wrap64 (n - 1)) (keysL x.f4 (wrap64 (b - (x.f2.size : Int)))) d 0 x.f0 x.f1 x.f2 x.f3 x.f4) q → Ev (fun k => colanderref03_room.f k x.f0 x.f1 x.f2 x.f3 x.f4 n b d) q := by
    intro q hd h
    refine Ev.succ ?_
    simp only [colanderref03_room.f]
    refine Ev.ite_neg hd ?_
    exact keysL_ev x.f2 x.f3 x.f4 (by omega) x.f0 x.f1 _ d (fun _ => trivial) _ 0 _ rfl (Nat.zero_le _) (by rw [List.drop_zero]; exact h)
  by_cases hd : d = 0
  · subst hd
    refine ⟨(false, wrap64 (n - 1), keysL x.f4 (wrap64 (b - (x.f2.size : Int)))), (-1, -1), Ev.succ ?_, Ev.succ ?_, ⟨fun h => (by cases h), fun _ => .inl (by decide)⟩⟩
    · simp only [value_put.f]
      exact Ev.ite_pos (.inr (.inr trivial)) (Ev.now _)
    · simp only [colanderref03_room.f]
      exact Ev.ite_pos (by omega) (Ev.now _)
  have hd2 : ¬ d < 1 := by omega
  have hdw : wrap64 (d - 1) = d - 1 := by unfold wrap64; omega
  generalize hb2 : keysL x.f4 (wrap64 (b - (x.f2.size : Int))) = b2 at start
  generalize hn2 : wrap64 (n - 1) = n2 at start
  by_cases hneg : n2 < 0 ∨ b2 < 0
  · refine ⟨(false, n2, b2), (n2, b2), Ev.succ ?_, start hd2 (Ev.succ ?_), ⟨fun h => (by cases h), fun _ => hneg⟩⟩
    · simp only [value_put.f, hb2, hn2]
      exact Ev.ite_pos (by omega) (Ev.now _)
    · simp only [colanderref03_room.l1]
      by_cases hl : (0 : Int) < (x.f3.length : Int)
      · refine Ev.ite_pos hl ?_
        by_cases h1 : n2 ≥ 0
        · refine Ev.ite_pos h1 (Ev.ite_neg (by omega) (Ev.now _))
        · exact Ev.ite_neg h1 (Ev.now _)
      · exact Ev.ite_neg hl (Ev.now _)
  have hk : ∀ (m i : Nat) (n b : Int), m = x.f3.length - i → i ≤ x.f3.length → 0 ≤ n → 0 ≤ b → ∃ p q, Ev (fun k => value_put.l k (x.f3.drop i) n b d) p ∧ Ev (fun k => colanderref03_room.l1 k n b d (i : Int) x.f0 x.f1 x.f2 x.f3 x.f4) q ∧ Alike p q := by
    intro m
    induction m with
    | zero =>
      intro i n b hm hi hn hb
      refine ⟨(true, n, b), (n, b), Ev.succ ?_, Ev.succ ?_, ⟨fun _ => ⟨rfl, hn, hb⟩, fun h => by cases h⟩⟩
      · rw [List.drop_eq_nil_of_le (by omega)]
        exact Ev.now _
      · simp only [colanderref03_room.l1]
        exact Ev.ite_neg (by omega) (Ev.now _)
    | succ m ihm =>
      intro i n b hm hi hn hb
      have hlt : i < x.f3.length := by omega
      obtain ⟨p, q, e1, e2, e3⟩ := ih _ (List.getElem_mem hlt) n b (d - 1) (by omega) (by omega)
      obtain ⟨ok, n', b'⟩ := p
      cases ok with
      | true =>
        obtain ⟨e4, e5, e6⟩ := e3.1 rfl
        subst e4
        obtain ⟨p2, q2, f1, f2, f3⟩ := ihm (i + 1) n' b' (by omega) (by omega) e5 e6
        refine ⟨p2, q2, Ev.succ ?_, Ev.succ ?_, f3⟩
        · rw [List.drop_eq_getElem_cons hlt]
          simp only [value_put.l, hdw]
          exact Ev.bind e1 (Ev.ite_pos rfl f1)
        · simp only [colanderref03_room.l1]
          refine Ev.ite_pos (by omega) (Ev.ite_pos hn (Ev.ite_pos hb (Ev.ite_pos (by omega) ?_)))
          rw [rd_T27_at hlt, wrap_succ hlt (by omega), hdw]
          exact Ev.bind e2 f2
      | false =>
        have hq := e3.2 rfl
        obtain ⟨q1, q2⟩ := q
        refine ⟨(false, n', b'), (q1, q2), Ev.succ ?_, Ev.succ ?_, ⟨fun h => (by cases h), fun _ => hq⟩⟩
        · rw [List.drop_eq_getElem_cons hlt]
          simp only [value_put.l, hdw]
          exact Ev.bind e1 (Ev.ite_neg (by simp) (Ev.now _))
        · simp only [colanderref03_room.l1]
          refine Ev.ite_pos (by omega) (Ev.ite_pos hn (Ev.ite_pos hb (Ev.ite_pos (by omega) ?_)))
          rw [rd_T27_at hlt, wrap_succ hlt (by omega), hdw]
          refine Ev.bind e2 (Ev.succ ?_)
          simp only [colanderref03_room.l1]
          by_cases hl : ((i + 1 : Nat) : Int) < (x.f3.length : Int)
          · refine Ev.ite_pos hl ?_
            by_cases h1 : q1 ≥ 0
            · exact Ev.ite_pos h1 (Ev.ite_neg (by simp at hq; omega) (Ev.now _))
            · exact Ev.ite_neg h1 (Ev.now _)
          · exact Ev.ite_neg hl (Ev.now _)
  obtain ⟨p, q, e1, e2, e3⟩ := hk _ 0 n2 b2 rfl (Nat.zero_le _) (by omega) (by omega)
  refine ⟨p, q, Ev.succ ?_, start hd2 e2, e3⟩
  simp only [value_put.f, hb2, hn2]
  exact Ev.ite_neg (by omega) e1
theorem large_ev {x : S27} (h : G27 x) : ∃ r, Ev (fun k => value_Large.f k x.f0 x.f1 x.f2 x.f3 x.f4) r ∧ Ev (fun k => colanderref03_Large.f k x.f0 x.f1 x.f2 x.f3 x.f4) r := by
  obtain ⟨p, q, e1, e2, e3⟩ := weigh h 65536 1048576 10000 (by omega) (by omega)
  refine ⟨!p.1, Ev.bind e1 (Ev.now _), ?_⟩
  unfold colanderref03_Large.f
  refine Ev.bind e2 ?_
  obtain ⟨ok, n, b⟩ := p
  cases ok with
  | true =>
    obtain ⟨rfl, h1, h2⟩ := e3.1 rfl
    refine Ev.ite_neg (by simpa using h1) ?_
    have : decide (b < 0) = false := decide_eq_false (by simpa using h2)
    simp only [this]
    exact Ev.now _
  | false =>
    have hq := e3.2 rfl
    by_cases h1 : q.1 < 0
    · exact Ev.ite_pos h1 (Ev.now _)
    · refine Ev.ite_neg h1 ?_
      have : decide (q.2 < 0) = true := decide_eq_true (by omega)
      simp only [this]
      exact Ev.now _
end Go.Proofs.YtmpmbnmldmpmiaaGreatDoor.A
