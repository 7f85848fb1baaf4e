/- What code.Check asks answers at every code: plain Lean. -/
import Derived.Test.YtlbcnacfgickcaaGreatDoorOpen
import Derived.Test.YtlbcnacfgickcaaGreatDoorA12a
import Derived.Test.YtlbcnacfgickcaaGreatDoorHandShape
set_option linter.unusedVariables false
set_option linter.unusedSimpArgs false
namespace Go.Proofs.YtlbcnacfgickcaaGreatDoor.A
open Go.RowKit Go.Proofs.YtlbcnacfgickcaaGreatDoorW.PrintWords Go.Proofs.YtlbcnacfgickcaaGreatDoorW.PrintLast Go.Proofs.YtlbcnacfgickcaaGreatDoorW.PrintMore
def T {α : Type} (g : Nat → Option α) : Prop := ∃ r, Ev g r
theorem T.now {α : Type} (r : α) : T (fun _ => some r) := ⟨r, Ev.now r⟩
theorem T.of {α : Type} {o : Option α} (h : ∃ r, o = some r) : T (fun _ => o) := by
  obtain ⟨r, rfl⟩ := h
  exact T.now r
theorem Ev.succ {α : Type} {g : Nat → Option α} {r : α} (h : Ev (fun k => g (k + 1)) r) : Ev g r := Ev.step (f := fun k => g (k + 1)) (fun _ => rfl) h
theorem T.succ {α : Type} {g : Nat → Option α} (h : T (fun k => g (k + 1))) : T g := h.imp fun _ h => Ev.succ h
theorem T.bind {α β : Type} {g : Nat → Option α} {f : Nat → α → Option β} (h : T g) (k : ∀ a, T (fun n => f n a)) : T (fun n => (g n).bind (f n)) := by
  obtain ⟨a, ha⟩ := h
  obtain ⟨r, hr⟩ := k a
  exact ⟨r, Ev.bind ha hr⟩
theorem T.ite {α : Type} {c : Prop} [Decidable c] {f g : Nat → Option α} (h : c → T f) (k : ¬c → T g) : T (fun n => if c then f n else g n) := by
  by_cases hc : c
  · simp only [if_pos hc]
    exact h hc
  · simp only [if_neg hc]
    exact k hc
theorem Ev.ite_pos {α : Type} {c : Prop} [Decidable c] {f g : Nat → Option α} {r : α} (hc : c) (h : Ev f r) : Ev (fun n => if c then f n else g n) r := by
  simp only [if_pos hc]
  exact h
theorem Ev.ite_neg {α : Type} {c : Prop} [Decidable c] {f g : Nat → Option α} {r : α} (hc : ¬c) (h : Ev g r) : Ev (fun n => if c then f n else g n) r := by
  simp only [if_neg hc]
  exact h
theorem inside_eq (a b : Int) : code_inside.f a b = some (decide (0 ≤ a ∧ a ≤ b)) := by
  unfold code_inside.f
  by_cases h : a ≥ 0
  · rw [if_pos h]
    simp [show 0 ≤ a from h]
  · rw [if_neg h]
    simp [show ¬ 0 ≤ a from h]
theorem names_T (a : Int) : T (fun k => code_names.f k a) := by
  have j1 : ∀ a b, T (fun k => code_names.j1 k a b) := by
    intro a b
    refine T.succ ?_
    simp only [code_names.j1]
    repeat' first
      | exact T.now _
      | refine T.ite (fun _ => ?_) (fun _ => ?_)
  have j0 : ∀ a b, T (fun k => code_names.j0 k a b) := by
    intro a b
    refine T.succ ?_
    simp only [code_names.j0]
    repeat' first
      | exact T.now _
      | exact j1 _ _
      | refine T.ite (fun _ => ?_) (fun _ => ?_)
  unfold code_names.f
  repeat' first
    | exact j0 _ _
    | refine T.ite (fun _ => ?_) (fun _ => ?_)
structure Shp (l0 : List S30) (i : Int) : Prop where
  ne : (R3 l0 i).f5.length ≠ 0
  of : (R3 l0 i).f1 = -1 ∨ (0 ≤ (R3 l0 i).f1 ∧ (R3 l0 i).f1 < i)
  out : (R3 l0 i).f2 = -1 ∨ (0 ≤ (R3 l0 i).f2 ∧ (R3 l0 i).f2 < i)
theorem plainF_spec (l0 : List S30) (hl : l0.length ≤ 140737488351232) (i n : Int) (h0 : 0 ≤ i) (h1 : i < (l0.length : Int)) : ∃ b, plainF l0 i n = some b ∧ (b = true → 0 ≤ n ∧ n < i) := by
  unfold plainF
  rw [inside_eq, show wrap64 (i - 1) = i - 1 by unfold wrap64; omega]
  simp only [Option.bind_some, decide_eq_true_eq]
  by_cases h : 0 ≤ n ∧ n ≤ i - 1
  · rw [if_pos h, if_pos h.1, if_pos (by omega)]
    exact ⟨_, rfl, fun _ => ⟨h.1, by omega⟩⟩
  · rw [if_neg h]
    exact ⟨_, rfl, fun h => by cases h⟩
theorem shape_spec (l0 : List S30) (l1 : List S36) (hl : l0.length ≤ 140737488351232) (i : Int) (h0 : 0 ≤ i) (h1 : i < (l0.length : Int)) : ∃ b, code_program_shape.f l0 l1 i = some b ∧ (b = true → Shp l0 i) := by
  unfold code_program_shape.f
  rw [if_pos h0, if_pos h1]
  by_cases hn : ((R3 l0 i).f5.length : Int) = 0
  · rw [if_pos hn]
    exact ⟨_, rfl, fun h => by cases h⟩
  rw [if_neg hn]
  have hne : (R3 l0 i).f5.length ≠ 0 := by omega
  by_cases ho : (R3 l0 i).f1 = -1
  · rw [if_pos ho]
    by_cases hu : (R3 l0 i).f2 = -1
    · rw [if_pos hu]
      simp only [Option.bind_some, if_true, inside_eq]
      cases decide (0 ≤ (R3 l0 i).f3 ∧ (R3 l0 i).f3 ≤ 32) with
      | true => exact ⟨_, rfl, fun _ => ⟨hne, .inl ho, .inl hu⟩⟩
      | false => exact ⟨_, rfl, fun h => by cases h⟩
    · rw [if_neg hu]
      obtain ⟨b, hb, hb'⟩ := plainF_spec l0 hl i (R3 l0 i).f2 h0 h1
      rw [hb]
      simp only [Option.bind_some, inside_eq]
      cases b with
      | false => exact ⟨_, rfl, fun h => by cases h⟩
      | true =>
        simp only [if_true]
        cases decide (0 ≤ (R3 l0 i).f3 ∧ (R3 l0 i).f3 ≤ 32) with
        | true => exact ⟨_, rfl, fun _ => ⟨hne, .inl ho, .inr (hb' rfl)⟩⟩
        | false => exact ⟨_, rfl, fun h => by cases h⟩
  · rw [if_neg ho]
    obtain ⟨b, hb, hb'⟩ := plainF_spec l0 hl i (R3 l0 i).f1 h0 h1
    rw [hb]
    simp only [Option.bind_some]
    refine ⟨_, rfl, fun h => ?_⟩
    simp only [Bool.and_eq_true, beq_iff_eq] at h
    exact ⟨hne, .inr (hb' h.1), .inl h.2.1⟩
section
variable {l0 : List S30} {l1 : List S36} (hS : ∀ i : Int, 0 ≤ i → i < (l0.length : Int) → Shp l0 i)
include hS
theorem home_spec (i : Int) (h0 : 0 ≤ i) (h1 : i < (l0.length : Int)) : ∃ t, code_program_home.f l0 l1 i = some t ∧ 0 ≤ t ∧ t < (l0.length : Int) := by
  unfold code_program_home.f
  rw [if_pos h0, if_pos h1]
  have h := (hS i h0 h1).of
  by_cases ho : (R3 l0 i).f1 ≥ 0
  · rw [if_pos ho]
    exact ⟨_, rfl, ho, by omega⟩
  · rw [if_neg ho]
    exact ⟨_, rfl, h0, h1⟩
theorem outl_spec : ∀ (m : Nat) (x n : Int), x < m → -1 ≤ x → x < (l0.length : Int) → ∃ t, Ev (fun k => oU.l0 k x n l0 l1) t ∧ -1 ≤ t ∧ t < (l0.length : Int) := by
  intro m
  induction m with
  | zero =>
    intro x n hm hx hl
    by_cases hn : n < 0
    · refine ⟨-1, Ev.succ ?_, by omega, by omega⟩
      simp only [oU.l0, if_neg (show ¬ n > 0 by omega), if_pos hn]
      exact Ev.now _
    · refine ⟨x, Ev.succ ?_, by omega, by omega⟩
      simp only [oU.l0, if_neg (show ¬ x ≥ 0 by omega), if_neg hn]
      by_cases h : n > 0
      · simp only [if_pos h]
        exact Ev.now _
      · simp only [if_neg h]
        exact Ev.now _
  | succ m ih =>
    intro x n hm hx hl
    by_cases h : n > 0
    · by_cases h0 : x ≥ 0
      · have hs := (hS x h0 hl).out
        obtain ⟨t, ht, h1, h2⟩ := ih (R3 l0 x).f2 (wrap64 (n - 1)) (by omega) (by omega) (by omega)
        refine ⟨t, Ev.succ ?_, h1, h2⟩
        simp only [oU.l0, if_pos h, if_pos h0, if_pos (show 0 ≤ x from h0), if_pos hl]
        exact ht
      · refine ⟨x, Ev.succ ?_, by omega, by omega⟩
        simp only [oU.l0, if_pos h, if_neg h0, if_neg (show ¬ n < 0 by omega)]
        exact Ev.now _
    · by_cases hn : n < 0
      · refine ⟨-1, Ev.succ ?_, by omega, by omega⟩
        simp only [oU.l0, if_neg h, if_pos hn]
        exact Ev.now _
      · refine ⟨x, Ev.succ ?_, by omega, by omega⟩
        simp only [oU.l0, if_neg h, if_neg hn]
        exact Ev.now _
theorem out_spec (i n : Int) (h0 : 0 ≤ i) (h1 : i < (l0.length : Int)) : ∃ t, Ev (fun k => oU.f k l0 l1 i n) t ∧ -1 ≤ t ∧ t < (l0.length : Int) := by
  obtain ⟨t, ht, h2, h3⟩ := home_spec (l1 := l1) hS i h0 h1
  obtain ⟨r, hr, h4, h5⟩ := outl_spec (l1 := l1) hS (t.toNat + 1) t n (by omega) (by omega) h3
  refine ⟨r, ?_, h4, h5⟩
  unfold oU.f
  simp only [ht, Option.bind_some]
  exact hr
theorem variable_T (i n v : Int) (h0 : 0 ≤ i) (h1 : i < (l0.length : Int)) : T (fun k => code_program_variable.f k l0 l1 i n v) := by
  obtain ⟨t, ht, h2, h3⟩ := out_spec (l1 := l1) hS i n h0 h1
  unfold code_program_variable.f
  have e : T (fun k => (if t ≥ 0 then (if 0 ≤ t then (if t < (l0.length : Int) then ((code_inside.f v (wrap64 (((R3 l0 t).f4) - 1))).bind fun t126 => (some t126)) else (none)) else (none)) else (some false) : Option Bool)) := by
    refine T.ite (fun h => T.ite (fun _ => T.ite (fun _ => ?_) (fun h' => absurd h3 h')) (fun h' => absurd h h')) (fun _ => T.now _)
    rw [inside_eq]
    exact T.now _
  obtain ⟨r, hr⟩ := e
  exact ⟨r, Ev.bind ht hr⟩
theorem param_T (i n v : Int) (h0 : 0 ≤ i) (h1 : i < (l0.length : Int)) : T (fun k => code_program_param.f k l0 l1 i n v) := by
  obtain ⟨t, ht, h2, h3⟩ := out_spec (l1 := l1) hS i n h0 h1
  unfold code_program_param.f
  have e : T (fun k => (if t ≥ 0 then (if 0 ≤ t then (if t < (l0.length : Int) then ((code_inside.f v (wrap64 (((R3 l0 t).f3) - 1))).bind fun t126 => (some t126)) else (none)) else (none)) else (some false) : Option Bool)) := by
    refine T.ite (fun h => T.ite (fun _ => T.ite (fun _ => ?_) (fun h' => absurd h3 h')) (fun h' => absurd h h')) (fun _ => T.now _)
    rw [inside_eq]
    exact T.now _
  obtain ⟨r, hr⟩ := e
  exact ⟨r, Ev.bind ht hr⟩
theorem out_T (i n : Int) (h0 : 0 ≤ i) (h1 : i < (l0.length : Int)) : T (fun k => oU.f k l0 l1 i n) := by
  obtain ⟨t, ht, _⟩ := out_spec (l1 := l1) hS i n h0 h1
  exact ⟨t, ht⟩
theorem closure_T (hl : l0.length ≤ 140737488351232) (i a b c : Int) (h0 : 0 ≤ i) (h1 : i < (l0.length : Int)) : T (fun k => cO.f k l0 l1 i a b c) := by
  unfold cO.f
  refine T.ite (fun _ => T.bind (param_T hS i b c h0 h1) (fun _ => T.now _)) (fun _ => ?_)
  rw [inside_eq]
  simp only [Option.bind_some, decide_eq_true_eq]
  refine T.ite (fun ht => ?_) (fun _ => T.now _)
  have hw : wrap64 ((l0.length : Int) - 1) = (l0.length : Int) - 1 := by unfold wrap64; omega
  rw [hw] at ht
  refine T.ite (fun _ => T.ite (fun _ => ?_) (fun h => absurd ht (by omega))) (fun h => absurd ht.1 h)
  obtain ⟨t, ht, _⟩ := home_spec (l1 := l1) hS i h0 h1
  refine T.bind (T.of ⟨t, ht⟩) (fun _ => T.ite (fun _ => T.ite (fun _ => T.now _) (fun _ => T.now _)) (fun _ => T.now _))
theorem call_T (hl : l0.length ≤ 140737488351232) (i a b c : Int) (s : ByteArray) (rs : List S99) (hr : rs.length ≤ 140737488351232) (h0 : 0 ≤ i) (h1 : i < (l0.length : Int)) : T (fun k => cL.f k l0 l1 i a b c s rs) := by
  have loop : ∀ (m : Nat) (j : Int), (rs.length : Int) - j ≤ m → 0 ≤ j → T (fun k => cL.l0 k i rs (rs.length : Int) j l0 l1) := by
    intro m
    induction m with
    | zero =>
      intro j hm hj
      refine T.succ ?_
      simp only [cL.l0, if_neg (show ¬ j < (rs.length : Int) by omega)]
      exact T.now _
    | succ m ih =>
      intro j hm hj
      refine T.succ ?_
      simp only [cL.l0]
      refine T.ite (fun h => T.ite (fun _ => T.ite (fun _ => T.bind (closure_T hS hl _ _ _ _ h0 h1) (fun _ => T.ite (fun _ => ?_) (fun _ => T.now _))) (fun h' => absurd h h')) (fun h' => absurd hj h')) (fun _ => T.now _)
      rw [show wrap64 (j + 1) = j + 1 by unfold wrap64; omega]
      exact ih (j + 1) (by omega) (by omega)
  have j2 : ∀ x, T (fun k => cL.j2 k i x l0 l1 a b c s rs) := by
    intro x
    refine T.succ ?_
    simp only [cL.j2]
    exact T.ite (fun _ => T.now _) (fun _ => loop _ 0 (Int.le_of_eq (by rw [Int.sub_zero])) (Int.le_refl _))
  have j1 : ∀ x d0 d1 d2 d3 d4 d5, T (fun k => cL.j1 k i x l0 l1 a b c s rs d0 d1 d2 d3 d4 d5) := by
    intro x d0 d1 d2 d3 d4 d5
    refine T.succ ?_
    simp only [cL.j1]
    repeat' first
      | exact T.now _
      | exact j2 _
      | refine T.ite (fun _ => ?_) (fun _ => ?_)
      | refine T.bind (out_T hS _ _ h0 h1) (fun _ => ?_)
  have j0 : ∀ x, (x = false → 0 ≤ b ∧ b < (l0.length : Int)) → T (fun k => cL.j0 k i x l0 l1 a b c s rs) := by
    intro x hx
    refine T.succ ?_
    simp only [cL.j0]
    refine T.ite (fun _ => T.now _) (fun h => ?_)
    obtain ⟨hb0, hb1⟩ := hx (by simpa using h)
    refine T.ite (fun _ => T.ite (fun _ => T.ite (fun _ => j1 _ _ _ _ _ _ _) (fun _ => j1 _ _ _ _ _ _ _)) (fun h' => absurd hb1 h')) (fun h' => absurd hb0 h')
  unfold cL.f
  refine T.ite (fun _ => j0 _ (fun h => by cases h)) (fun h => j0 _ (fun hd => ?_))
  have := of_decide_eq_false hd
  omega
end
theorem letter_T (c : Int) : ∃ b, lexer_letter.f c = some b := by
  unfold lexer_letter.f
  split
  · split <;> exact ⟨_, rfl⟩
  · exact ⟨_, rfl⟩
theorem digit_T (c : Int) : ∃ b, lexer_digit.f c = some b := by
  unfold lexer_digit.f
  split <;> exact ⟨_, rfl⟩
theorem runl_spec (s : ByteArray) (hs : s.size ≤ 140737488351232) (a : Int) (ha : 0 ≤ a) : ∀ (m : Nat) (x : Int), (s.size : Int) - (a + x) ≤ m → 0 ≤ x → a + x ≤ s.size → ∃ r, Ev (fun k => lexer_run.l0 k s a x) r ∧ x ≤ r ∧ a + r ≤ s.size := by
  intro m
  induction m with
  | zero =>
    intro x hm hx hl
    refine ⟨x, Ev.succ ?_, Int.le_refl _, hl⟩
    simp only [lexer_run.l0, show wrap64 (a + x) = a + x by unfold wrap64; omega, if_neg (show ¬ a + x < (s.size : Int) by omega)]
    exact Ev.now _
  | succ m ih =>
    intro x hm hx hl
    have hw : wrap64 (a + x) = a + x := by unfold wrap64; omega
    by_cases h : a + x < (s.size : Int)
    · obtain ⟨r, hr, h1, h2⟩ := ih (x + 1) (by omega) (by omega) (by omega)
      have hw1 : wrap64 (x + 1) = x + 1 := by unfold wrap64; omega
      obtain ⟨b, hb⟩ := letter_T (bt s (a + x))
      obtain ⟨b', hb'⟩ := digit_T (bt s (a + x))
      cases b with
      | true =>
        refine ⟨r, Ev.succ ?_, by omega, h2⟩
        simp only [lexer_run.l0, hw, hw1, if_pos h, if_pos (show 0 ≤ a + x by omega), hb, Option.bind_some, if_true]
        exact hr
      | false =>
        cases b' with
        | true =>
          refine ⟨r, Ev.succ ?_, by omega, h2⟩
          simp only [lexer_run.l0, hw, hw1, if_pos h, if_pos (show 0 ≤ a + x by omega), hb, hb', Option.bind_some, if_true, if_neg (show ¬ (false = true) by decide)]
          exact hr
        | false =>
          refine ⟨x, Ev.succ ?_, Int.le_refl _, hl⟩
          simp only [lexer_run.l0, hw, hw1, if_pos h, if_pos (show 0 ≤ a + x by omega), hb, hb', Option.bind_some, if_neg (show ¬ (false = true) by decide)]
          exact Ev.now _
    · refine ⟨x, Ev.succ ?_, Int.le_refl _, hl⟩
      simp only [lexer_run.l0, hw, if_neg h]
      exact Ev.now _
theorem run_spec (s : ByteArray) (hs : s.size ≤ 140737488351232) (a : Int) (ha : 0 ≤ a) : ∃ r, Ev (fun k => lexer_run.f k s a) r ∧ 0 ≤ r ∧ (r ≠ 0 → a + r ≤ s.size) := by
  have j0 : ∀ b, (b = false → a < (s.size : Int)) → ∃ r, Ev (fun k => lexer_run.j0 k s a b) r ∧ 0 ≤ r ∧ (r ≠ 0 → a + r ≤ s.size) := by
    intro b hb
    cases b with
    | true =>
      refine ⟨0, Ev.succ ?_, Int.le_refl _, fun h => absurd rfl h⟩
      simp only [lexer_run.j0, if_true]
      exact Ev.now _
    | false =>
      have := hb rfl
      obtain ⟨r, hr, h1, h2⟩ := runl_spec s hs a ha _ 1 (Int.le_of_eq (Int.toNat_of_nonneg (show 0 ≤ (s.size : Int) - (a + 1) by omega)).symm) (by omega) (by omega)
      refine ⟨r, Ev.succ ?_, by omega, fun _ => h2⟩
      simp only [lexer_run.j0, if_neg (show ¬ (false = true) by decide)]
      exact hr
  unfold lexer_run.f
  by_cases h : a ≥ (s.size : Int)
  · simp only [if_pos h]
    exact j0 true (fun h => by cases h)
  · simp only [if_neg h, if_pos ha, if_pos (show a < (s.size : Int) by omega)]
    obtain ⟨b, hb⟩ := letter_T (bt s a)
    simp only [hb, Option.bind_some]
    exact j0 _ (fun _ => by omega)
theorem prefix_T (a b : ByteArray) : ∃ r, strings_HasPrefix.f a b = some r := by
  unfold strings_HasPrefix.f stringslite_HasPrefix.f
  by_cases h : (a.size : Int) ≥ (b.size : Int)
  · rw [if_pos h, if_pos (by omega), if_pos h]
    exact ⟨_, rfl⟩
  · rw [if_neg h]
    exact ⟨_, rfl⟩
theorem longl_T (s : ByteArray) (hs : s.size ≤ 140737488351232) : ∀ (m : Nat) (x : Int), (s.size : Int) - x ≤ m → 0 ≤ x → x ≤ s.size → T (fun k => lexer_long.l0 k s 0 x) := by
  intro m
  induction m using Nat.strongRecOn with
  | ind m ih =>
  intro x hm hx hl
  have j1 : ∀ b, T (fun k => lexer_long.j1 k s 0 x b) := by
    intro b
    refine T.succ ?_
    simp only [lexer_long.j1, show wrap64 (0 + x) = x by unfold wrap64; omega, show wrap64 (x + 2) = x + 2 by unfold wrap64; omega]
    refine T.ite (fun _ => ?_) (fun _ => T.now _)
    obtain ⟨r, hr, h1, h2⟩ := run_spec s hs (x + 2) (by omega)
    by_cases h0 : r = 0
    · subst h0
      exact ⟨x, Ev.bind hr (Ev.ite_pos rfl (Ev.now _))⟩
    · have h3 := h2 h0
      obtain ⟨q, hq⟩ := ih (m - 1) (by omega) (x + (2 + r)) (by omega) (by omega) (by omega)
      refine ⟨q, Ev.bind hr (Ev.ite_neg h0 ?_)⟩
      rw [show wrap64 (2 + r) = 2 + r by unfold wrap64; omega, show wrap64 (x + (2 + r)) = x + (2 + r) by unfold wrap64; omega]
      exact hq
  refine T.succ ?_
  simp only [lexer_long.l0, show wrap64 (0 + x) = x by unfold wrap64; omega]
  refine T.ite (fun _ => T.ite (fun _ => T.ite (fun _ => ?_) (fun h => absurd hl h)) (fun h => absurd hx h)) (fun _ => j1 _)
  exact T.bind (T.of (prefix_T _ _)) (fun _ => j1 _)
theorem name_T (s : ByteArray) (hs : s.size ≤ 140737488351232) : T (fun k => lexer_Name.f k s) := by
  unfold lexer_Name.f
  refine T.ite (fun _ => T.now _) (fun _ => T.bind ?_ (fun _ => T.now _))
  unfold lexer_long.f
  obtain ⟨r, hr, h1, h2⟩ := run_spec s hs 0 (Int.le_refl _)
  obtain ⟨q, hq⟩ := longl_T s hs _ r (Int.le_of_eq (Int.toNat_of_nonneg (show 0 ≤ (s.size : Int) - r by omega)).symm) h1 (by omega)
  exact ⟨q, Ev.bind hr hq⟩
theorem some_ite {α : Type} {c : Prop} [Decidable c] {a b : Option α} (ha : ∃ r, a = some r) (hb : ∃ r, b = some r) : ∃ r, (if c then a else b) = some r := by
  split
  · exact ha
  · exact hb
theorem word_T (s : ByteArray) : ∃ b, lexer_Word.f s = some b := by
  unfold lexer_Word.f
  repeat' first
    | (with_reducible refine some_ite ?_ ?_)
    | exact ⟨_, rfl⟩
theorem among_T (s : ByteArray) (l : List ByteArray) (hl : l.length ≤ 140737488351232) : T (fun k => code_among.f k s l) := by
  have loop : ∀ (m : Nat) (j : Int), (l.length : Int) - j ≤ m → 0 ≤ j → T (fun k => code_among.l0 k s l (l.length : Int) j) := by
    intro m
    induction m with
    | zero =>
      intro j hm hj
      refine T.succ ?_
      simp only [code_among.l0, if_neg (show ¬ j < (l.length : Int) by omega)]
      exact T.now _
    | succ m ih =>
      intro j hm hj
      refine T.succ ?_
      simp only [code_among.l0]
      refine T.ite (fun h => T.ite (fun _ => T.ite (fun _ => T.ite (fun _ => T.now _) (fun _ => ?_)) (fun h' => absurd h h')) (fun h' => absurd hj h')) (fun _ => T.now _)
      rw [show wrap64 (j + 1) = j + 1 by unfold wrap64; omega]
      exact ih (j + 1) (by omega) (by omega)
  unfold code_among.f
  exact loop _ 0 (Int.le_of_eq (by rw [Int.sub_zero])) (Int.le_refl _)
end Go.Proofs.YtlbcnacfgickcaaGreatDoor.A
