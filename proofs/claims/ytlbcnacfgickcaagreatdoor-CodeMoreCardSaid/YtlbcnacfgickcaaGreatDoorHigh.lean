/- What code.effect and code.heights answer: plain Lean. -/
import Derived.Test.YtlbcnacfgickcaaGreatDoorHandMono
set_option linter.unusedVariables false
set_option linter.unusedSimpArgs false
namespace Go.Proofs.YtlbcnacfgickcaaGreatDoor.A
open Go.RowKit Go.Proofs.YtlbcnacfgickcaaGreatDoorW.PrintWords Go.Proofs.YtlbcnacfgickcaaGreatDoorW.PrintLast Go.Proofs.YtlbcnacfgickcaaGreatDoorW.PrintMore
def TP {α : Type} (g : Nat → Option α) (p : α → Prop) : Prop := ∃ r, Ev g r ∧ p r
theorem TP.now {α : Type} {p : α → Prop} {r : α} (h : p r) : TP (fun _ => some r) p := ⟨r, Ev.now r, h⟩
theorem TP.step {α : Type} {p : α → Prop} {g f : Nat → Option α} (e : ∀ k, g (k + 1) = f k) (h : TP f p) : TP g p := by
  obtain ⟨r, hr, h⟩ := h
  exact ⟨r, Ev.step e hr, h⟩
theorem TP.bind {α β : Type} {p : α → Prop} {q : β → Prop} {g : Nat → Option α} {f : Nat → α → Option β} (h : TP g p) (k : ∀ a, p a → TP (fun n => f n a) q) : TP (fun n => (g n).bind (f n)) q := by
  obtain ⟨a, ha, hp⟩ := h
  obtain ⟨r, hr, hq⟩ := k a hp
  exact ⟨r, Ev.bind ha hr, hq⟩
theorem TP.ite {α : Type} {p : α → Prop} {c : Prop} [Decidable c] {f g : Nat → Option α} (h : c → TP f p) (k : ¬c → TP g p) : TP (fun n => if c then f n else g n) p := by
  by_cases hc : c
  · simp only [if_pos hc]
    exact h hc
  · simp only [if_neg hc]
    exact k hc
theorem TP.mono {α : Type} {p q : α → Prop} {g : Nat → Option α} (h : TP g p) (k : ∀ r, p r → q r) : TP g q := by
  obtain ⟨r, hr, hp⟩ := h
  exact ⟨r, hr, k r hp⟩
def eff4 (op a : Int) : Int × Int := if op = 22 ∨ op = 32 then (wrap64 (1 + a), wrap64 (-a)) else if op = 34 then (wrap64 (1 + wrap64 (2 * a)), wrap64 ((-2) * a)) else (1, 0)
def eff3 (op a : Int) : Int × Int := if op = 13 ∨ op = 24 ∨ op = 29 then (3, -2) else eff4 op a
def eff2 (op a : Int) : Int × Int := if op = 38 ∨ op = 7 ∨ op = 12 ∨ op = 23 then (2, -1) else eff3 op a
def eff1 (op a : Int) : Int × Int := if op = 3 ∨ op = 9 ∨ op = 11 ∨ op = 36 ∨ op = 37 ∨ op = 18 then (1, -1) else eff2 op a
def eff0 (op a : Int) : Int × Int := if op = 2 then (wrap64 (a + 1), 1) else eff1 op a
def effE (op a : Int) : Int × Int := if op = 10 then (0, 1) else if op = 17 ∨ op = 16 then (0, 0) else eff0 op a
theorem effect_spec (op a b : Int) (s : ByteArray) (rs : List S99) : TP (fun k => cE.f k op a b s rs) (fun nm => nm = effE op a) := by
  have h4 : ∀ x : Bool, TP (fun k => cE.j4 k op x op a b s rs) (fun nm => nm = if x = true then (wrap64 (1 + a), wrap64 (-a)) else if op = 34 then (wrap64 (1 + wrap64 (2 * a)), wrap64 ((-2) * a)) else (1, 0)) := by
    intro x
    refine TP.step (fun k => by rw [cE.j4]) ?_
    refine TP.ite (fun h => TP.now (by rw [if_pos h])) (fun h => TP.ite (fun h' => TP.now (by rw [if_neg h, if_pos h'])) (fun h' => TP.now (by rw [if_neg h, if_neg h'])))
  have h3 : ∀ x : Bool, TP (fun k => cE.j3 k op x op a b s rs) (fun nm => nm = if x = true then (3, -2) else eff4 op a) := by
    intro x
    refine TP.step (fun k => by rw [cE.j3]) ?_
    refine TP.ite (fun h => TP.now (by rw [if_pos h])) (fun h => TP.ite (fun h' => (h4 _).mono fun r e => ?_) (fun h' => (h4 _).mono fun r e => ?_))
    · rw [e, if_neg h]; unfold eff4; simp [h']
    · rw [e, if_neg h]; unfold eff4; simp [h']
  have h2 : ∀ x : Bool, TP (fun k => cE.j2 k op x op a b s rs) (fun nm => nm = if x = true then (2, -1) else eff3 op a) := by
    intro x
    refine TP.step (fun k => by rw [cE.j2]) ?_
    refine TP.ite (fun h => TP.now (by rw [if_pos h])) (fun h => TP.ite (fun h' => (h3 _).mono fun r e => ?_) (fun h' => TP.ite (fun h'' => (h3 _).mono fun r e => ?_) (fun h'' => (h3 _).mono fun r e => ?_)))
    · rw [e, if_neg h]; unfold eff3; simp [h']
    · rw [e, if_neg h]; unfold eff3; simp [h', h'']
    · rw [e, if_neg h]; unfold eff3; simp [h', h'']
  have h1 : ∀ x : Bool, TP (fun k => cE.j1 k op x op a b s rs) (fun nm => nm = if x = true then (1, -1) else eff2 op a) := by
    intro x
    refine TP.step (fun k => by rw [cE.j1]) ?_
    refine TP.ite (fun h => TP.now (by rw [if_pos h])) (fun h => TP.ite (fun h1 => (h2 _).mono fun r e => ?_) (fun h1 => TP.ite (fun h3 => (h2 _).mono fun r e => ?_) (fun h3 => TP.ite (fun h4 => (h2 _).mono fun r e => ?_) (fun h4 => (h2 _).mono fun r e => ?_))))
    all_goals (rw [e, if_neg h]; unfold eff2; simp [*])
  have h0 : ∀ x : Bool, TP (fun k => cE.j0 k op x op a b s rs) (fun nm => nm = if x = true then (0, 0) else eff0 op a) := by
    intro x
    refine TP.step (fun k => by rw [cE.j0]) ?_
    refine TP.ite (fun h => TP.now (by rw [if_pos h])) (fun h => TP.ite (fun e1 => TP.now (by rw [if_neg h]; unfold eff0; rw [if_pos e1])) (fun e1 => TP.ite (fun e2 => (h1 _).mono fun r e => ?_) (fun e2 => TP.ite (fun e3 => (h1 _).mono fun r e => ?_) (fun e3 => TP.ite (fun e4 => (h1 _).mono fun r e => ?_) (fun e4 => TP.ite (fun e5 => (h1 _).mono fun r e => ?_) (fun e5 => TP.ite (fun e6 => (h1 _).mono fun r e => ?_) (fun e6 => (h1 _).mono fun r e => ?_)))))))
    all_goals (rw [e, if_neg h]; unfold eff0 eff1; simp [*])
  unfold cE.f
  refine TP.ite (fun h => TP.now (by unfold effE; rw [if_pos h])) (fun h => TP.ite (fun h' => (h0 _).mono fun r e => ?_) (fun h' => (h0 _).mono fun r e => ?_))
  · rw [e]; unfold effE; simp [h, h']
  · rw [e]; unfold effE; simp [h, h']
structure Fair (n op a i : Int) : Prop where
  dup : op = 2 → 0 ≤ a ∧ a ≤ 65535
  nat : op = 22 → 0 ≤ a ∧ a ≤ 9
  par : op = 32 ∨ op = 34 → 0 ≤ a ∧ a ≤ 1000
  jmp : op = 15 ∨ op = 17 ∨ op = 18 ∨ op = 25 → i < a ∧ a < n
structure Need (op : Int) (nm : Int × Int) : Prop where
  take : op = 10 → nm = (0, 1)
  stop : op = 16 ∨ op = 17 → nm = (0, 0)
  most : op ≠ 10 → op ≠ 16 → op ≠ 17 → 1 ≤ nm.1
  left : 0 ≤ nm.1 + nm.2
  lo : -3000 ≤ nm.2
  hi : nm.2 ≤ 1
theorem need_of {n op a i : Int} (h : Fair n op a i) : Need op (effE op a) := by
  obtain ⟨h2, h22, h3, _⟩ := h
  unfold effE
  by_cases e : op = 10
  · subst e; exact ⟨fun _ => rfl, by simp, by simp, by simp, by simp, by simp⟩
  rw [if_neg e]
  by_cases e' : op = 17 ∨ op = 16
  · rw [if_pos e']
    exact ⟨fun h => absurd h e, fun _ => rfl, fun _ h h' => by omega, by simp, by simp, by simp⟩
  rw [if_neg e']
  have fin : ∀ nm : Int × Int, 1 ≤ nm.1 → 0 ≤ nm.1 + nm.2 → -3000 ≤ nm.2 → nm.2 ≤ 1 → Need op nm := fun nm a b c d => ⟨fun h => absurd h e, fun h => by omega, fun _ _ _ => a, b, c, d⟩
  unfold eff0
  by_cases e2 : op = 2
  · rw [if_pos e2]
    have := h2 e2
    refine fin _ ?_ ?_ (by simp) (by simp)
    all_goals (simp only; unfold wrap64; omega)
  rw [if_neg e2]
  unfold eff1
  split
  · exact fin _ (by simp) (by simp) (by simp) (by simp)
  unfold eff2
  split
  · exact fin _ (by simp) (by simp) (by simp) (by simp)
  unfold eff3
  split
  · exact fin _ (by simp) (by simp) (by simp) (by simp)
  unfold eff4
  split
  · rename_i h
    have : 0 ≤ a ∧ a ≤ 1000 := by
      rcases h with h | h
      · have := h22 h; omega
      · exact h3 (.inl h)
    refine fin _ ?_ ?_ ?_ ?_
    all_goals (simp only; unfold wrap64; omega)
  split
  · rename_i h
    have := h3 (.inr h)
    refine fin _ ?_ ?_ ?_ ?_
    all_goals (simp only; unfold wrap64; omega)
  · exact fin _ (by simp) (by simp) (by simp) (by simp)
structure HI (l : List S56) (hs : List Int) (i : Int) : Prop where
  len : hs.length = l.length
  rng : ∀ j : Int, 0 ≤ j → j < (l.length : Int) → -1 ≤ rdOf 0 hs j ∧ rdOf 0 hs j ≤ 20000
  fst : rdOf 0 hs 0 = 1
  fin : ∀ j : Int, 0 ≤ j → j < i → j < (l.length : Int) → 0 ≤ rdOf 0 hs j → ((R6 l j).f0 = 21 → rdOf 0 hs j = 1) ∧ (rdOf 0 hs j = 0 → (R6 l j).f0 = 10 ∨ (R6 l j).f0 = 17 ∨ (R6 l j).f0 = 16) ∧
    (j + 1 = (l.length : Int) → (R6 l j).f0 = 21 ∨ (R6 l j).f0 = 16 ∨ (R6 l j).f0 = 17)
theorem rdOf_set {hs : List Int} {p j : Int} (h : Int) (hp : 0 ≤ p) (hj : 0 ≤ j) (hl : j < (hs.length : Int)) : rdOf 0 (hs.set p.toNat h) j = if j = p then h else rdOf 0 hs j := by
  unfold rdOf
  simp only [List.getD_eq_getElem?_getD, List.getElem?_set]
  by_cases e : j = p
  · subst e
    have h1 : j.toNat < hs.length := by omega
    simp [h1]
  · rw [if_neg e, if_neg (by omega)]
theorem reach_spec {l : List S56} {hs : List Int} {i p h : Int} (H : HI l hs i) (hi : 0 ≤ i) (hp : i < p) (h0 : 0 ≤ h) (h1 : h ≤ 20000) :
    ∃ o, reach1 hs p h = some o ∧ ∀ hs', o = some hs' → HI l hs' i ∧ p < (l.length : Int) ∧ rdOf 0 hs' i = rdOf 0 hs i := by
  unfold reach1
  by_cases hc : p ≥ (hs.length : Int)
  · rw [if_pos hc]
    exact ⟨none, rfl, fun _ h => by cases h⟩
  rw [if_neg hc, if_pos (show 0 ≤ p by omega)]
  have hlen := H.len
  have key : HI l (hs.set p.toNat h) i ∧ p < (l.length : Int) ∧ rdOf 0 (hs.set p.toNat h) i = rdOf 0 hs i := by
    have rs : ∀ j : Int, 0 ≤ j → j < (l.length : Int) → rdOf 0 (hs.set p.toNat h) j = if j = p then h else rdOf 0 hs j := fun j a b => rdOf_set h (by omega) a (by omega)
    refine ⟨⟨by simp [hlen], fun j a b => ?_, ?_, fun j a b c => ?_⟩, by omega, ?_⟩
    · rw [rs j a b]
      split
      · omega
      · exact H.rng j a b
    · rw [rs 0 (by omega) (by omega), if_neg (by omega)]
      exact H.fst
    · rw [rs j a c, if_neg (by omega)]
      exact H.fin j a b c
    · rw [rs i hi (by omega), if_neg (by omega)]
  split
  · split
    · exact ⟨_, rfl, fun hs' e => by cases e; exact key⟩
    · exact ⟨none, rfl, fun _ h => by cases h⟩
  · exact ⟨_, rfl, fun hs' e => by cases e; exact key⟩
theorem heights_loop (l : List S56) (hl : l.length ≤ 17592186044416) (hf : ∀ i : Int, 0 ≤ i → i < (l.length : Int) → Fair (l.length : Int) (R6 l i).f0 (R6 l i).f1 i) :
    ∀ (m : Nat) (i : Int) (hs : List Int), (l.length : Int) - i ≤ m → 0 ≤ i → HI l hs i → TP (fun k => cHt.l0 k l hs i) (fun r => r.2 = true → HI l r.1 (l.length : Int)) := by
  intro m
  induction m with
  | zero =>
    intro i hs hm hi H
    refine TP.step (fun k => by rw [cHt.l0, if_neg (show ¬ i < (l.length : Int) by omega)]) (TP.now fun _ => ?_)
    exact ⟨H.len, H.rng, H.fst, fun j a b c => H.fin j a (by omega) c⟩
  | succ m ih =>
    intro i hs hm hi H
    by_cases hlt : i < (l.length : Int)
    case neg =>
      refine TP.step (fun k => by rw [cHt.l0, if_neg hlt]) (TP.now fun _ => ?_)
      exact ⟨H.len, H.rng, H.fst, fun j a b c => H.fin j a (by omega) c⟩
    refine TP.step (fun k => by rw [cHt.l0, if_pos hlt, if_pos hi]) ?_
    have hw : wrap64 (i + 1) = i + 1 := by unfold wrap64; omega
    rw [hw]
    have on : ∀ hs', HI l hs' i → (0 ≤ rdOf 0 hs' i → ((R6 l i).f0 = 21 → rdOf 0 hs' i = 1) ∧ (rdOf 0 hs' i = 0 → (R6 l i).f0 = 10 ∨ (R6 l i).f0 = 17 ∨ (R6 l i).f0 = 16) ∧
        (i + 1 = (l.length : Int) → (R6 l i).f0 = 21 ∨ (R6 l i).f0 = 16 ∨ (R6 l i).f0 = 17)) → TP (fun k => cHt.l0 k l hs' (i + 1)) (fun r => r.2 = true → HI l r.1 (l.length : Int)) := by
      intro hs' H' h
      refine ih (i + 1) hs' (by omega) (by omega) ⟨H'.len, H'.rng, H'.fst, fun j a b c d => ?_⟩
      by_cases e : j = i
      · subst e; exact h d
      · exact H'.fin j a (by omega) c d
    refine TP.ite (fun h => on hs H (fun h' => by omega)) (fun h => ?_)
    have hr := H.rng i hi hlt
    refine TP.bind (effect_spec _ _ _ _ _) (fun nm hnm => ?_)
    have N := need_of (hf i hi hlt)
    rw [← hnm] at N
    refine TP.ite (fun _ => TP.now (fun h => by cases h)) (fun hn => TP.ite (fun _ => TP.now (fun h => by cases h)) (fun hm' => ?_))
    have F := hf i hi hlt
    have z : rdOf 0 hs i = 0 → (R6 l i).f0 = 10 ∨ (R6 l i).f0 = 17 ∨ (R6 l i).f0 = 16 := by
      intro e
      by_cases e1 : (R6 l i).f0 = 10
      · exact .inl e1
      by_cases e2 : (R6 l i).f0 = 17
      · exact .inr (.inl e2)
      by_cases e3 : (R6 l i).f0 = 16
      · exact .inr (.inr e3)
      have := N.most e1 e3 e2
      omega
    refine TP.ite (fun e1 => TP.ite (fun e2 => on hs H (fun _ => ⟨fun _ => e2, z, fun _ => .inl e1⟩)) (fun _ => TP.now (fun h => by cases h))) (fun e1 => ?_)
    refine TP.ite (fun e2 => on hs H (fun _ => ⟨fun e => absurd e e1, z, fun _ => .inr (.inl e2)⟩)) (fun e2 => ?_)
    have w2 : wrap64 (rdOf 0 hs i + nm.2) = rdOf 0 hs i + nm.2 := by have := N.lo; have := N.hi; unfold wrap64; omega
    have b1 : 0 ≤ rdOf 0 hs i + nm.2 := by have := N.left; omega
    have b2 : rdOf 0 hs i + nm.2 ≤ 20000 := by have := N.hi; omega
    rw [w2]
    refine TP.ite (fun e3 => ?_) (fun e3 => ?_)
    · obtain ⟨o, ho, hr'⟩ := reach_spec H hi (F.jmp (.inr (.inl e3))).1 (show 0 ≤ rdOf 0 hs i by omega) hr.2
      rw [ho]
      simp only [Option.bind_some]
      cases o with
      | none => exact TP.now (fun h => by cases h)
      | some hs1 =>
        obtain ⟨H1, _, e4⟩ := hr' hs1 rfl
        exact on hs1 H1 (fun _ => ⟨fun e => absurd e e1, by rw [e4]; exact z, fun _ => .inr (.inr e3)⟩)
    · have mid : ∃ o, (if (R6 l i).f0 = 18 ∨ (R6 l i).f0 = 15 ∨ (R6 l i).f0 = 25 then reach1 hs (R6 l i).f1 (rdOf 0 hs i + nm.2) else some (some hs)) = some o ∧ ∀ hs', o = some hs' → HI l hs' i ∧ rdOf 0 hs' i = rdOf 0 hs i := by
        split
        · rename_i e
          obtain ⟨o, ho, hr'⟩ := reach_spec H hi (F.jmp (by omega)).1 b1 b2
          exact ⟨o, ho, fun hs' e => ⟨(hr' hs' e).1, (hr' hs' e).2.2⟩⟩
        · exact ⟨_, rfl, fun hs' e => by cases e; exact ⟨H, rfl⟩⟩
      obtain ⟨o, ho, hmid⟩ := mid
      rw [ho]
      simp only [Option.bind_some]
      cases o with
      | none => exact TP.now (fun h => by cases h)
      | some hs1 =>
        obtain ⟨H1, e4⟩ := hmid hs1 rfl
        obtain ⟨o2, ho2, hr2⟩ := reach_spec H1 hi (show i < i + 1 by omega) b1 b2
        simp only [ho2, Option.bind_some]
        cases o2 with
        | none => exact TP.now (fun h => by cases h)
        | some hs2 =>
          obtain ⟨H2, hlast, e5⟩ := hr2 hs2 rfl
          exact on hs2 H2 (fun _ => ⟨fun e => absurd e e1, by rw [e5, e4]; exact z, fun e => by omega⟩)
theorem heights_spec {l0 : List S30} {l1 : List S36} {a : Int} (h0 : 0 ≤ a) (h1 : a < (l0.length : Int)) (hn : (R3 l0 a).f5.length ≠ 0) (hl : (R3 l0 a).f5.length ≤ 17592186044416)
    (hf : ∀ i : Int, 0 ≤ i → i < ((R3 l0 a).f5.length : Int) → Fair ((R3 l0 a).f5.length : Int) (R6 (R3 l0 a).f5 i).f0 (R6 (R3 l0 a).f5 i).f1 i) :
    TP (fun k => cHt.f k l0 l1 a) (fun r => r.2 = true → HI (R3 l0 a).f5 r.1 ((R3 l0 a).f5.length : Int)) := by
  unfold cHt.f
  simp only [if_pos h0, if_pos h1, if_neg hn, if_pos hl]
  refine heights_loop _ hl hf _ 0 _ (Int.le_of_eq (by rw [Int.sub_zero])) (Int.le_refl _) ?_
  have rs : ∀ j : Int, 0 ≤ j → j < ((R3 l0 a).f5.length : Int) → rdOf 0 ((List.replicate (R3 l0 a).f5.length (-1 : Int)).set 0 1) j = if j = 0 then 1 else -1 := by
    intro j a' b
    have := rdOf_set (hs := List.replicate (R3 l0 a).f5.length (-1 : Int)) (p := 0) 1 (by omega) a' (by simpa using b)
    rw [show (0 : Int).toNat = 0 from rfl] at this
    rw [this]
    split
    · rfl
    · unfold rdOf
      have : j.toNat < (R3 l0 a).f5.length := by omega
      simp [List.getElem?_replicate, this]
  exact ⟨by simp, fun j a' b => by rw [rs j a' b]; split <;> omega, by rw [rs 0 (by omega) (by omega)]; rfl, fun j a' b => by omega⟩
end Go.Proofs.YtlbcnacfgickcaaGreatDoor.A
