/- Both Compares are an order on values that are right and hold no NaN: plain Lean. -/
import Derived.Test.YtmpmbnmldmpmiaaGreatDoorOrdP
set_option linter.unusedVariables false
set_option linter.unusedSimpArgs false
namespace Go.Proofs.YtmpmbnmldmpmiaaGreatDoor.Sim
open Go Go.RowKit Go.Proofs.YtmpmbnmldmpmiaaGreatDoor.A Go.Proofs.YtmpmbnmldmpmiaaGreatDoorW.PrintWords Go.Proofs.YtmpmbnmldmpmiaaGreatDoorW.PrintLast Go.Proofs.YtmpmbnmldmpmiaaGreatDoorW.PrintMore Go.Proofs.YtmpmbnmldmpmiaaGreatDoorW.FM
/-- A comparison is an order on some things. -/
structure OrdOn {α : Type} (f : α → α → Option Int) (P : α → Prop) : Prop where
  two : ∀ x y, P x → P y → ∃ r, f x y = some r ∧ f y x = some (-r) ∧ (r = -1 ∨ r = 0 ∨ r = 1)
  tr : ∀ x y z r s t, P x → P y → P z → f x y = some r → f y z = some s → f x z = some t → r ≤ 0 → s ≤ 0 → t ≤ 0
section
variable {α β : Type} {f : α → α → Option Int} {P : α → Prop}
theorem OrdOn.self (h : OrdOn f P) {x : α} (hx : P x) : f x x = some 0 := by
  obtain ⟨r, h1, h2, _⟩ := h.two x x hx hx
  rw [h1] at h2
  injection h2 with h2
  rw [h1]
  congr 1
  omega
theorem OrdOn.back (h : OrdOn f P) {x y : α} {r : Int} (hx : P x) (hy : P y) (e : f x y = some r) : f y x = some (-r) ∧ (r = -1 ∨ r = 0 ∨ r = 1) := by
  obtain ⟨r', h1, h2, h3⟩ := h.two x y hx hy
  rw [e] at h1
  injection h1 with h1
  subst h1
  exact ⟨h2, h3⟩
theorem OrdOn.strict (h : OrdOn f P) {x y z : α} {r s t : Int} (hx : P x) (hy : P y) (hz : P z) (e1 : f x y = some r) (e2 : f y z = some s) (e3 : f x z = some t) (h1 : r ≤ 0) (h2 : s ≤ 0) (h0 : t = 0) : r = 0 ∧ s = 0 := by
  subst h0
  have b1 := (h.back hx hy e1).1
  have b2 := (h.back hy hz e2).1
  have b3 := (h.back hx hz e3).1
  have k1 := h.tr z x y _ _ _ hz hx hy b3 e1 b2 (by omega) h1
  have k2 := h.tr y z x _ _ _ hy hz hx e2 b3 b1 h2 (by omega)
  omega
theorem OrdOn.of_key (κ : α → Int) (h : ∀ x y, P x → P y → f x y = some (cmpI (κ x) (κ y))) : OrdOn f P := by
  refine ⟨fun x y hx hy => ⟨_, h x y hx hy, ?_, ?_⟩, fun x y z r s t hx hy hz e1 e2 e3 h1 h2 => ?_⟩
  · rw [h y x hy hx]
    congr 1
    unfold cmpI
    split <;> split <;> omega
  · unfold cmpI
    split
    · exact .inl rfl
    · split
      · exact .inr (.inr rfl)
      · exact .inr (.inl rfl)
  · rw [h x y hx hy] at e1
    rw [h y z hy hz] at e2
    rw [h x z hx hz] at e3
    injection e1 with e1
    injection e2 with e2
    injection e3 with e3
    unfold cmpI at e1 e2 e3
    split at e1 <;> split at e2 <;> split at e3 <;> (try split at e1) <;> (try split at e2) <;> (try split at e3) <;> omega
theorem OrdOn.congr {g : α → α → Option Int} (h : OrdOn g P) (e : ∀ x y, P x → P y → f x y = g x y) : OrdOn f P :=
  ⟨fun x y hx hy => by rw [e x y hx hy, e y x hy hx]; exact h.two x y hx hy, fun x y z r s t hx hy hz e1 e2 e3 => by
    rw [e x y hx hy] at e1
    rw [e y z hy hz] at e2
    rw [e x z hx hz] at e3
    exact h.tr x y z r s t hx hy hz e1 e2 e3⟩
theorem OrdOn.comap {Q : β → Prop} {a : β → α} (h : OrdOn f P) (hq : ∀ x, Q x → P (a x)) : OrdOn (fun x y => f (a x) (a y)) Q :=
  ⟨fun x y hx hy => h.two _ _ (hq x hx) (hq y hy), fun x y z r s t hx hy hz => h.tr _ _ _ r s t (hq x hx) (hq y hy) (hq z hz)⟩
/-- One comparison, then another. -/
theorem OrdOn.next {g : α → α → Option Int} (hf : OrdOn f P) (hg : OrdOn g P) : OrdOn (fun x y => (f x y).bind fun c => if c ≠ 0 then some c else g x y) P := by
  refine ⟨fun x y hx hy => ?_, fun x y z r s t hx hy hz e1 e2 e3 h1 h2 => ?_⟩
  · obtain ⟨c, c1, c2, c3⟩ := hf.two x y hx hy
    simp only [c1, c2, Option.bind_some]
    by_cases hc : c = 0
    · subst hc
      obtain ⟨r, r1, r2, r3⟩ := hg.two x y hx hy
      exact ⟨r, by simpa using r1, by simpa using r2, r3⟩
    · rw [if_pos hc, if_pos (by omega)]
      exact ⟨c, rfl, rfl, c3⟩
  · obtain ⟨c1, a1, _, _⟩ := hf.two x y hx hy
    obtain ⟨c2, a2, _, _⟩ := hf.two y z hy hz
    obtain ⟨c3, a3, _, _⟩ := hf.two x z hx hz
    simp only [a1, Option.bind_some] at e1
    simp only [a2, Option.bind_some] at e2
    simp only [a3, Option.bind_some] at e3
    have m1 : c1 ≤ 0 := by
      by_cases hc : c1 = 0
      · omega
      · rw [if_pos hc] at e1
        injection e1 with e1
        omega
    have m2 : c2 ≤ 0 := by
      by_cases hc : c2 = 0
      · omega
      · rw [if_pos hc] at e2
        injection e2 with e2
        omega
    have m3 := hf.tr x y z _ _ _ hx hy hz a1 a2 a3 m1 m2
    by_cases hc : c3 = 0
    · obtain ⟨z1, z2⟩ := hf.strict hx hy hz a1 a2 a3 m1 m2 hc
      rw [if_neg (by omega)] at e1 e2 e3
      exact hg.tr x y z r s t hx hy hz e1 e2 e3 h1 h2
    · rw [if_pos hc] at e3
      injection e3 with e3
      omega
/-- Lists, thing by thing; the shorter one ahead. -/
def lexL (f : α → α → Option Int) : List α → List α → Option Int
  | [], [] => some 0
  | [], _ :: _ => some (-1)
  | _ :: _, [] => some 1
  | x :: l, y :: m => (f x y).bind fun c => if c = 0 then lexL f l m else some c
theorem lexL_ord (h : OrdOn f P) : OrdOn (lexL f) (fun l => ∀ x ∈ l, P x) := by
  constructor
  · intro l
    induction l with
    | nil =>
      intro m hl hm
      cases m with
      | nil => exact ⟨0, rfl, rfl, .inr (.inl rfl)⟩
      | cons y m => exact ⟨-1, rfl, rfl, .inl rfl⟩
    | cons x l ih =>
      intro m hl hm
      cases m with
      | nil => exact ⟨1, rfl, rfl, .inr (.inr rfl)⟩
      | cons y m =>
        obtain ⟨c, c1, c2, c3⟩ := h.two x y (hl x List.mem_cons_self) (hm y List.mem_cons_self)
        obtain ⟨r, r1, r2, r3⟩ := ih m (fun a ha => hl a (List.mem_cons_of_mem _ ha)) (fun a ha => hm a (List.mem_cons_of_mem _ ha))
        simp only [lexL, c1, c2, Option.bind_some]
        by_cases hc : c = 0
        · subst hc
          exact ⟨r, by simpa using r1, by simpa using r2, r3⟩
        · rw [if_neg hc, if_neg (by omega)]
          exact ⟨c, rfl, rfl, c3⟩
  · intro l
    induction l with
    | nil =>
      intro m n r s t hl hm hn e1 e2 e3 h1 h2
      cases n with
      | nil => simp only [lexL] at e3; injection e3 with e3; omega
      | cons z n => simp only [lexL] at e3; injection e3 with e3; omega
    | cons x l ih =>
      intro m n r s t hl hm hn e1 e2 e3 h1 h2
      cases m with
      | nil => simp only [lexL] at e1; injection e1 with e1; omega
      | cons y m =>
        cases n with
        | nil => simp only [lexL] at e2; injection e2 with e2; omega
        | cons z n =>
          have px := hl x List.mem_cons_self
          have py := hm y List.mem_cons_self
          have pz := hn z List.mem_cons_self
          obtain ⟨c1, a1, _, _⟩ := h.two x y px py
          obtain ⟨c2, a2, _, _⟩ := h.two y z py pz
          obtain ⟨c3, a3, _, _⟩ := h.two x z px pz
          simp only [lexL, a1, Option.bind_some] at e1
          simp only [lexL, a2, Option.bind_some] at e2
          simp only [lexL, a3, Option.bind_some] at e3
          have m1 : c1 ≤ 0 := by
            by_cases hc : c1 = 0
            · omega
            · rw [if_neg hc] at e1
              injection e1 with e1
              omega
          have m2 : c2 ≤ 0 := by
            by_cases hc : c2 = 0
            · omega
            · rw [if_neg hc] at e2
              injection e2 with e2
              omega
          have m3 := h.tr x y z _ _ _ px py pz a1 a2 a3 m1 m2
          by_cases hc : c3 = 0
          · obtain ⟨z1, z2⟩ := h.strict px py pz a1 a2 a3 m1 m2 hc
            rw [if_pos z1] at e1
            rw [if_pos z2] at e2
            rw [if_pos hc] at e3
            exact ih m n r s t (fun a ha => hl a (List.mem_cons_of_mem _ ha)) (fun a ha => hm a (List.mem_cons_of_mem _ ha)) (fun a ha => hn a (List.mem_cons_of_mem _ ha)) e1 e2 e3 h1 h2
          · rw [if_neg hc] at e3
            injection e3 with e3
            omega
/-- Things of one key each are ordered; things of two keys stand as their keys. -/
theorem OrdOn.glue (κ : α → Int) (h : ∀ k, OrdOn f (fun x => P x ∧ κ x = k)) (e : ∀ x y, P x → P y → κ x ≠ κ y → f x y = some (cmpI (κ x) (κ y))) : OrdOn f P := by
  constructor
  · intro x y hx hy
    by_cases hk : κ x = κ y
    · exact (h (κ x)).two x y ⟨hx, rfl⟩ ⟨hy, hk.symm⟩
    · refine ⟨_, e x y hx hy hk, ?_, ?_⟩
      · rw [e y x hy hx (fun h => hk h.symm)]
        congr 1
        unfold cmpI
        split <;> split <;> omega
      · unfold cmpI
        split
        · exact .inl rfl
        · split
          · exact .inr (.inr rfl)
          · exact .inr (.inl rfl)
  · intro x y z r s t hx hy hz e1 e2 e3 h1 h2
    have m1 : κ x ≤ κ y := by
      by_cases hk : κ x = κ y
      · omega
      · rw [e x y hx hy hk] at e1
        injection e1 with e1
        unfold cmpI at e1
        split at e1
        · omega
        · split at e1 <;> omega
    have m2 : κ y ≤ κ z := by
      by_cases hk : κ y = κ z
      · omega
      · rw [e y z hy hz hk] at e2
        injection e2 with e2
        unfold cmpI at e2
        split at e2
        · omega
        · split at e2 <;> omega
    by_cases hk : κ x = κ z
    · exact (h (κ x)).tr x y z r s t ⟨hx, rfl⟩ ⟨hy, by omega⟩ ⟨hz, hk.symm⟩ e1 e2 e3 h1 h2
    · rw [e x z hx hz hk] at e3
      injection e3 with e3
      unfold cmpI at e3
      rw [if_pos (by omega)] at e3
      omega
end
theorem bytes_lex : ∀ (a b : List UInt8), some (Lib.compareBytes a b) = lexL (fun (x y : UInt8) => some (cmpI (x.toNat : Int) (y.toNat : Int))) a b
  | [], [] => rfl
  | [], _ :: _ => rfl
  | _ :: _, [] => rfl
  | a :: x, b :: y => by
    have ih := bytes_lex x y
    rw [lexL, ← ih, Lib.compareBytes]
    simp only [Option.bind_some, cmpI]
    by_cases h1 : a < b
    · have h1' : a.toNat < b.toNat := h1
      rw [if_pos h1, if_pos (show (a.toNat : Int) < (b.toNat : Int) by omega)]
      simp
    · have h1' : ¬ a.toNat < b.toNat := h1
      rw [if_neg h1, if_neg (show ¬ (a.toNat : Int) < (b.toNat : Int) by omega)]
      by_cases h2 : b < a
      · have h2' : b.toNat < a.toNat := h2
        rw [if_pos h2, if_pos (show (b.toNat : Int) < (a.toNat : Int) by omega)]
        simp
      · have h2' : ¬ b.toNat < a.toNat := h2
        rw [if_neg h2, if_neg (show ¬ (b.toNat : Int) < (a.toNat : Int) by omega)]
        simp
theorem bytes_ord : OrdOn (fun (a b : ByteArray) => some (Lib.compareBytes a.data.toList b.data.toList)) (fun _ => True) := by
  have h1 : OrdOn (fun (x y : UInt8) => some (cmpI (x.toNat : Int) (y.toNat : Int))) (fun _ => True) := OrdOn.of_key (fun x => (x.toNat : Int)) fun x y _ _ => rfl
  have h2 := (lexL_ord h1).comap (Q := fun _ : ByteArray => True) (a := fun b : ByteArray => b.data.toList) fun x _ y _ => trivial
  exact h2.congr fun x y _ _ => bytes_lex _ _
theorem seqL_shift (g : Nat → Option Int) (z : Int) : ∀ (n i : Nat), seqL g z n (i + 1) = seqL (fun j => g (j + 1)) z n i
  | 0, i => rfl
  | n + 1, i => by
    rw [seqL, seqL]
    congr 1
    funext c
    rw [seqL_shift g z n (i + 1)]
theorem lists_lex (f : S27 → S27 → Option Int) : ∀ (l m : List S27), listsV f l m = lexL f l m
  | [], [] => rfl
  | [], y :: m => by
    unfold listsV
    simp only [List.length_nil, Nat.zero_min, seqL, lexL]
    congr 1
    unfold signL
    rw [if_pos (by simp <;> omega)]
  | x :: l, [] => by
    unfold listsV
    simp only [List.length_nil, Nat.min_zero, seqL, lexL]
    congr 1
    unfold signL
    rw [if_neg (by simp <;> omega), if_pos (by simp <;> omega)]
  | x :: l, y :: m => by
    have ih := lists_lex f l m
    unfold listsV at ih ⊢
    have e1 : min (x :: l).length (y :: m).length = min l.length m.length + 1 := by simp only [List.length_cons]; omega
    have e2 : decide (((x :: l).length : Int) < (y :: m).length) = decide ((l.length : Int) < m.length) := by simp only [List.length_cons]; rw [decide_eq_decide]; omega
    have e3 : decide (((x :: l).length : Int) > (y :: m).length) = decide ((l.length : Int) > m.length) := by simp only [List.length_cons]; rw [decide_eq_decide]; omega
    rw [e1, e2, e3, seqL, seqL_shift, lexL, ← ih]
    simp only [List.getElem?_cons_zero, List.getElem?_cons_succ, Option.bind_some]
/-- Is there no NaN in a value, so many levels deep? -/
def plainV : Nat → S27 → Bool
  | 0, _ => true
  | d + 1, x => !fNan x.f1 && x.f3.all (plainV d)
def Fine (d : Nat) (x : S27) : Prop := G27 x ∧ rightV d x = true ∧ plainV d x = true
theorem mem_byKeys {d : Nat} {x : S27} (fx : RightF d x) (h6 : x.f0 = 6) : ∀ y ∈ byKeysL x, y ∈ x.f3 := by
  intro y hy
  unfold byKeysL at hy
  obtain ⟨k, hk, rfl⟩ := List.mem_map.1 hy
  have hk := (srt_perm x.f4).mem_iff.1 hk
  obtain ⟨j, hj, rfl⟩ := List.mem_iff_getElem.1 hk
  have hj3 : j < x.f3.length := by rw [← fx.keys h6]; exact hj
  rw [getL_at fx.apart hj hj3]
  exact List.getElem_mem hj3
theorem ref_ord : ∀ d, OrdOn (refV (d + 1)) (Fine d) := by
  intro d
  induction d with
  | zero => exact ⟨fun x y hx => by have := hx.2.1; simp [rightV] at this, fun x y z r s t hx => by have := hx.2.1; simp [rightV] at this⟩
  | succ d ih =>
  have kids : ∀ x, Fine (d + 1) x → ∀ y ∈ x.f3, Fine d y := by
    intro x hx y hy
    obtain ⟨hg, hr, hp⟩ := hx
    obtain ⟨_, _, _, _, _, g6⟩ := hg
    rw [plainV, Bool.and_eq_true] at hp
    exact ⟨g6 y hy, (rightV_open hr).kids y hy, List.all_eq_true.1 hp.2 y hy⟩
  refine OrdOn.glue (fun x => x.f0) (fun k => ?_) fun x y hx hy hk => ?_
  rotate_left
  · rw [refV, if_pos hk]
    have fx := rightV_open hx.2.1
    have fy := rightV_open hy.2.1
    have h1 := fx.lo
    have h2 := fx.hi
    have h3 := fy.lo
    have h4 := fy.hi
    have := signL_kinds ⟨x.f0.toNat, by omega⟩ ⟨y.f0.toNat, by omega⟩ (fun e => hk (by have := congrArg _root_.Fin.val e; simp at this; omega))
    simp only [Int.toNat_of_nonneg h1, Int.toNat_of_nonneg h3] at this
    rw [this]
  have ne0 : ∀ x y : S27, (Fine (d + 1) x ∧ x.f0 = k) → (Fine (d + 1) y ∧ y.f0 = k) → ¬ x.f0 ≠ y.f0 := fun x y hx hy => by rw [hx.2, hy.2]; simp
  by_cases k3 : k = 3
  · refine OrdOn.of_key (fun x => (fkey x.f1).getD 0) fun x y hx hy => ?_
    rw [refV, if_neg (ne0 x y hx hy), if_pos (by rw [hx.2, k3])]
    have px : fNan x.f1 = false := by have := hx.1.2.2; rw [plainV, Bool.and_eq_true] at this; simpa using this.1
    have py : fNan y.f1 = false := by have := hy.1.2.2; rw [plainV, Bool.and_eq_true] at this; simpa using this.1
    have e := signL_key x.f1 y.f1
    rw [px] at e ⊢
    simp only [Bool.false_eq_true, if_false] at e ⊢
    rw [e, numbersL_key]
    rw [fNan_key] at px py
    cases hx' : fkey x.f1 with
    | none => rw [hx'] at px; cases px
    | some p =>
      cases hy' : fkey y.f1 with
      | none => rw [hy'] at py; cases py
      | some q => rfl
  by_cases k4 : k = 4
  · refine (bytes_ord.comap (Q := fun x : S27 => Fine (d + 1) x ∧ x.f0 = k) (a := fun x : S27 => x.f2) fun _ _ => trivial).congr fun x y hx hy => ?_
    rw [refV, if_neg (ne0 x y hx hy), if_neg (by rw [hx.2]; exact k3), if_pos (by rw [hx.2, k4]), cmpBytes_sign, ByteArray.toList_eq, ByteArray.toList_eq]
  by_cases k5 : k = 5
  · refine ((lexL_ord ih).comap (Q := fun x : S27 => Fine (d + 1) x ∧ x.f0 = k) (a := fun x : S27 => x.f3) fun x hx => kids x hx.1).congr fun x y hx hy => ?_
    rw [refV, if_neg (ne0 x y hx hy), if_neg (by rw [hx.2]; exact k3), if_neg (by rw [hx.2]; exact k4), if_pos (by rw [hx.2, k5]), lists_lex]
  by_cases k6 : k = 6
  · have hs : OrdOn (refV (d + 1)) (fun v => ∃ s, v = strV s) := by
      constructor
      · rintro _ _ ⟨s, rfl⟩ ⟨t, rfl⟩
        rw [refV_str, refV_str]
        exact bytes_ord.two s t trivial trivial
      · rintro _ _ _ r1 r2 r3 ⟨s, rfl⟩ ⟨t, rfl⟩ ⟨u, rfl⟩
        rw [refV_str, refV_str, refV_str]
        exact bytes_ord.tr s t u r1 r2 r3 trivial trivial trivial
    have h1 := (lexL_ord hs).comap (Q := fun x : S27 => Fine (d + 1) x ∧ x.f0 = k) (a := fun x : S27 => (srt x.f4).map strV) fun x _ v hv => by obtain ⟨s, _, rfl⟩ := List.mem_map.1 hv; exact ⟨s, rfl⟩
    have h2 := (lexL_ord ih).comap (Q := fun x : S27 => Fine (d + 1) x ∧ x.f0 = k) (a := fun x : S27 => byKeysL x) fun x hx v hv => kids x hx.1 v (mem_byKeys (rightV_open hx.1.2.1) (by rw [hx.2, k6]) v hv)
    refine (h1.next h2).congr fun x y hx hy => ?_
    rw [refV, if_neg (ne0 x y hx hy), if_neg (by rw [hx.2]; exact k3), if_neg (by rw [hx.2]; exact k4), if_neg (by rw [hx.2]; exact k5), if_pos (by rw [hx.2, k6])]
    have lx := (rightV_open hx.1.2.1).keys (by rw [hx.2, k6])
    have ly := (rightV_open hy.1.2.1).keys (by rw [hy.2, k6])
    obtain ⟨⟨_, gx2, gx3, gx4, gx5, gx6⟩, _⟩ := hx.1
    obtain ⟨⟨_, gy2, gy3, gy4, gy5, gy6⟩, _⟩ := hy.1
    rw [if_pos ⟨⟨by omega, by omega⟩, by omega, by omega⟩, lists_lex, lists_lex]
  refine OrdOn.of_key (fun _ => 0) fun x y hx hy => ?_
  rw [refV, if_neg (ne0 x y hx hy), if_neg (by rw [hx.2]; exact k3), if_neg (by rw [hx.2]; exact k4), if_neg (by rw [hx.2]; exact k5), if_neg (by rw [hx.2]; exact k6)]
  rfl
/-- value.Compare is an order on them. -/
theorem cmp_ord (d : Nat) : OrdOn (cmpV d) (Fine d) := by
  refine (ref_ord d).congr fun x y hx hy => ?_
  obtain ⟨r, h1, h2⟩ := cmp_ref d x y hx.1 hy.1 hx.2.1 hy.2.1
  rw [h1, h2]
end Go.Proofs.YtmpmbnmldmpmiaaGreatDoor.Sim
