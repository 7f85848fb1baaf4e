/- Texts of this claim, put together. -/
import Derived.Test.YtmpmbnmldmpmiaaGreatDoorRightV
import Derived.Test.YtmpmbnmldmpmiaaGreatDoorA6
import Derived.Test.YtmpmbnmldmpmiaaGreatDoorHandApart
import Derived.Laws.Strings
set_option linter.unusedVariables false
set_option linter.unusedSimpArgs false
namespace Go.Proofs.YtmpmbnmldmpmiaaGreatDoor.A
open Go.RowKit Go.Lib Go.Proofs.YtmpmbnmldmpmiaaGreatDoorW.PrintWords Go.Proofs.YtmpmbnmldmpmiaaGreatDoorW.PrintLast Go.Proofs.YtmpmbnmldmpmiaaGreatDoorW.PrintMore
/-- Not behind. -/
def leB (a b : ByteArray) : Bool := !Go.Op.bytesLess b.toList a.toList
theorem less_trans : ∀ (a b c : List UInt8), Go.Op.bytesLess a b = true → Go.Op.bytesLess b c = true → Go.Op.bytesLess a c = true
  | _, _, [], _, h => by cases ‹List UInt8› <;> simp [Go.Op.bytesLess] at h
  | _, [], _ :: _, h, _ => by cases ‹List UInt8› <;> simp [Go.Op.bytesLess] at h
  | [], _ :: _, _ :: _, _, _ => by simp [Go.Op.bytesLess]
  | x :: a, y :: b, z :: c, h, k => by
    have ih := less_trans a b c
    simp only [Go.Op.bytesLess, Bool.or_eq_true, decide_eq_true_eq, Bool.and_eq_true, beq_iff_eq, UInt8.lt_iff_toNat_lt] at h k ⊢
    rcases h with h | ⟨rfl, h⟩
    · rcases k with k | ⟨rfl, k⟩
      · exact .inl (by omega)
      · exact .inl h
    · rcases k with k | ⟨rfl, k⟩
      · exact .inl k
      · exact .inr ⟨rfl, ih h k⟩
theorem leB_iff (a b : ByteArray) : leB a b = true ↔ Go.Op.bytesLess a.toList b.toList = true ∨ a.toList = b.toList := by
  unfold leB
  rw [← bytesLess_leq]
  simp
theorem leB_trans (a b c : ByteArray) (h : leB a b = true) (k : leB b c = true) : leB a c = true := by
  rw [leB_iff] at *
  rcases h with h | h
  · rcases k with k | k
    · exact .inl (less_trans _ _ _ h k)
    · exact .inl (k ▸ h)
  · rw [h]
    exact k
theorem leB_total (a b : ByteArray) : (leB a b || leB b a) = true := by
  rw [Bool.or_eq_true]
  by_cases h : leB a b = true
  · exact .inl h
  · refine .inr ?_
    rw [leB_iff]
    unfold leB at h
    simp at h
    exact .inl h
theorem leB_anti {a b : ByteArray} (h : leB a b = true) (k : leB b a = true) : a.toList = b.toList := by
  rw [leB_iff] at h
  rcases h with h | h
  · unfold leB at k
    rw [h] at k
    cases k
  · exact h
theorem rdOf_at {l : List ByteArray} {i : Nat} (h : i < l.length) : rdOf ByteArray.empty l (i : Int) = l[i] := by
  unfold rdOf
  simp [List.getD_eq_getElem?_getD, h]
theorem merge_ev (a b : List ByteArray) (hab : a.length + b.length ≤ 8796093021952) : ∀ (m i j : Nat) (out : List ByteArray), m = (a.length - i) + (b.length - j) → i ≤ a.length → j ≤ b.length → out.length = i + j →
    Ev (fun k => colanderref03_Sorted.l0 k a b out (i : Int) (j : Int)) (out ++ List.merge (a.drop i) (b.drop j) leB) := by
  intro m
  induction m with
  | zero =>
    intro i j out hm hi hj ho
    refine Ev.succ ?_
    simp only [colanderref03_Sorted.l0]
    refine Ev.ite_neg (by omega) (Ev.succ ?_)
    simp only [colanderref03_Sorted.j1]
    refine Ev.ite_neg (by simp; omega) ?_
    rw [List.drop_eq_nil_of_le (by omega), List.drop_eq_nil_of_le (by omega)]
    simp
    exact Ev.now _
  | succ m ih =>
    intro i j out hm hi hj ho
    have stepA : ∀ {f : Nat → Option (List ByteArray)}, i < a.length → (∀ k, f k = if out.length < 8796093022208 then colanderref03_Sorted.l0 k a b (out ++ [rdOf ByteArray.empty a (i : Int)]) (wrap64 ((i : Int) + 1)) (j : Int) else none) → List.merge (a.drop i) (b.drop j) leB = a[i]! :: List.merge (a.drop (i + 1)) (b.drop j) leB → Ev f (out ++ List.merge (a.drop i) (b.drop j) leB) := by
      intro f hlt hf hmg
      refine Ev.congr hf (Ev.ite_pos (by omega) ?_)
      rw [rdOf_at hlt, wrap_succ hlt (by omega), hmg, getElem!_pos a i hlt]
      have := ih (i + 1) j (out ++ [a[i]]) (by omega) (by omega) hj (by simp; omega)
      rw [List.append_assoc] at this
      exact this
    have stepB : ∀ {f : Nat → Option (List ByteArray)}, j < b.length → (∀ k, f k = if out.length < 8796093022208 then colanderref03_Sorted.l0 k a b (out ++ [rdOf ByteArray.empty b (j : Int)]) (i : Int) (wrap64 ((j : Int) + 1)) else none) → List.merge (a.drop i) (b.drop j) leB = b[j]! :: List.merge (a.drop i) (b.drop (j + 1)) leB → Ev f (out ++ List.merge (a.drop i) (b.drop j) leB) := by
      intro f hlt hf hmg
      refine Ev.congr hf (Ev.ite_pos (by omega) ?_)
      rw [rdOf_at hlt, wrap_succ hlt (by omega), hmg, getElem!_pos b j hlt]
      have := ih i (j + 1) (out ++ [b[j]]) (by omega) hi (by omega) (by simp; omega)
      rw [List.append_assoc] at this
      exact this
    by_cases h1 : i < a.length
    · refine Ev.succ ?_
      simp only [colanderref03_Sorted.l0]
      refine Ev.ite_pos (by omega) (Ev.succ ?_)
      simp only [colanderref03_Sorted.j1]
      refine Ev.ite_pos trivial ?_
      by_cases h2 : j = b.length
      · refine Ev.ite_pos (by omega) (Ev.ite_pos (by omega) (Ev.ite_pos (by omega) (stepA h1 (fun _ => rfl) ?_)))
        rw [List.drop_eq_nil_of_le (show b.length ≤ j by omega), List.drop_eq_getElem_cons h1]
        simp [h1]
      · have h3 : j < b.length := by omega
        refine Ev.ite_neg (by omega) (Ev.ite_pos (by omega) (Ev.ite_pos (by omega) (Ev.ite_pos (by omega) (Ev.ite_pos (by omega) ?_))))
        rw [rdOf_at h1, rdOf_at h3]
        by_cases h4 : Go.Op.bytesLess (b[j]).toList (a[i]).toList = true
        · refine Ev.ite_pos h4 ?_
          rw [← rdOf_at h3]
          refine stepB h3 (fun _ => rfl) ?_
          rw [List.drop_eq_getElem_cons h1, List.drop_eq_getElem_cons h3, List.merge]
          have : leB a[i] b[j] = false := by unfold leB; rw [h4]; rfl
          simp [this, h3, ← List.drop_eq_getElem_cons h1]
        · refine Ev.ite_neg h4 ?_
          rw [← rdOf_at h1]
          refine stepA h1 (fun _ => rfl) ?_
          rw [List.drop_eq_getElem_cons h1, List.drop_eq_getElem_cons h3, List.merge]
          have : leB a[i] b[j] = true := by unfold leB; simp at h4; rw [h4]; rfl
          simp [this, h1, ← List.drop_eq_getElem_cons h3]
    · have h3 : j < b.length := by omega
      have hm0 : List.merge (a.drop i) (b.drop j) leB = b[j]! :: List.merge (a.drop i) (b.drop (j + 1)) leB := by
        rw [List.drop_eq_nil_of_le (show a.length ≤ i by omega), List.drop_eq_getElem_cons h3]
        simp [h3]
      refine Ev.succ ?_
      simp only [colanderref03_Sorted.l0]
      refine Ev.ite_neg (by omega) (Ev.succ ?_)
      simp only [colanderref03_Sorted.j1]
      refine Ev.ite_pos (by simp; omega) (Ev.ite_neg (by omega) (Ev.ite_neg (by omega) (Ev.ite_pos (by omega) (Ev.ite_pos (by omega) (stepB h3 (fun _ => rfl) hm0)))))
theorem sorted_ev : ∀ (n : Nat) (l : List ByteArray), l.length ≤ n → l.length ≤ 8796093021952 → ∃ t, Ev (fun k => colanderref03_Sorted.f k l) t ∧ t.Perm l ∧ t.Pairwise (fun a b => leB a b = true) := by
  intro n
  induction n with
  | zero =>
    intro l h1 h2
    obtain rfl : l = [] := List.length_eq_zero_iff.1 (by omega)
    refine ⟨[], Ev.succ ?_, List.Perm.refl _, List.Pairwise.nil⟩
    simp only [colanderref03_Sorted.f]
    exact Ev.now _
  | succ n ih =>
    intro l h1 h2
    by_cases hl : l.length < 2
    · refine ⟨l, Ev.succ ?_, List.Perm.refl _, ?_⟩
      · simp only [colanderref03_Sorted.f, Option.bind_some, List.nil_append, List.length_nil, Nat.zero_add]
        refine Ev.ite_pos (by omega) (Ev.ite_pos (by omega) (Ev.now _))
      · match l, hl with
        | [], _ => exact List.Pairwise.nil
        | [x], _ => exact List.pairwise_singleton _ _
        | _ :: _ :: _, h => simp at h; omega
    · have hw : wrap64 ((l.length : Int) / 2) = ((l.length / 2 : Nat) : Int) := by unfold wrap64; omega
      obtain ⟨ta, ea, pa, sa⟩ := ih (l.take (l.length / 2)) (by rw [List.length_take]; omega) (by rw [List.length_take]; omega)
      obtain ⟨tb, eb, pb, sb⟩ := ih (l.drop (l.length / 2)) (by rw [List.length_drop]; omega) (by rw [List.length_drop]; omega)
      have la := pa.length_eq
      have lb := pb.length_eq
      rw [List.length_take] at la
      rw [List.length_drop] at lb
      refine ⟨List.merge ta tb leB, Ev.succ ?_, (List.merge_perm_append leB).trans ((pa.append pb).trans (by rw [List.take_append_drop])), List.pairwise_merge leB_trans leB_total _ _ sa sb⟩
      simp only [colanderref03_Sorted.f, hw, Int.toNat_natCast]
      refine Ev.ite_neg (by omega) (Ev.ite_pos (by omega) (Ev.ite_pos (by omega) (Ev.bind ea (Ev.bind eb ?_))))
      have := merge_ev ta tb (by omega) _ 0 0 [] rfl (Nat.zero_le _) (Nat.zero_le _) rfl
      simpa using this
end Go.Proofs.YtmpmbnmldmpmiaaGreatDoor.A
set_option linter.unusedVariables false
set_option linter.unusedSimpArgs false
namespace Go.Proofs.YtmpmbnmldmpmiaaGreatDoor.A
open Go.RowKit Go.Lib Go.Proofs.YtmpmbnmldmpmiaaGreatDoorW.PrintWords Go.Proofs.YtmpmbnmldmpmiaaGreatDoorW.PrintLast Go.Proofs.YtmpmbnmldmpmiaaGreatDoorW.PrintMore
/-- A key's bytes. -/
def kd_ (x : ByteArray) : List UInt8 := x.data.toList
theorem kd_eq (x : ByteArray) : x.toList = kd_ x := ByteArray.toList_eq x
def kB : Option ByteArray → List ByteArray → Bool
  | _, [] => true
  | none, x :: r => validD (kd_ x) && kB (some x) r
  | some y, x :: r => validD (kd_ x) && (!(decide (kd_ x = kd_ y)) && kB (some x) r)
def prevB (t : List ByteArray) (i : Nat) : Option ByteArray := if i = 0 then none else t[i - 1]?
theorem keys_l0 (t : List ByteArray) (hs : ∀ x ∈ t, x.size ≤ 140737488351232) (ht : t.length ≤ 8796093021952) : ∀ (m i : Nat), m = t.length - i → i ≤ t.length → Ev (fun k => colanderref03_keys.l0 k t (i : Int)) (kB (prevB t i) (t.drop i)) := by
  intro m
  induction m with
  | zero =>
    intro i hm hi
    refine Ev.succ ?_
    simp only [colanderref03_keys.l0]
    refine Ev.ite_neg (by omega) ?_
    rw [List.drop_eq_nil_of_le (by omega)]
    cases prevB t i <;> exact Ev.now _
  | succ m ih =>
    intro i hm hi
    have hlt : i < t.length := by omega
    refine Ev.succ ?_
    simp only [colanderref03_keys.l0]
    refine Ev.ite_pos (by omega) (Ev.ite_pos (by omega) ?_)
    rw [rdOf_at hlt, wrap_succ hlt (by omega)]
    refine Ev.bind (valid_ev (hs _ (List.getElem_mem hlt))) ?_
    have hnext := ih (i + 1) (by omega) (by omega)
    have hp : prevB t (i + 1) = some t[i] := by
      unfold prevB
      rw [if_neg (by omega), Nat.add_sub_cancel, List.getElem?_eq_getElem hlt]
    rw [hp] at hnext
    rw [List.drop_eq_getElem_cons hlt]
    show Ev _ (kB (prevB t i) (t[i] :: t.drop (i + 1)))
    cases hv : validD (t[i].data.toList) with
    | false =>
      have : kB (prevB t i) (t[i] :: t.drop (i + 1)) = false := by
        have hv' : validD (kd_ t[i]) = false := hv
        cases prevB t i <;> simp [kB, hv']
      rw [this]
      exact Ev.ite_neg (by simp) (Ev.now _)
    | true =>
      have hv' : validD (kd_ t[i]) = true := hv
      refine Ev.ite_pos rfl ?_
      by_cases h0 : i = 0
      · have e : prevB t i = none := by unfold prevB; rw [if_pos h0]
        rw [e]
        simp only [kB, hv', Bool.true_and]
        exact Ev.ite_neg (by omega) hnext
      · have hlt' : i - 1 < t.length := by omega
        have e : prevB t i = some t[i - 1] := by unfold prevB; rw [if_neg h0, List.getElem?_eq_getElem hlt']
        have ew : wrap64 ((i : Int) - 1) = ((i - 1 : Nat) : Int) := by unfold wrap64; omega
        rw [e, ew, rdOf_at hlt']
        refine Ev.ite_pos (by omega) (Ev.ite_pos (by omega) (Ev.ite_pos (by omega) ?_))
        simp only [kB, hv', Bool.true_and]
        rw [kd_eq, kd_eq]
        by_cases hd : kd_ t[i] = kd_ t[i - 1]
        · refine Ev.ite_pos hd ?_
          rw [decide_eq_true hd]
          exact Ev.now _
        · refine Ev.ite_neg hd ?_
          rw [decide_eq_false hd]
          simpa using hnext
theorem kB_some : ∀ (t : List ByteArray) (y : ByteArray), (y :: t).Pairwise (fun a b => leB a b = true) → (kB (some y) t = true ↔ (∀ x ∈ t, validD (kd_ x) = true) ∧ ((y :: t).map kd_).Nodup)
  | [], y, _ => by simp [kB]
  | x :: r, y, h => by
    have hx := List.pairwise_cons.1 h
    have ih := kB_some r x hx.2
    have hr := (List.pairwise_cons.1 hx.2).1
    simp only [kB, Bool.and_eq_true, Bool.not_eq_true', decide_eq_false_iff_not, ih, List.mem_cons, forall_eq_or_imp]
    constructor
    · rintro ⟨h1, h2, h3, h4⟩
      refine ⟨⟨h1, h3⟩, ?_⟩
      rw [List.map_cons, List.nodup_cons]
      refine ⟨?_, h4⟩
      intro hm
      obtain ⟨z, hz, he⟩ := List.mem_map.1 hm
      rcases List.mem_cons.1 hz with rfl | hz
      · exact h2 he
      · have a1 := hx.1 x List.mem_cons_self
        have a2 := hr z hz
        have a3 : leB x y = true := by
          rw [leB_iff] at a2 ⊢
          rw [kd_eq y, ← he, ← kd_eq z]
          exact a2
        have := leB_anti a3 a1
        rw [kd_eq, kd_eq] at this
        exact h2 this
    · rintro ⟨⟨h1, h3⟩, h4⟩
      rw [List.map_cons, List.nodup_cons] at h4
      refine ⟨h1, fun e => h4.1 ?_, h3, h4.2⟩
      rw [List.map_cons, e]
      exact List.mem_cons_self
theorem kB_none (t : List ByteArray) (h : t.Pairwise (fun a b => leB a b = true)) : kB none t = true ↔ (∀ x ∈ t, validD (kd_ x) = true) ∧ (t.map kd_).Nodup := by
  cases t with
  | nil => simp [kB]
  | cons x r =>
    simp only [kB, Bool.and_eq_true, kB_some r x h, List.mem_cons, forall_eq_or_imp]
    constructor
    · rintro ⟨h1, h2, h3⟩; exact ⟨⟨h1, h2⟩, h3⟩
    · rintro ⟨⟨h1, h2⟩, h3⟩; exact ⟨h1, h2, h3⟩
theorem apartB_iff : ∀ (l : List ByteArray) (seen : List (List UInt8)), apartB seen l = true ↔ (∀ x ∈ l, validD (kd_ x) = true) ∧ (l.map kd_).Nodup ∧ ∀ x ∈ l, kd_ x ∉ seen
  | [], seen => by simp [apartB]
  | x :: r, seen => by
    have ih := apartB_iff r (kd_ x :: seen)
    show (validD (kd_ x) && (!seen.contains (kd_ x) && apartB (kd_ x :: seen) r)) = true ↔ _
    simp only [Bool.and_eq_true, Bool.not_eq_true', ih, List.mem_cons, forall_eq_or_imp, List.map_cons, List.nodup_cons, List.contains_eq_mem, decide_eq_false_iff_not, not_or]
    constructor
    · rintro ⟨h1, h2, h3, h4, h5⟩
      refine ⟨⟨h1, h3⟩, ⟨?_, h4⟩, h2, fun z hz => (h5 z hz).2⟩
      intro hm
      obtain ⟨z, hz, he⟩ := List.mem_map.1 hm
      exact (h5 z hz).1 he
    · rintro ⟨⟨h1, h3⟩, ⟨h6, h4⟩, h2, h5⟩
      exact ⟨h1, h2, h3, h4, fun z hz => ⟨fun e => h6 (List.mem_map.2 ⟨z, hz, e⟩), h5 z hz⟩⟩
theorem keys_ev (ks : List ByteArray) (hs : ∀ x ∈ ks, x.size ≤ 140737488351232) (ht : ks.length ≤ 8796093021952) : Ev (fun k => colanderref03_keys.f k ks) (apartB [] ks) := by
  obtain ⟨t, e, p, s⟩ := sorted_ev ks.length ks (Nat.le_refl _) ht
  unfold colanderref03_keys.f
  refine Ev.bind e ?_
  have h := keys_l0 t (fun x hx => hs x (p.mem_iff.1 hx)) (by rw [p.length_eq]; exact ht) _ 0 rfl (Nat.zero_le _)
  rw [List.drop_zero] at h
  have hb : kB (prevB t 0) t = apartB [] ks := by
    have : prevB t 0 = none := rfl
    rw [this, Bool.eq_iff_iff, kB_none t s, apartB_iff]
    rw [(p.map kd_).nodup_iff]
    constructor
    · rintro ⟨h1, h2⟩
      exact ⟨fun x hx => h1 x (p.mem_iff.2 hx), h2, fun _ _ => List.not_mem_nil⟩
    · rintro ⟨h1, h2, _⟩
      exact ⟨fun x hx => h1 x (p.mem_iff.1 hx), h2⟩
  rw [hb] at h
  exact h
end Go.Proofs.YtmpmbnmldmpmiaaGreatDoor.A
