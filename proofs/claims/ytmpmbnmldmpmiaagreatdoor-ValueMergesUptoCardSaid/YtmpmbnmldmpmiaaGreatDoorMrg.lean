/- Texts of this claim, put together. -/
import Derived.Test.YtmpmbnmldmpmiaaGreatDoorKeep
import Derived.Test.YtmpmbnmldmpmiaaGreatDoorSimU
set_option linter.unusedVariables false
set_option linter.unusedSimpArgs false
namespace Go.Proofs.YtmpmbnmldmpmiaaGreatDoor.Sim
open Go Go.RowKit Go.Proofs.YtmpmbnmldmpmiaaGreatDoor.A Go.Proofs.YtmpmbnmldmpmiaaGreatDoorW.PrintWords Go.Proofs.YtmpmbnmldmpmiaaGreatDoorW.PrintLast Go.Proofs.YtmpmbnmldmpmiaaGreatDoorW.PrintMore
/-- One key more. -/
def mstep (f : S27 → S27 → S27) (s : List ByteArray × List S27) (p : ByteArray × S27) : List ByteArray × List S27 :=
  if posL p.1 s.1 0 < 0 then (s.1 ++ [p.1], s.2 ++ [p.2]) else (s.1, s.2.set (posL p.1 s.1 0).toNat (f ((s.2[(posL p.1 s.1 0).toNat]?).getD z27) p.2))
def mst (f : S27 → S27 → S27) (x y : S27) (i : Nat) : List ByteArray × List S27 := ((y.f4.zip y.f3).take i).foldl (mstep f) (x.f4, x.f3)
/-- What merged computes. -/
def mergeV (f : S27 → S27 → S27) (x y : S27) : S27 := objV (mst f x y y.f4.length).2 (mst f x y y.f4.length).1
/-- What deep computes, by so many levels at most. -/
def deepV : Nat → S27 → S27 → S27
  | 0, _, y => y
  | n + 1, x, y => if x.f0 = 6 ∧ y.f0 = 6 then mergeV (deepV n) x y else y
theorem mst_zero (f : S27 → S27 → S27) (x y : S27) : mst f x y 0 = (x.f4, x.f3) := rfl
theorem mst_succ (f : S27 → S27 → S27) {x y : S27} {i : Nat} (h4 : i < y.f4.length) (h3 : i < y.f3.length) : mst f x y (i + 1) = mstep f (mst f x y i) (y.f4[i], y.f3[i]) := by
  have hz : i < (y.f4.zip y.f3).length := by rw [List.length_zip]; omega
  have ez : (y.f4.zip y.f3)[i] = (y.f4[i], y.f3[i]) := by simp
  unfold mst
  rw [List.take_succ_eq_append_getElem hz, List.foldl_append, ez]
  rfl
theorem mst_len (f : S27 → S27 → S27) {x y : S27} (hx : x.f4.length = x.f3.length) (ly : y.f4.length = y.f3.length) : ∀ i, i ≤ y.f4.length → (mst f x y i).1.length ≤ x.f4.length + i ∧ (mst f x y i).2.length ≤ x.f3.length + i
  | 0, _ => by rw [mst_zero]; exact ⟨Nat.le_refl _, Nat.le_refl _⟩
  | i + 1, h => by
    obtain ⟨h1, h2⟩ := mst_len f hx ly i (by omega)
    rw [mst_succ f (show i < y.f4.length from h) (by omega)]
    unfold mstep
    split
    · simp only [List.length_append, List.length_singleton]
      omega
    · simp only [List.length_set]
      omega
/-- What becomes of a key of the second object. -/
def mval (f : S27 → S27 → S27) (x : S27) (k : ByteArray) (v : S27) : S27 := if posL k x.f4 0 < 0 then v else f ((x.f3[(posL k x.f4 0).toNat]?).getD z27) v
structure MInv (f : S27 → S27 → S27) (x y : S27) (i : Nat) : Prop where
  len : (mst f x y i).1.length = (mst f x y i).2.length
  pre : ∃ new, (mst f x y i).1 = x.f4 ++ new ∧ ∀ k ∈ new, k ∈ y.f4.take i
  nd : ((mst f x y i).1.map kd_).Nodup
  old : ∀ (j : Nat) (k : ByteArray), x.f4[j]? = some k → k ∉ y.f4.take i → (mst f x y i).2[j]? = x.f3[j]?
  els : ∀ z ∈ (mst f x y i).2, z ∈ x.f3 ∨ z ∈ y.f3 ∨ ∃ a ∈ x.f3, ∃ b ∈ y.f3, z = f a b
  got : ∀ (t : Nat) (k : ByteArray) (v : S27), t < i → y.f4[t]? = some k → y.f3[t]? = some v → ∃ j : Nat, (mst f x y i).1[j]? = some k ∧ (mst f x y i).2[j]? = some (mval f x k v)
theorem nodup_get {l : List ByteArray} (h : (l.map kd_).Nodup) {i j : Nat} {k : ByteArray} (hi : l[i]? = some k) (hj : l[j]? = some k) : i = j := by
  obtain ⟨h1, e1⟩ := List.getElem?_eq_some_iff.1 hi
  obtain ⟨h2, e2⟩ := List.getElem?_eq_some_iff.1 hj
  exact getElem_map_nodup h h1 h2 (e1.trans e2.symm)
theorem posL_some {l : List ByteArray} (h : (l.map kd_).Nodup) {j : Nat} {k : ByteArray} (hj : l[j]? = some k) : posL k l 0 = (j : Int) := by
  obtain ⟨h1, e1⟩ := List.getElem?_eq_some_iff.1 hj
  rw [← e1]
  exact posL_at h h1
theorem nodup_snoc {l : List ByteArray} (h : (l.map kd_).Nodup) {k : ByteArray} (hk : ∀ a ∈ l, a ≠ k) : ((l ++ [k]).map kd_).Nodup := by
  rw [List.map_append, List.nodup_append]
  refine ⟨h, by simp, fun a ha b hb e => ?_⟩
  obtain ⟨c, hc, rfl⟩ := List.mem_map.1 ha
  simp at hb
  exact hk c hc (kd_inj (e.trans hb))
theorem minv {f : S27 → S27 → S27} {x y : S27} (hx : x.f4.length = x.f3.length) (nx : (x.f4.map kd_).Nodup) (hy : y.f4.length = y.f3.length) (ny : (y.f4.map kd_).Nodup) : ∀ i, i ≤ y.f4.length → MInv f x y i := by
  intro i
  induction i with
  | zero => exact fun _ => ⟨hx, ⟨[], by simp [mst_zero], by simp⟩, nx, fun j k _ _ => rfl, fun z hz => .inl hz, fun t k v h => absurd h (Nat.not_lt_zero _)⟩
  | succ i ih =>
  intro hi
  have h4 : i < y.f4.length := hi
  have h3 : i < y.f3.length := by omega
  obtain ⟨len, ⟨new, pre, hnew⟩, nd, old, els, got⟩ := ih (by omega)
  have hvm : y.f3[i] ∈ y.f3 := List.getElem_mem h3
  have hs := mst_succ f (x := x) h4 h3
  have hk : y.f4[i]? = some y.f4[i] := List.getElem?_eq_getElem h4
  have hv : y.f3[i]? = some y.f3[i] := List.getElem?_eq_getElem h3
  generalize y.f4[i] = k at hs hk
  generalize y.f3[i] = v at hs hv hvm
  have hkt : k ∉ y.f4.take i := by
    intro hm
    obtain ⟨t, ht, e⟩ := List.mem_iff_getElem.1 hm
    rw [List.length_take] at ht
    rw [List.getElem_take] at e
    have := nodup_get ny (i := t) (j := i) (k := k) (by rw [List.getElem?_eq_getElem (by omega), e]) hk
    omega
  have hmem : ∀ a, a ∈ y.f4.take (i + 1) ↔ a ∈ y.f4.take i ∨ a = k := by
    intro a
    rw [List.take_add_one, hk]
    simp
  generalize mst f x y i = s at *
  rcases posL_cases k s.1 0 with ⟨p1, p2⟩ | ⟨j, p1, p2, p3, p4⟩
  · have hs : mst f x y (i + 1) = (s.1 ++ [k], s.2 ++ [v]) := by rw [hs]; unfold mstep; rw [p1, if_pos (by omega)]
    have hpx : posL k x.f4 0 = -1 := posL_none fun a ha => p2 a (by rw [pre]; exact List.mem_append_left _ ha)
    refine ⟨by rw [hs]; simp [len], ⟨new ++ [k], by rw [hs, pre]; simp, fun a ha => ?_⟩, by rw [hs]; exact nodup_snoc nd p2, fun j a hj ha => ?_, fun z hz => ?_, fun t a b ht hta htb => ?_⟩
    · rw [hmem]
      rcases List.mem_append.1 ha with ha | ha
      · exact .inl (hnew a ha)
      · exact .inr (by simpa using ha)
    · have hjl := (List.getElem?_eq_some_iff.1 hj).1
      have hsl : x.f4.length ≤ s.2.length := by rw [← len, pre, List.length_append]; omega
      rw [hs]
      show (s.2 ++ [v])[j]? = _
      rw [List.getElem?_append_left (by omega)]
      exact old j a hj fun hm => ha ((hmem a).2 (.inl hm))
    · rw [hs] at hz
      have hz : z ∈ s.2 ++ [v] := hz
      rcases List.mem_append.1 hz with hz | hz
      · exact els z hz
      · rw [List.mem_singleton.1 hz]
        exact .inr (.inl hvm)
    · rw [hs]
      by_cases hti : t = i
      · subst hti
        rw [hk] at hta
        rw [hv] at htb
        cases hta
        cases htb
        refine ⟨s.1.length, by simp, ?_⟩
        show (s.2 ++ [v])[s.1.length]? = _
        rw [len]
        unfold mval
        rw [hpx, if_pos (by omega)]
        simp
      · obtain ⟨j, h1, h2⟩ := got t a b (by omega) hta htb
        refine ⟨j, ?_, ?_⟩
        · show (s.1 ++ [k])[j]? = _
          rw [List.getElem?_append_left (List.getElem?_eq_some_iff.1 h1).1, h1]
        · show (s.2 ++ [v])[j]? = _
          rw [List.getElem?_append_left (List.getElem?_eq_some_iff.1 h2).1, h2]
  · rw [Nat.zero_add] at p1
    have hsj : s.1[j]? = some k := by rw [List.getElem?_eq_getElem p2, p3]
    have hjx : j < x.f4.length := by
      rcases Nat.lt_or_ge j x.f4.length with h | h
      · exact h
      · exfalso
        rw [pre, List.getElem?_append_right h] at hsj
        exact hkt (hnew k (List.mem_of_getElem? hsj))
    have hxj : x.f4[j]? = some k := by rw [pre, List.getElem?_append_left hjx] at hsj; exact hsj
    have hpx : posL k x.f4 0 = (j : Int) := posL_some nx hxj
    have hold : s.2[j]? = x.f3[j]? := old j k hxj hkt
    have hs : mst f x y (i + 1) = (s.1, s.2.set j (f ((x.f3[j]?).getD z27) v)) := by rw [hs]; unfold mstep; rw [p1, if_neg (by omega), Int.toNat_natCast, hold]
    refine ⟨by rw [hs]; simp [len], ⟨new, by rw [hs, pre], fun a ha => (hmem a).2 (.inl (hnew a ha))⟩, by rw [hs]; exact nd, fun j2 a hj ha => ?_, fun z hz => ?_, fun t a b ht hta htb => ?_⟩
    · have hne : j ≠ j2 := by
        intro e
        subst e
        rw [hxj] at hj
        cases hj
        exact ha ((hmem k).2 (.inr rfl))
      rw [hs]
      show (s.2.set j _)[j2]? = _
      rw [List.getElem?_set_ne hne]
      exact old j2 a hj fun hm => ha ((hmem a).2 (.inl hm))
    · rw [hs] at hz
      have hz : z ∈ s.2.set j (f ((x.f3[j]?).getD z27) v) := hz
      rcases List.mem_or_eq_of_mem_set hz with hz | hz
      · exact els z hz
      · have hj3 : j < x.f3.length := by omega
        rw [List.getElem?_eq_getElem hj3] at hz
        exact .inr (.inr ⟨_, List.getElem_mem hj3, v, hvm, hz⟩)
    · rw [hs]
      by_cases hti : t = i
      · subst hti
        rw [hk] at hta
        rw [hv] at htb
        cases hta
        cases htb
        refine ⟨j, hsj, ?_⟩
        show (s.2.set j _)[j]? = _
        rw [List.getElem?_set_self (by omega)]
        unfold mval
        rw [hpx, if_neg (by omega), Int.toNat_natCast]
      · obtain ⟨jt, h1, h2⟩ := got t a b (by omega) hta htb
        have hne : j ≠ jt := by
          intro e
          subst e
          rw [hsj] at h1
          cases h1
          exact hkt (List.mem_of_getElem? (by rw [List.getElem?_take_of_lt (show t < i by omega)]; exact hta))
        refine ⟨jt, h1, ?_⟩
        show (s.2.set j _)[jt]? = _
        rw [List.getElem?_set_ne hne, h2]
end Go.Proofs.YtmpmbnmldmpmiaaGreatDoor.Sim
set_option linter.unusedVariables false
set_option linter.unusedSimpArgs false
namespace Go.Proofs.YtmpmbnmldmpmiaaGreatDoor.Sim
open Go Go.RowKit Go.Proofs.YtmpmbnmldmpmiaaGreatDoor.A Go.Proofs.YtmpmbnmldmpmiaaGreatDoorW.PrintWords Go.Proofs.YtmpmbnmldmpmiaaGreatDoorW.PrintLast Go.Proofs.YtmpmbnmldmpmiaaGreatDoorW.PrintMore
def ments : List ByteArray → Nat → List (Value × V)
  | [], _ => []
  | k :: r, i => (.string k, .s (.int .i64 (i : Int))) :: ments r (i + 1)
theorem ments_snoc : ∀ (l : List ByteArray) (k : ByteArray) (i : Nat), ments (l ++ [k]) i = ments l i ++ [(.string k, .s (.int .i64 ((i + l.length : Nat) : Int)))]
  | [], k, i => by simp [ments]
  | a :: r, k, i => by
    rw [List.cons_append, ments, ments, ments_snoc r k (i + 1), List.cons_append]
    congr 3
    simp only [List.length_cons]
    congr 4
    omega
theorem sameNow_str (a b : ByteArray) : Instr.sameNow .string (.string a) (.string b) = some (b.toList == a.toList) := by
  show some (a == b) = _
  congr 1
  obtain ⟨a⟩ := a
  obtain ⟨b⟩ := b
  show (a == b) = _
  rw [Bool.eq_iff_iff, beq_iff_eq, beq_iff_eq, ByteArray.toList_eq, ByteArray.toList_eq]
  exact ⟨fun h => by rw [h], fun h => (Array.toList_inj.1 h).symm⟩
theorem findX_ments (key : ByteArray) : ∀ (l : List ByteArray) (i : Nat), findX .string (.string key) (ments l i) = some (if posL key l i < 0 then none else some (.s (.int .i64 (posL key l i))))
  | [], i => rfl
  | x :: r, i => by
    rw [ments, findX, sameNow_str, posL]
    cases hq : (x.toList == key.toList) with
    | true =>
      rw [if_pos rfl, if_neg (by omega)]
    | false =>
      have := findX_ments key r (i + 1)
      simpa using this
/-- A look into a map of places. -/
def mapLk (k : ByteArray) : Option Blk → Option (V × Eff)
  | some (.map es) => match findX .string (.string k) es with
    | some (some v) => some (mkTup [v, .s (.bool true)], .no)
    | some none => some (.s (.tuple #[.int .i64 0, .bool false]), .no)
    | none => none
  | _ => none
theorem lookup_eq (id : Nat) (k : ByteArray) (S : St) : lookupX Tryz.prog 119 (.map id) (.s (.string k)) true S = mapLk k (find id S.heap) := by
  unfold lookupX mapLk
  simp only [Tryz.underlying119, Tryz.underlying9, keyOk, cond_true, info3, zero3]
  cases find id S.heap with
  | none => rfl
  | some b =>
    cases b with
    | map es => cases findX TypeDesc.string (Value.string k) es with
      | none => rfl
      | some o => cases o <;> rfl
    | _ => rfl
theorem mapLk_ments (k : ByteArray) (l : List ByteArray) : mapLk k (some (.map (ments l 0))) = if posL k l 0 < 0 then some (.s (.tuple #[.int .i64 0, .bool false]), .no) else some (.s (.tuple #[.int .i64 (posL k l 0), .bool true]), .no) := by
  unfold mapLk
  simp only [findX_ments]
  split
  · rename_i h
    split at h
    · cases h
    · rename_i h2
      cases h
      rw [if_neg h2]
      rfl
  · rename_i h
    split at h
    · rename_i h2
      rw [if_pos h2]
    · cases h
  · rename_i h
    cases h
/-- A key more in a map of places. -/
def mapUp (k : ByteArray) (v : V) (id : Nat) (b : Bool) : Option Blk → Option Eff
  | some (.map es) => bif b then (match findX .string (.string k) es with
    | some none => some (.put id (.map (es ++ [(.string k, v)])))
    | _ => none) else none
  | _ => none
theorem update_eq (id : Nat) (k : ByteArray) (v : V) (S : St) : mapUpdateX Tryz.prog 119 (.map id) (.s (.string k)) v S = mapUp k v id (Nat.blt id S.next) (find id S.heap) := by
  unfold mapUpdateX mapUp
  simp only [Tryz.underlying119, Tryz.underlying9, keyOk, Bool.true_and]
  cases find id S.heap with
  | none => rfl
  | some b => cases b <;> rfl
theorem mapUp_ments {k : ByteArray} {l : List ByteArray} {id : Nat} {b : Bool} (hb : b = true) (h : ∀ a ∈ l, a ≠ k) {n : Nat} (hn : n = l.length) : mapUp k (.s (.int .i64 (n : Int))) id b (some (.map (ments l 0))) = some (.put id (.map (ments (l ++ [k]) 0))) := by
  subst hb hn
  unfold mapUp
  simp only [cond_true, findX_ments, posL_none h]
  rw [ments_snoc, Nat.zero_add]
  rfl
theorem makeMap_eq (n : Int) (S : St) : makeMapX Tryz.prog 119 (some (.s (.int .i64 n))) S = some (.map S.next, .new (.map [])) := by
  unfold makeMapX
  simp only [Tryz.underlying119, isIntO, cond_true]
end Go.Proofs.YtmpmbnmldmpmiaaGreatDoor.Sim
set_option linter.unusedVariables false
set_option linter.unusedSimpArgs false
set_option maxRecDepth 100000
namespace Go.Proofs.YtmpmbnmldmpmiaaGreatDoor.Sim
open Go Go.RowKit Go.Proofs.YtmpmbnmldmpmiaaGreatDoor.A Go.Proofs.YtmpmbnmldmpmiaaGreatDoorW.PrintWords Go.Proofs.YtmpmbnmldmpmiaaGreatDoorW.PrintLast Go.Proofs.YtmpmbnmldmpmiaaGreatDoorW.PrintMore
set_option maxHeartbeats 4000000 in
theorem merged_gv {f : S27 → S27 → S27} {v : World} {x y : S27} {ux uy : Value} (hx : Vr v x ux) (hy : Vr v y uy) (lx : x.f4.length = x.f3.length) (nx : (x.f4.map kd_).Nodup) (ly : y.f4.length = y.f3.length) (ny : (y.f4.map kd_).Nodup) (hb3 : x.f3.length + y.f3.length ≤ 1759218604390)
    (hf : ∀ z ∈ x.f3, ∀ w ∈ y.f3, ∀ (v' : World) (uz uw : Value), Vr v' z uz → Vr v' w uw → Gv Tryz.prog 97 [uz, uw] v' fun u v'' => Vr v'' (f z w) u) :
    Gv Tryz.prog 93 [ux, uy, .func (.func 97) #[] #[]] v fun u v' => Vr v' (mergeV f x y) u := by
  obtain ⟨A3, c3, A4, c4, rfl, h3, h4⟩ := hx
  obtain ⟨B3, d3, B4, d4, rfl, k3, k4⟩ := hy
  refine Gv.run Tryz.func93 (by kernel_rfl) rfl rfl rfl rfl fun b hb => ?_
  subst hb
  obtain ⟨xs3, xs4, fl3, fl4, hown⟩ := own_ok h3 h4 (by omega) (by omega) b rfl
  have e4 := Fl_str fl4
  have hcs : Hide (∀ i (h : i < x.f4.length), (xs4.map V.s ++ zS)[i]? = some (.s (.string x.f4[i]))) := ⟨fun i h => by
    rw [e4, List.getElem?_append_left (by simpa using h)]
    simp [h]⟩
  generalize hp3 : x.f3.length + 1 = p3 at hown
  generalize hp4 : x.f4.length + 1 = p4 at hown
  have HP3 := Hide.mk hp3
  have HP4 := Hide.mk hp4
  have LX := Hide.mk lx
  have LY := Hide.mk ly
  have NX := Hide.mk nx
  have NY := Hide.mk ny
  have HF := Hide.mk hf
  have HB := Hide.mk hb3
  have FL3 := Hide.mk fl3
  have FL4 := Hide.mk fl4
  have mk := makeMap_eq
  have up := update_eq
  have lk := lookup_eq
  have hmx := h4.1.2.1
  clear hp3 hp4 lx ly nx ny hf hb3 e4 fl3 fl4
  first | refine WpB.row (by decide) (by decide) (ev ?_) | refine WpB.seq (WpB.row (by decide) (by decide) (ev ?_)) | refine WpB.seq (WpB.seq (WpB.row (by decide) (by decide) (ev ?_))) | refine WpB.seq (WpB.seq (WpB.seq (WpB.row (by decide) (by decide) (ev ?_))))
  first | refine WpB.row (by decide) (by decide) (evh ?_) | refine WpB.seq (WpB.row (by decide) (by decide) (evh ?_)) | refine WpB.seq (WpB.seq (WpB.row (by decide) (by decide) (evh ?_))) | refine WpB.seq (WpB.seq (WpB.seq (WpB.row (by decide) (by decide) (evh ?_))))
  refine SeqB.callQ (by decide) (hown _ _ _) (by decide) rfl rfl rfl rfl ?_
  rintro r S' ⟨lo, rfl, rfl⟩ _
  refine evh ?_
  refine WpB.forget (S2 := ⟨[(22, .row [.s (.int .i64 6), .s (.float .f64 0), .s (.string (⟨#[]⟩ : ByteArray)), .slc 18 0 x.f3.length (some p3), .slc 9 0 x.f4.length (some p4)] 27 none .no), (9, .row (xs4.map V.s ++ zS) 9 none .no), (18, .row (xs3.map V.s ++ zV) 27 none .no), (2, .row [.s (.int .i64 0), .s (.float .f64 0), .s (.string (⟨#[]⟩ : ByteArray)), .s (.slice none 0 0), .s (.slice none 0 0)] 27 none .no), (1, .row [.s (.int .i64 y.f0), .s (.float .f64 y.f1), .s (.string y.f2), .s (.slice B3 y.f3.length d3), .s (.slice B4 y.f4.length d4)] 27 none .no), (0, .row [.s (.int .i64 x.f0), .s (.float .f64 x.f1), .s (.string x.f2), .s (.slice A3 x.f3.length c3), .s (.slice A4 x.f4.length c4)] 27 none .no)], _, 0⟩) (find_both (find_both (find_both (find_skip (find_skip find_same rfl) rfl)))) rfl ?_
  first | refine WpB.row (by decide) (by decide) (evh ?_) | refine WpB.seq (WpB.row (by decide) (by decide) (evh ?_)) | refine WpB.seq (WpB.seq (WpB.row (by decide) (by decide) (evh ?_))) | refine WpB.seq (WpB.seq (WpB.seq (WpB.row (by decide) (by decide) (evh ?_))))
  first | refine WpB.row (by decide) (by decide) (evh ?_) | refine WpB.seq (WpB.row (by decide) (by decide) (evh ?_)) | refine WpB.seq (WpB.seq (WpB.row (by decide) (by decide) (evh ?_))) | refine WpB.seq (WpB.seq (WpB.seq (WpB.row (by decide) (by decide) (evh ?_))))
  first | refine WpB.block ?_ | refine WpB.seq (WpB.block ?_) | refine WpB.seq (WpB.seq (WpB.block ?_)) | refine WpB.seq (WpB.seq (WpB.seq (WpB.block ?_)))
  refine WpB.loop (fun m b' F S => ∃ (i : Nat) (L : Nat), b' = b ∧ S = ⟨[(23, .map (ments (x.f4.take i) 0)), (22, .row [.s (.int .i64 6), .s (.float .f64 0), .s (.string (⟨#[]⟩ : ByteArray)), .slc 18 0 x.f3.length (some p3), .slc 9 0 x.f4.length (some p4)] 27 none .no), (9, .row (xs4.map V.s ++ zS) 9 none .no), (18, .row (xs3.map V.s ++ zV) 27 none .no), (2, .row [.s (.int .i64 0), .s (.float .f64 0), .s (.string (⟨#[]⟩ : ByteArray)), .s (.slice none 0 0), .s (.slice none 0 0)] 27 none .no), (1, .row [.s (.int .i64 y.f0), .s (.float .f64 y.f1), .s (.string y.f2), .s (.slice B3 y.f3.length d3), .s (.slice B4 y.f4.length d4)] 27 none .no), (0, .row [.s (.int .i64 x.f0), .s (.float .f64 x.f1), .s (.string x.f2), .s (.slice A3 x.f3.length c3), .s (.slice A4 x.f4.length c4)] 27 none .no)], 24, L⟩ ∧ F 2 = .s (.func (.func 97) #[] #[]) ∧ F 3 = .ptr 0 0 ∧ F 4 = .ptr 1 0 ∧ F 6 = .ptr 2 0 ∧ F 7 = .ptr 22 0 ∧ F 8 = .map 23 ∧ F 22 = .slc 9 0 x.f4.length (some p4) ∧ F 23 = .s (.int .i64 (x.f4.length : Int)) ∧ F 24 = .s (.int .i64 (i : Int)) ∧ i ≤ x.f4.length ∧ m = x.f4.length - i) x.f4.length ⟨0, _, rfl, rfl, rfl, rfl, rfl, rfl, rfl, rfl, rfl, rfl, rfl, Nat.zero_le _, rfl⟩ ?_
  rintro m b0 F S ⟨i, L, rfl, rfl, f2, f3, f4, f6, f7, f8, f22, f23, f24, hi, rfl⟩
  by_cases hlt : i < x.f4.length
  · have g0 : (0 : Int) ≤ (i : Int) := by omega
    have g1 : (i : Int) < (x.f4.length : Int) := by omega
    have d7 : IntKind.i64.wrap ((i : Int) + 1) = ((i + 1 : Nat) : Int) := by rw [IntKind.wrap_i64]; omega
    have x1 := hcs.out i hlt
    have hnot : ∀ a ∈ x.f4.take i, a ≠ x.f4[i] := by
      intro a ha e
      subst e
      obtain ⟨t, ht, e⟩ := List.mem_iff_getElem.1 ha
      rw [List.length_take] at ht
      rw [List.getElem_take] at e
      have := getElem_map_nodup NX.out (by omega) hlt e
      omega
    have mu := mapUp_ments (id := 23) (n := i) (b := true) rfl hnot (by rw [List.length_take]; omega)
    have etk : x.f4.take (i + 1) = x.f4.take i ++ [x.f4[i]] := by rw [List.take_succ_eq_append_getElem hlt]
    have ETK := Hide.mk etk
    clear etk hnot
    first | refine WpB.row (by decide) (by decide) (evh ?_) | refine WpB.seq (WpB.row (by decide) (by decide) (evh ?_)) | refine WpB.seq (WpB.seq (WpB.row (by decide) (by decide) (evh ?_))) | refine WpB.seq (WpB.seq (WpB.seq (WpB.row (by decide) (by decide) (evh ?_))))
    first | refine WpB.cond (by decide) rfl (fun _ => WpB.skip ?_) (fun e => by first | (cases e; done) | exact absurd g1 (of_decide_eq_false e)) | refine WpB.seq (WpB.cond (by decide) rfl (fun _ => WpB.skip ?_) (fun e => by first | (cases e; done) | exact absurd g1 (of_decide_eq_false e))) | refine WpB.seq (WpB.seq (WpB.cond (by decide) rfl (fun _ => WpB.skip ?_) (fun e => by first | (cases e; done) | exact absurd g1 (of_decide_eq_false e)))) | refine WpB.seq (WpB.seq (WpB.seq (WpB.cond (by decide) rfl (fun _ => WpB.skip ?_) (fun e => by first | (cases e; done) | exact absurd g1 (of_decide_eq_false e)))))
    first | refine WpB.block ?_ | refine WpB.seq (WpB.block ?_) | refine WpB.seq (WpB.seq (WpB.block ?_)) | refine WpB.seq (WpB.seq (WpB.seq (WpB.block ?_)))
    first | refine WpB.row (by decide) (by decide) (evh ?_) | refine WpB.seq (WpB.row (by decide) (by decide) (evh ?_)) | refine WpB.seq (WpB.seq (WpB.row (by decide) (by decide) (evh ?_))) | refine WpB.seq (WpB.seq (WpB.seq (WpB.row (by decide) (by decide) (evh ?_))))
    first | refine WpB.row (by decide) (by decide) (evh ?_) | refine WpB.seq (WpB.row (by decide) (by decide) (evh ?_)) | refine WpB.seq (WpB.seq (WpB.row (by decide) (by decide) (evh ?_))) | refine WpB.seq (WpB.seq (WpB.seq (WpB.row (by decide) (by decide) (evh ?_))))
    first | refine WpB.row (by decide) (by decide) (evh ?_) | refine WpB.seq (WpB.row (by decide) (by decide) (evh ?_)) | refine WpB.seq (WpB.seq (WpB.row (by decide) (by decide) (evh ?_))) | refine WpB.seq (WpB.seq (WpB.seq (WpB.row (by decide) (by decide) (evh ?_))))
    refine ⟨x.f4.length - (i + 1), by omega, i + 1, _, rfl, by rw [ETK.out], f2, f3, f4, f6, f7, f8, f22, f23, by rw [← d7]; rfl, hlt, rfl⟩
  · have g1 : ¬ ((i : Int) < (x.f4.length : Int)) := by omega
    have hil : x.f4.take i = x.f4 := List.take_of_length_le (by omega)
    rw [hil]
    clear hil
    first | refine WpB.row (by decide) (by decide) (evh ?_) | refine WpB.seq (WpB.row (by decide) (by decide) (evh ?_)) | refine WpB.seq (WpB.seq (WpB.row (by decide) (by decide) (evh ?_))) | refine WpB.seq (WpB.seq (WpB.seq (WpB.row (by decide) (by decide) (evh ?_))))
    first | refine WpB.cond (by decide) rfl (fun e => by first | (cases e; done) | exact absurd (of_decide_eq_true e) g1) (fun _ => WpB.exit ?_) | refine WpB.seq (WpB.cond (by decide) rfl (fun e => by first | (cases e; done) | exact absurd (of_decide_eq_true e) g1) (fun _ => WpB.exit ?_)) | refine WpB.seq (WpB.seq (WpB.cond (by decide) rfl (fun e => by first | (cases e; done) | exact absurd (of_decide_eq_true e) g1) (fun _ => WpB.exit ?_))) | refine WpB.seq (WpB.seq (WpB.seq (WpB.cond (by decide) rfl (fun e => by first | (cases e; done) | exact absurd (of_decide_eq_true e) g1) (fun _ => WpB.exit ?_))))
    first | refine WpB.row (by decide) (by decide) (evh ?_) | refine WpB.seq (WpB.row (by decide) (by decide) (evh ?_)) | refine WpB.seq (WpB.seq (WpB.row (by decide) (by decide) (evh ?_))) | refine WpB.seq (WpB.seq (WpB.seq (WpB.row (by decide) (by decide) (evh ?_))))
    first | refine WpB.block ?_ | refine WpB.seq (WpB.block ?_) | refine WpB.seq (WpB.seq (WpB.block ?_)) | refine WpB.seq (WpB.seq (WpB.seq (WpB.block ?_)))
    have HM := Hide.mk (minv (f := f) LX.out NX.out LY.out NY.out)
    refine WpB.loop (fun m b' F S => ∃ (i : Nat) (v' : World) (s : List ByteArray × List S27) (ks ls : List Value), b' = ⟨b0.w, v'⟩ ∧ Known b0.v v' ∧ s = mst f x y i ∧ F 2 = .s (.func (.func 97) #[] #[]) ∧ F 3 = .ptr 0 0 ∧ F 4 = .ptr 1 0 ∧ F 6 = .ptr 2 0 ∧ F 7 = .ptr 22 0 ∧ F 8 = .map 23 ∧ F 34 = .s (.slice B4 y.f4.length d4) ∧ F 35 = .s (.int .i64 (y.f4.length : Int)) ∧ F 36 = .s (.int .i64 (i : Int)) ∧ i ≤ y.f4.length ∧ m = y.f4.length - i ∧ Fl Kd.string v' s.1 ks ∧ Fl k27 v' s.2 ls ∧ ((∃ (pk pl : List Value) (c3' c4' N L : Nat), ((pk = zsL ∧ pl = zvL ∧ s.1.length + 1 = c4' ∧ s.2.length + 1 = c3') ∨ (pk = [] ∧ pl = [] ∧ s.1.length = c4' ∧ s.2.length = c3')) ∧ 23 < N ∧ S = ⟨[(23, .map (ments s.1 0)), (22, .row [.s (.int .i64 6), .s (.float .f64 0), .s (.string (⟨#[]⟩ : ByteArray)), .slc 18 0 s.2.length (some c3'), .slc 9 0 s.1.length (some c4')] 27 none .no), (9, .row (ks.map V.s ++ pk.map V.s) 9 none .no), (18, .row (ls.map V.s ++ pl.map V.s) 27 none .no), (2, .row [.s (.int .i64 0), .s (.float .f64 0), .s (.string (⟨#[]⟩ : ByteArray)), .s (.slice none 0 0), .s (.slice none 0 0)] 27 none .no), (1, .row [.s (.int .i64 y.f0), .s (.float .f64 y.f1), .s (.string y.f2), .s (.slice B3 y.f3.length d3), .s (.slice B4 y.f4.length d4)] 27 none .no), (0, .row [.s (.int .i64 x.f0), .s (.float .f64 x.f1), .s (.string x.f2), .s (.slice A3 x.f3.length c3), .s (.slice A4 x.f4.length c4)] 27 none .no)], N, L⟩) ∨ (∃ (ik il N L : Nat), 23 < ik ∧ ik < il ∧ il < N ∧ S = ⟨[(il, .row (ls.map V.s) 27 (some 5) .no), (ik, .row (ks.map V.s) 9 (some 1) .no), (23, .map (ments s.1 0)), (22, .row [.s (.int .i64 6), .s (.float .f64 0), .s (.string (⟨#[]⟩ : ByteArray)), .slc il 0 s.2.length none, .slc ik 0 s.1.length none] 27 none .no), (2, .row [.s (.int .i64 0), .s (.float .f64 0), .s (.string (⟨#[]⟩ : ByteArray)), .s (.slice none 0 0), .s (.slice none 0 0)] 27 none .no), (1, .row [.s (.int .i64 y.f0), .s (.float .f64 y.f1), .s (.string y.f2), .s (.slice B3 y.f3.length d3), .s (.slice B4 y.f4.length d4)] 27 none .no), (0, .row [.s (.int .i64 x.f0), .s (.float .f64 x.f1), .s (.string x.f2), .s (.slice A3 x.f3.length c3), .s (.slice A4 x.f4.length c4)] 27 none .no)], N, L⟩))) y.f4.length ⟨0, b0.v, (x.f4, x.f3), xs4, xs3, rfl, Known.refl _, rfl, f2, f3, f4, f6, f7, f8, rfl, rfl, rfl, Nat.zero_le _, rfl, FL4.out, FL3.out, .inl ⟨zsL, zvL, p3, p4, 24, _, .inl ⟨rfl, rfl, HP4.out, HP3.out⟩, by decide, rfl⟩⟩ ?_
    rintro m b' F S ⟨i, v', s, ks, ls, rfl, hkn, hs, f2, f3, f4, f6, f7, f8, f34, f35, f36, hi, rfl, hks, hls, hS⟩
    by_cases hlt : i < y.f4.length
    · have hlt3 : i < y.f3.length := by rw [← LY.out]; exact hlt
      obtain ⟨len, ⟨new, pre, hnew⟩, nd, old, els, got⟩ := HM.out i hi
      clear els
      have hsucc := mst_succ f hlt hlt3 (x := x)
      rw [← hs] at len pre nd old got hsucc
      have HS0 := Hide.mk hs
      clear hs
      have hmemx : y.f3[i] ∈ y.f3 := List.getElem_mem hlt3
      have hkt : y.f4[i] ∉ y.f4.take i := by
        intro hm
        obtain ⟨t, ht, e⟩ := List.mem_iff_getElem.1 hm
        rw [List.length_take] at ht
        rw [List.getElem_take] at e
        have := getElem_map_nodup NY.out (by omega) hlt e
        omega
      obtain ⟨kk, off, hB4, x1⟩ := (k4.up hkn).get hlt
      obtain ⟨k2, off2, cs2, Q3, q3, Q4, q4, hB3, hw2, hx2, s3, s4⟩ := (k3.up hkn).get hlt3
      subst hB4 hB3
      have hwi : Hide (Vr v' y.f3[i] _) := Hide.mk ⟨Q3, q3, Q4, q4, rfl, s3, s4⟩
      have hKi := Hide.mk (Vr.K s3 s4)
      have g0 : (0 : Int) ≤ (i : Int) := by omega
      have g1 : (i : Int) < (y.f4.length : Int) := by omega
      have g2 : (i : Int) < (y.f3.length : Int) := by omega
      have hmy : y.f4.length ≤ 9223372036854775807 := k4.1.2.1
      have d7 : IntKind.i64.wrap ((i : Int) + 1) = ((i + 1 : Nat) : Int) := by rw [IntKind.wrap_i64]; omega
      have hbnd : s.1.length ≤ x.f4.length + i ∧ s.2.length ≤ x.f3.length + i := by
        have := mst_len f LX.out LY.out i hi (x := x) (y := y)
        rw [← HS0.out] at this
        exact this
      generalize y.f4[i] = key at *
      generalize y.f3[i] = wi at *
      have mlk := mapLk_ments key s.1
      rcases posL_cases key s.1 0 with ⟨p1, p2⟩ | ⟨j, p1, p2, p3', p4'⟩
      · rw [p1, if_pos (by omega)] at mlk
        have hsucc : mst f x y (i + 1) = (s.1 ++ [key], s.2 ++ [wi]) := by
          rw [hsucc]
          unfold mstep
          rw [p1, if_pos (by omega)]
        have mu := mapUp_ments (id := 23) (n := s.1.length) (b := true) rfl p2 rfl
        have FK := Hide.mk (hks.append (Fl.one (d := Kd.string) (w := v') (x := key) (cs := [.string key]) rfl))
        have FLL := Hide.mk (hls.append (Fl.one hKi.out))
        have hlks : ks.length = s.1.length := by have := hks.1; rw [show Kd.string.sz = 1 from rfl, Nat.mul_one] at this; exact this
        have hlls : ls.length = s.2.length * 5 := hls.1
        have hB := HB.out
        have hlx := LX.out
        have hlq := LY.out
        have ro4 : roomOk 16 (s.1.length + 1) = true := by unfold roomOk; rw [Bool.and_eq_true]; exact ⟨Nat.ble_eq_true_of_le (by omega), Nat.ble_eq_true_of_le (by omega)⟩
        have ro3 : roomOk 80 (s.2.length + 1) = true := by unfold roomOk; rw [Bool.and_eq_true]; exact ⟨Nat.ble_eq_true_of_le (by omega), Nat.ble_eq_true_of_le (by omega)⟩
        have SU := Hide.mk hsucc
        have LEN := Hide.mk len
        have L5 := Hide.mk hlls
        have L6 := Hide.mk hlks
        clear hsucc p1 p2 len nd got pre hnew hkt old hks hls hB hlx hlq hbnd hlls hlks
        rcases hS with ⟨pk, pl, c3', c4', N, L, hph, hN, rfl⟩ | ⟨ik, il, N, L, hik, hil, hN, rfl⟩
        · rcases hph with ⟨rfl, rfl, hc4, hc3⟩ | ⟨rfl, rfl, hc4, hc3⟩
          · have r4 := setRange_end ks [.string key] (zsL.map V.s) rfl
            rw [L6.out] at r4
            have r3 := setRange_end ls (celL wi Q3 q3 Q4 q4) (zvL.map V.s) rfl
            rw [L5.out] at r3
            simp only [List.map_cons, List.map_nil, celL, List.map_append] at r3 r4
            have a3 : s.2.length + 1 ≤ c3' := by omega
            have a4 : s.1.length + 1 ≤ c4' := by omega
            have a5 : s.1.length + 1 ≤ (List.map V.s ks ++ List.map V.s zsL).length := by rw [List.length_append, List.length_map, L6.out]; exact Nat.le_refl _
            have a6 : s.2.length * 5 + 5 ≤ (List.map V.s ls ++ List.map V.s zvL).length := by rw [List.length_append, List.length_map, L5.out]; exact Nat.le_refl _
            have HC3 := Hide.mk hc3
            have HC4 := Hide.mk hc4
            clear hc3 hc4
            have w1 : ¬ N = 23 := by omega
            have w2 : ¬ N = 22 := by omega
            have w3 : ¬ N = 18 := by omega
            have w4 : ¬ N = 9 := by omega
            have w5 : ¬ N = 2 := by omega
            have w6 : ¬ N = 1 := by omega
            have w7 : ¬ N = 0 := by omega
            have u1 : 22 < N := by omega
            have u2 : 18 < N := by omega
            have u3 : 9 < N := by omega
            have u4 : 22 < N + 1 := by omega
            have u5 : 18 < N + 1 := by omega
            have u6 : 9 < N + 1 := by omega
            have u7 : 0 ≤ N := Nat.zero_le _
            first | refine WpB.row (by decide) (by decide) (evh ?_) | refine WpB.seq (WpB.row (by decide) (by decide) (evh ?_)) | refine WpB.seq (WpB.seq (WpB.row (by decide) (by decide) (evh ?_))) | refine WpB.seq (WpB.seq (WpB.seq (WpB.row (by decide) (by decide) (evh ?_))))
            first | refine WpB.cond (by decide) rfl (fun _ => WpB.skip ?_) (fun e => by first | (cases e; done) | exact absurd g1 (of_decide_eq_false e)) | refine WpB.seq (WpB.cond (by decide) rfl (fun _ => WpB.skip ?_) (fun e => by first | (cases e; done) | exact absurd g1 (of_decide_eq_false e))) | refine WpB.seq (WpB.seq (WpB.cond (by decide) rfl (fun _ => WpB.skip ?_) (fun e => by first | (cases e; done) | exact absurd g1 (of_decide_eq_false e)))) | refine WpB.seq (WpB.seq (WpB.seq (WpB.cond (by decide) rfl (fun _ => WpB.skip ?_) (fun e => by first | (cases e; done) | exact absurd g1 (of_decide_eq_false e)))))
            first | refine WpB.block ?_ | refine WpB.seq (WpB.block ?_) | refine WpB.seq (WpB.seq (WpB.block ?_)) | refine WpB.seq (WpB.seq (WpB.seq (WpB.block ?_)))
            first | refine WpB.row (by decide) (by decide) (evh ?_) | refine WpB.seq (WpB.row (by decide) (by decide) (evh ?_)) | refine WpB.seq (WpB.seq (WpB.row (by decide) (by decide) (evh ?_))) | refine WpB.seq (WpB.seq (WpB.seq (WpB.row (by decide) (by decide) (evh ?_))))
            first | refine WpB.row (by decide) (by decide) (evh ?_) | refine WpB.seq (WpB.row (by decide) (by decide) (evh ?_)) | refine WpB.seq (WpB.seq (WpB.row (by decide) (by decide) (evh ?_))) | refine WpB.seq (WpB.seq (WpB.seq (WpB.row (by decide) (by decide) (evh ?_))))
            first | refine WpB.row (by decide) (by decide) (evh ?_) | refine WpB.seq (WpB.row (by decide) (by decide) (evh ?_)) | refine WpB.seq (WpB.seq (WpB.row (by decide) (by decide) (evh ?_))) | refine WpB.seq (WpB.seq (WpB.seq (WpB.row (by decide) (by decide) (evh ?_))))
            first | refine WpB.cond (by decide) rfl (fun e => by cases e) (fun _ => WpB.skip ?_) | refine WpB.seq (WpB.cond (by decide) rfl (fun e => by cases e) (fun _ => WpB.skip ?_)) | refine WpB.seq (WpB.seq (WpB.cond (by decide) rfl (fun e => by cases e) (fun _ => WpB.skip ?_))) | refine WpB.seq (WpB.seq (WpB.seq (WpB.cond (by decide) rfl (fun e => by cases e) (fun _ => WpB.skip ?_))))
            first | refine WpB.row (by decide) (by decide) (evh ?_) | refine WpB.seq (WpB.row (by decide) (by decide) (evh ?_)) | refine WpB.seq (WpB.seq (WpB.row (by decide) (by decide) (evh ?_))) | refine WpB.seq (WpB.seq (WpB.seq (WpB.row (by decide) (by decide) (evh ?_))))
            first | refine WpB.row (by decide) (by decide) (evh ?_) | refine WpB.seq (WpB.row (by decide) (by decide) (evh ?_)) | refine WpB.seq (WpB.seq (WpB.row (by decide) (by decide) (evh ?_))) | refine WpB.seq (WpB.seq (WpB.seq (WpB.row (by decide) (by decide) (evh ?_))))
            obtain ⟨M1, hM1⟩ : ∃ k, k = N + 1 := ⟨_, rfl⟩
            refine WpB.forget (S2 := ⟨[(23, .map (ments (s.1 ++ [key]) 0)), (22, .row [.s (.int .i64 6), .s (.float .f64 0), .s (.string (⟨#[]⟩ : ByteArray)), .slc 18 0 s.2.length (some c3'), .slc 9 0 (s.1.length + 1) (some c4')] 27 none .no), (9, .row (ks.map V.s ++ [V.s (.string key)]) 9 none .no), (18, .row (ls.map V.s ++ zvL.map V.s) 27 none .no), (2, .row [.s (.int .i64 0), .s (.float .f64 0), .s (.string (⟨#[]⟩ : ByteArray)), .s (.slice none 0 0), .s (.slice none 0 0)] 27 none .no), (1, .row [.s (.int .i64 y.f0), .s (.float .f64 y.f1), .s (.string y.f2), .s (.slice (some ⟨k2, off2, none⟩) y.f3.length d3), .s (.slice (some ⟨kk, off, none⟩) y.f4.length d4)] 27 none .no), (0, .row [.s (.int .i64 x.f0), .s (.float .f64 x.f1), .s (.string x.f2), .s (.slice A3 x.f3.length c3), .s (.slice A4 x.f4.length c4)] 27 none .no)], M1, 0⟩) (find_skip find_same (by
              have z1 : ¬ 23 = N := by omega
              have z2 : ¬ 22 = N := by omega
              have z3 : ¬ 9 = N := by omega
              have z4 : ¬ 18 = N := by omega
              have z5 : ¬ 2 = N := by omega
              have z6 : ¬ 1 = N := by omega
              have z7 : ¬ 0 = N := by omega
              rw [find_cons, if_neg z1, find_cons, if_neg z2, find_cons, if_neg z3, find_cons, if_neg z4, find_cons, if_neg z5, find_cons, if_neg z6, find_cons, if_neg z7]
              rfl)) (by rw [hM1]) ?_
            have hN1 : 23 < M1 := by omega
            clear w1 w2 w3 w4 w5 w6 w7 u1 u2 u3 u4 u5 u6 u7 hM1 hN
            have v1 : ¬ M1 ≤ 23 := by omega
            have v2 : ¬ M1 ≤ 22 := by omega
            have v3 : ¬ M1 ≤ 18 := by omega
            have v4 : ¬ M1 ≤ 9 := by omega
            have v5 : ¬ M1 ≤ 2 := by omega
            have v6 : ¬ M1 ≤ 1 := by omega
            have v7 : ¬ M1 ≤ 0 := by omega
            have w1 : ¬ M1 = 23 := by omega
            have w2 : ¬ M1 = 22 := by omega
            have w3 : ¬ M1 = 18 := by omega
            have w4 : ¬ M1 = 9 := by omega
            have w5 : ¬ M1 = 2 := by omega
            have w6 : ¬ M1 = 1 := by omega
            have w7 : ¬ M1 = 0 := by omega
            have u1 : 22 < M1 := by omega
            have u2 : 18 < M1 := by omega
            have u7 : 0 ≤ M1 := Nat.zero_le _
            refine WpB.ofF (WpF.drawE (whole_tab _) (by kernel_rfl) (by decide) noCall_ok (ks := [(2, 8), (0, 1), (0, 1), (0, 1)])
              (ds := [[], [0], [], [2], [], [3, 4], [5], [6], [1, 7], [0, 1, 2, 3, 4, 5, 6, 7, 8], [9, 8, 8, 0, 1, 2, 3, 4, 5, 6, 7, 8]])
              (ancs := [0, 1, 0, 4, 0, 28, 60, 124, 255, 511, 1023]) (by kernel_rfl) fun hnew => evh ?_)
            refine WpB.forget (S2 := ⟨[(23, .map (ments (s.1 ++ [key]) 0)), (22, .row [.s (.int .i64 6), .s (.float .f64 0), .s (.string (⟨#[]⟩ : ByteArray)), .slc 18 0 (s.2.length + 1) (some c3'), .slc 9 0 (s.1.length + 1) (some c4')] 27 none .no), (9, .row (ks.map V.s ++ [V.s (.string key)]) 9 none .no), (18, .row (ls.map V.s ++ [.s (.int .i64 wi.f0), .s (.float .f64 wi.f1), .s (.string wi.f2), .s (.slice Q3 wi.f3.length q3), .s (.slice Q4 wi.f4.length q4)]) 27 none .no), (2, .row [.s (.int .i64 0), .s (.float .f64 0), .s (.string (⟨#[]⟩ : ByteArray)), .s (.slice none 0 0), .s (.slice none 0 0)] 27 none .no), (1, .row [.s (.int .i64 y.f0), .s (.float .f64 y.f1), .s (.string y.f2), .s (.slice (some ⟨k2, off2, none⟩) y.f3.length d3), .s (.slice (some ⟨kk, off, none⟩) y.f4.length d4)] 27 none .no), (0, .row [.s (.int .i64 x.f0), .s (.float .f64 x.f1), .s (.string x.f2), .s (.slice A3 x.f3.length c3), .s (.slice A4 x.f4.length c4)] 27 none .no)], _, 0⟩) (find_skip find_same (by
              have z1 : ¬ 23 = M1 + 5 + 2 := by omega
              have z2 : ¬ 22 = M1 + 5 + 2 := by omega
              have z3 : ¬ 9 = M1 + 5 + 2 := by omega
              have z4 : ¬ 18 = M1 + 5 + 2 := by omega
              have z5 : ¬ 2 = M1 + 5 + 2 := by omega
              have z6 : ¬ 1 = M1 + 5 + 2 := by omega
              have z7 : ¬ 0 = M1 + 5 + 2 := by omega
              rw [find_cons, if_neg z1, find_cons, if_neg z2, find_cons, if_neg z3, find_cons, if_neg z4, find_cons, if_neg z5, find_cons, if_neg z6, find_cons, if_neg z7]
              rfl)) rfl ?_
            first | refine WpB.row (by decide) (by decide) (evh ?_) | refine WpB.seq (WpB.row (by decide) (by decide) (evh ?_)) | refine WpB.seq (WpB.seq (WpB.row (by decide) (by decide) (evh ?_))) | refine WpB.seq (WpB.seq (WpB.seq (WpB.row (by decide) (by decide) (evh ?_))))
            refine ⟨y.f4.length - (i + 1), by omega, i + 1, v', (s.1 ++ [key], s.2 ++ [wi]), _, _, rfl, hkn, SU.out.symm, f2, f3, f4, f6, f7, f8, f34, f35, by rw [← d7]; rfl, hlt, rfl, FK.out, FLL.out, .inl ⟨[], [], c3', c4', M1 + 7 + 2, 0, .inr ⟨rfl, rfl, ?_, ?_⟩, by omega, ?_⟩⟩
            · have := HC4.out
              show (s.1 ++ [key]).length = c4'
              rw [List.length_append, List.length_singleton]; omega
            · have := HC3.out
              show (s.2 ++ [wi]).length = c3'
              rw [List.length_append, List.length_singleton]; omega
            · simp only [List.map_append, List.map_cons, List.map_nil, List.append_nil, List.length_append, List.length_singleton, List.length_cons, List.length_nil, Nat.zero_add, celL]
          · simp only [List.map_nil, List.append_nil]
            have a3 : ¬ s.2.length + 1 ≤ c3' := by omega
            have a4 : ¬ s.1.length + 1 ≤ c4' := by omega
            have t4 : List.take s.1.length (List.map V.s ks) = List.map V.s ks := List.take_of_length_le (by rw [List.length_map, L6.out]; exact Nat.le_refl _)
            have t3 : List.take (s.2.length * 5) (List.map V.s ls) = List.map V.s ls := List.take_of_length_le (by rw [List.length_map, L5.out]; exact Nat.le_refl _)
            have m4 : (List.map V.s ks).length = s.1.length := by rw [List.length_map, L6.out]
            have m3 : (List.map V.s ls).length = s.2.length * 5 := by rw [List.length_map, L5.out]
            have HC3 := Hide.mk hc3
            have HC4 := Hide.mk hc4
            clear hc3 hc4
            have w0 : ¬ N = 23 := by omega
            have w1 : ¬ 23 = N := by omega
            have w2 : ¬ N ≤ 23 := by omega
            have w3 : 23 < N := by omega
            have w4 : 23 < N + 1 := by omega
            have w5 : ¬ N = 22 := by omega
            have w6 : ¬ 22 = N := by omega
            have w7 : ¬ N ≤ 22 := by omega
            have w8 : 22 < N := by omega
            have w9 : 22 < N + 1 := by omega
            have w10 : ¬ N = 18 := by omega
            have w11 : ¬ 18 = N := by omega
            have w12 : ¬ N ≤ 18 := by omega
            have w13 : 18 < N := by omega
            have w14 : 18 < N + 1 := by omega
            have w15 : ¬ N = 9 := by omega
            have w16 : ¬ 9 = N := by omega
            have w17 : ¬ N ≤ 9 := by omega
            have w18 : 9 < N := by omega
            have w19 : 9 < N + 1 := by omega
            have w20 : ¬ N = 2 := by omega
            have w21 : ¬ 2 = N := by omega
            have w22 : ¬ N ≤ 2 := by omega
            have w23 : 2 < N := by omega
            have w24 : 2 < N + 1 := by omega
            have w25 : ¬ N = 1 := by omega
            have w26 : ¬ 1 = N := by omega
            have w27 : ¬ N ≤ 1 := by omega
            have w28 : 1 < N := by omega
            have w29 : 1 < N + 1 := by omega
            have w30 : ¬ N = 0 := by omega
            have w31 : ¬ 0 = N := by omega
            have w32 : ¬ N ≤ 0 := by omega
            have w33 : 0 < N := by omega
            have w34 : 0 < N + 1 := by omega
            have w35 : 0 ≤ N := by omega
            first | refine WpB.row (by decide) (by decide) (evh ?_) | refine WpB.seq (WpB.row (by decide) (by decide) (evh ?_)) | refine WpB.seq (WpB.seq (WpB.row (by decide) (by decide) (evh ?_))) | refine WpB.seq (WpB.seq (WpB.seq (WpB.row (by decide) (by decide) (evh ?_))))
            first | refine WpB.cond (by decide) rfl (fun _ => WpB.skip ?_) (fun e => by first | (cases e; done) | exact absurd g1 (of_decide_eq_false e)) | refine WpB.seq (WpB.cond (by decide) rfl (fun _ => WpB.skip ?_) (fun e => by first | (cases e; done) | exact absurd g1 (of_decide_eq_false e))) | refine WpB.seq (WpB.seq (WpB.cond (by decide) rfl (fun _ => WpB.skip ?_) (fun e => by first | (cases e; done) | exact absurd g1 (of_decide_eq_false e)))) | refine WpB.seq (WpB.seq (WpB.seq (WpB.cond (by decide) rfl (fun _ => WpB.skip ?_) (fun e => by first | (cases e; done) | exact absurd g1 (of_decide_eq_false e)))))
            first | refine WpB.block ?_ | refine WpB.seq (WpB.block ?_) | refine WpB.seq (WpB.seq (WpB.block ?_)) | refine WpB.seq (WpB.seq (WpB.seq (WpB.block ?_)))
            first | refine WpB.row (by decide) (by decide) (evh ?_) | refine WpB.seq (WpB.row (by decide) (by decide) (evh ?_)) | refine WpB.seq (WpB.seq (WpB.row (by decide) (by decide) (evh ?_))) | refine WpB.seq (WpB.seq (WpB.seq (WpB.row (by decide) (by decide) (evh ?_))))
            first | refine WpB.row (by decide) (by decide) (evh ?_) | refine WpB.seq (WpB.row (by decide) (by decide) (evh ?_)) | refine WpB.seq (WpB.seq (WpB.row (by decide) (by decide) (evh ?_))) | refine WpB.seq (WpB.seq (WpB.seq (WpB.row (by decide) (by decide) (evh ?_))))
            first | refine WpB.row (by decide) (by decide) (evh ?_) | refine WpB.seq (WpB.row (by decide) (by decide) (evh ?_)) | refine WpB.seq (WpB.seq (WpB.row (by decide) (by decide) (evh ?_))) | refine WpB.seq (WpB.seq (WpB.seq (WpB.row (by decide) (by decide) (evh ?_))))
            first | refine WpB.cond (by decide) rfl (fun e => by cases e) (fun _ => WpB.skip ?_) | refine WpB.seq (WpB.cond (by decide) rfl (fun e => by cases e) (fun _ => WpB.skip ?_)) | refine WpB.seq (WpB.seq (WpB.cond (by decide) rfl (fun e => by cases e) (fun _ => WpB.skip ?_))) | refine WpB.seq (WpB.seq (WpB.seq (WpB.cond (by decide) rfl (fun e => by cases e) (fun _ => WpB.skip ?_))))
            first | refine WpB.row (by decide) (by decide) (evh ?_) | refine WpB.seq (WpB.row (by decide) (by decide) (evh ?_)) | refine WpB.seq (WpB.seq (WpB.row (by decide) (by decide) (evh ?_))) | refine WpB.seq (WpB.seq (WpB.seq (WpB.row (by decide) (by decide) (evh ?_))))
            first | refine WpB.row (by decide) (by decide) (evh ?_) | refine WpB.seq (WpB.row (by decide) (by decide) (evh ?_)) | refine WpB.seq (WpB.seq (WpB.row (by decide) (by decide) (evh ?_))) | refine WpB.seq (WpB.seq (WpB.seq (WpB.row (by decide) (by decide) (evh ?_))))
            obtain ⟨K1, hK1⟩ : ∃ k, k = N + 1 := ⟨_, rfl⟩
            obtain ⟨M1, hM1⟩ : ∃ k, k = N + 1 + 1 := ⟨_, rfl⟩
            refine WpB.forget (S2 := ⟨[(K1, .row (ks.map V.s ++ [V.s (.string key)]) 9 (some 1) .no), (23, .map (ments (s.1 ++ [key]) 0)), (22, .row [.s (.int .i64 6), .s (.float .f64 0), .s (.string (⟨#[]⟩ : ByteArray)), .slc 18 0 s.2.length (some c3'), .slc K1 0 (s.1.length + 1) none] 27 none .no), (18, .row (ls.map V.s) 27 none .no), (2, .row [.s (.int .i64 0), .s (.float .f64 0), .s (.string (⟨#[]⟩ : ByteArray)), .s (.slice none 0 0), .s (.slice none 0 0)] 27 none .no), (1, .row [.s (.int .i64 y.f0), .s (.float .f64 y.f1), .s (.string y.f2), .s (.slice (some ⟨k2, off2, none⟩) y.f3.length d3), .s (.slice (some ⟨kk, off, none⟩) y.f4.length d4)] 27 none .no), (0, .row [.s (.int .i64 x.f0), .s (.float .f64 x.f1), .s (.string x.f2), .s (.slice A3 x.f3.length c3), .s (.slice A4 x.f4.length c4)] 27 none .no)], M1, 0⟩) (by
              rw [hK1]
              exact find_both (find_skip (find_both (find_both (find_skip find_same (by rfl)))) (by
                have z1 : ¬ 23 = N := by omega
                have z2 : ¬ 22 = N := by omega
                have z3 : ¬ 18 = N := by omega
                have z4 : ¬ 2 = N := by omega
                have z5 : ¬ 1 = N := by omega
                have z6 : ¬ 0 = N := by omega
                rw [find_cons, if_neg z1, find_cons, if_neg z2, find_cons, if_neg z3, find_cons, if_neg z4, find_cons, if_neg z5, find_cons, if_neg z6]
                rfl))) (by rw [hM1]) ?_
            clear w0 w1 w2 w3 w4 w5 w6 w7 w8 w9 w10 w11 w12 w13 w14 w15 w16 w17 w18 w19 w20 w21 w22 w23 w24 w25 w26 w27 w28 w29 w30 w31 w32 w33 w34 w35
            have hK2 : K1 < M1 := by omega
            have hK3 : 23 < K1 := by omega
            clear hK1 hM1 hN
            have v0 : ¬ M1 = 23 := by omega
            have v1 : ¬ 23 = M1 := by omega
            have v2 : ¬ M1 ≤ 23 := by omega
            have v3 : 23 < M1 := by omega
            have v4 : 23 < M1 + 1 := by omega
            have v5 : ¬ M1 = 22 := by omega
            have v6 : ¬ 22 = M1 := by omega
            have v7 : ¬ M1 ≤ 22 := by omega
            have v8 : 22 < M1 := by omega
            have v9 : 22 < M1 + 1 := by omega
            have v10 : ¬ M1 = 18 := by omega
            have v11 : ¬ 18 = M1 := by omega
            have v12 : ¬ M1 ≤ 18 := by omega
            have v13 : 18 < M1 := by omega
            have v14 : 18 < M1 + 1 := by omega
            have v15 : ¬ M1 = 2 := by omega
            have v16 : ¬ 2 = M1 := by omega
            have v17 : ¬ M1 ≤ 2 := by omega
            have v18 : 2 < M1 := by omega
            have v19 : 2 < M1 + 1 := by omega
            have v20 : ¬ M1 = 1 := by omega
            have v21 : ¬ 1 = M1 := by omega
            have v22 : ¬ M1 ≤ 1 := by omega
            have v23 : 1 < M1 := by omega
            have v24 : 1 < M1 + 1 := by omega
            have v25 : ¬ M1 = 0 := by omega
            have v26 : ¬ 0 = M1 := by omega
            have v27 : ¬ M1 ≤ 0 := by omega
            have v28 : 0 < M1 := by omega
            have v29 : 0 < M1 + 1 := by omega
            have v30 : ¬ M1 = K1 := by omega
            have v31 : ¬ K1 = M1 := by omega
            have v32 : ¬ M1 ≤ K1 := by omega
            have v33 : K1 < M1 := by omega
            have v34 : K1 < M1 + 1 := by omega
            have v35 : 0 ≤ M1 := by omega
            have y0 : ¬ K1 = 23 := by omega
            have y1 : ¬ 23 = K1 := by omega
            have y2 : ¬ K1 = 22 := by omega
            have y3 : ¬ 22 = K1 := by omega
            have y4 : ¬ K1 = 18 := by omega
            have y5 : ¬ 18 = K1 := by omega
            have y6 : ¬ K1 = 2 := by omega
            have y7 : ¬ 2 = K1 := by omega
            have y8 : ¬ K1 = 1 := by omega
            have y9 : ¬ 1 = K1 := by omega
            have y10 : ¬ K1 = 0 := by omega
            have y11 : ¬ 0 = K1 := by omega
            refine WpB.ofF (WpF.drawE (whole_tab _) (by kernel_rfl) (by decide) noCall_ok (ks := [(2, 8), (0, 1), (0, 1), (0, 1)])
              (ds := [[], [0], [], [2], [], [3, 4], [5], [6], [1, 7], [0, 1, 2, 3, 4, 5, 6, 7, 8], [9, 8, 8, 0, 1, 2, 3, 4, 5, 6, 7, 8]])
              (ancs := [0, 1, 0, 4, 0, 28, 60, 124, 255, 511, 1023]) (by kernel_rfl) fun hnew => evh ?_)
            refine WpB.forget (S2 := ⟨[(M1 + 7 + 2, .row (ls.map V.s ++ [.s (.int .i64 wi.f0), .s (.float .f64 wi.f1), .s (.string wi.f2), .s (.slice Q3 wi.f3.length q3), .s (.slice Q4 wi.f4.length q4)]) 27 (some 5) .no), (K1, .row (ks.map V.s ++ [V.s (.string key)]) 9 (some 1) .no), (23, .map (ments (s.1 ++ [key]) 0)), (22, .row [.s (.int .i64 6), .s (.float .f64 0), .s (.string (⟨#[]⟩ : ByteArray)), .slc (M1 + 7 + 2) 0 (s.2.length + 1) none, .slc K1 0 (s.1.length + 1) none] 27 none .no), (2, .row [.s (.int .i64 0), .s (.float .f64 0), .s (.string (⟨#[]⟩ : ByteArray)), .s (.slice none 0 0), .s (.slice none 0 0)] 27 none .no), (1, .row [.s (.int .i64 y.f0), .s (.float .f64 y.f1), .s (.string y.f2), .s (.slice (some ⟨k2, off2, none⟩) y.f3.length d3), .s (.slice (some ⟨kk, off, none⟩) y.f4.length d4)] 27 none .no), (0, .row [.s (.int .i64 x.f0), .s (.float .f64 x.f1), .s (.string x.f2), .s (.slice A3 x.f3.length c3), .s (.slice A4 x.f4.length c4)] 27 none .no)], _, 0⟩) (find_both (find_skip (find_both (find_both (find_both (find_skip find_same (by rfl))))) (by
              have z1 : ¬ K1 = M1 + 5 + 2 := by omega
              have z2 : ¬ 23 = M1 + 5 + 2 := by omega
              have z3 : ¬ 22 = M1 + 5 + 2 := by omega
              have z4 : ¬ 2 = M1 + 5 + 2 := by omega
              have z5 : ¬ 1 = M1 + 5 + 2 := by omega
              have z6 : ¬ 0 = M1 + 5 + 2 := by omega
              rw [find_cons, if_neg z1, find_cons, if_neg z2, find_cons, if_neg z3, find_cons, if_neg z4, find_cons, if_neg z5, find_cons, if_neg z6]
              rfl))) rfl ?_
            first | refine WpB.row (by decide) (by decide) (evh ?_) | refine WpB.seq (WpB.row (by decide) (by decide) (evh ?_)) | refine WpB.seq (WpB.seq (WpB.row (by decide) (by decide) (evh ?_))) | refine WpB.seq (WpB.seq (WpB.seq (WpB.row (by decide) (by decide) (evh ?_))))
            refine ⟨y.f4.length - (i + 1), by omega, i + 1, v', (s.1 ++ [key], s.2 ++ [wi]), _, _, rfl, hkn, SU.out.symm, f2, f3, f4, f6, f7, f8, f34, f35, by rw [← d7]; rfl, hlt, rfl, FK.out, FLL.out, .inr ⟨K1, M1 + 7 + 2, M1 + 8 + 2, 0, hK3, by omega, by omega, ?_⟩⟩
            simp only [List.map_append, List.map_cons, List.map_nil, List.append_nil, List.length_append, List.length_singleton, List.length_cons, List.length_nil, Nat.zero_add, celL]
        · have t4 : List.take s.1.length (List.map V.s ks) = List.map V.s ks := List.take_of_length_le (by rw [List.length_map, L6.out]; exact Nat.le_refl _)
          have t3 : List.take (s.2.length * 5) (List.map V.s ls) = List.map V.s ls := List.take_of_length_le (by rw [List.length_map, L5.out]; exact Nat.le_refl _)
          have m4 : (List.map V.s ks).length = s.1.length := by rw [List.length_map, L6.out]
          have m3 : (List.map V.s ls).length = s.2.length * 5 := by rw [List.length_map, L5.out]
          have w0 : ¬ N = il := by omega
          have w1 : ¬ il = N := by omega
          have w2 : ¬ N ≤ il := by omega
          have w3 : il < N := by omega
          have w4 : il < N + 1 := by omega
          have w5 : ¬ N = ik := by omega
          have w6 : ¬ ik = N := by omega
          have w7 : ¬ N ≤ ik := by omega
          have w8 : ik < N := by omega
          have w9 : ik < N + 1 := by omega
          have w10 : ¬ N = 23 := by omega
          have w11 : ¬ 23 = N := by omega
          have w12 : ¬ N ≤ 23 := by omega
          have w13 : 23 < N := by omega
          have w14 : 23 < N + 1 := by omega
          have w15 : ¬ N = 22 := by omega
          have w16 : ¬ 22 = N := by omega
          have w17 : ¬ N ≤ 22 := by omega
          have w18 : 22 < N := by omega
          have w19 : 22 < N + 1 := by omega
          have w20 : ¬ N = 2 := by omega
          have w21 : ¬ 2 = N := by omega
          have w22 : ¬ N ≤ 2 := by omega
          have w23 : 2 < N := by omega
          have w24 : 2 < N + 1 := by omega
          have w25 : ¬ N = 1 := by omega
          have w26 : ¬ 1 = N := by omega
          have w27 : ¬ N ≤ 1 := by omega
          have w28 : 1 < N := by omega
          have w29 : 1 < N + 1 := by omega
          have w30 : ¬ N = 0 := by omega
          have w31 : ¬ 0 = N := by omega
          have w32 : ¬ N ≤ 0 := by omega
          have w33 : 0 < N := by omega
          have w34 : 0 < N + 1 := by omega
          have w35 : 0 ≤ N := by omega
          have q0 : ¬ il = ik := by omega
          have q1 : ¬ ik = il := by omega
          have q2 : ¬ il = 23 := by omega
          have q3 : ¬ 23 = il := by omega
          have q4 : ¬ il = 22 := by omega
          have q5 : ¬ 22 = il := by omega
          have q6 : ¬ il = 2 := by omega
          have q7 : ¬ 2 = il := by omega
          have q8 : ¬ il = 1 := by omega
          have q9 : ¬ 1 = il := by omega
          have q10 : ¬ il = 0 := by omega
          have q11 : ¬ 0 = il := by omega
          have q12 : ¬ ik = 23 := by omega
          have q13 : ¬ 23 = ik := by omega
          have q14 : ¬ ik = 22 := by omega
          have q15 : ¬ 22 = ik := by omega
          have q16 : ¬ ik = 2 := by omega
          have q17 : ¬ 2 = ik := by omega
          have q18 : ¬ ik = 1 := by omega
          have q19 : ¬ 1 = ik := by omega
          have q20 : ¬ ik = 0 := by omega
          have q21 : ¬ 0 = ik := by omega
          first | refine WpB.row (by decide) (by decide) (evh ?_) | refine WpB.seq (WpB.row (by decide) (by decide) (evh ?_)) | refine WpB.seq (WpB.seq (WpB.row (by decide) (by decide) (evh ?_))) | refine WpB.seq (WpB.seq (WpB.seq (WpB.row (by decide) (by decide) (evh ?_))))
          first | refine WpB.cond (by decide) rfl (fun _ => WpB.skip ?_) (fun e => by first | (cases e; done) | exact absurd g1 (of_decide_eq_false e)) | refine WpB.seq (WpB.cond (by decide) rfl (fun _ => WpB.skip ?_) (fun e => by first | (cases e; done) | exact absurd g1 (of_decide_eq_false e))) | refine WpB.seq (WpB.seq (WpB.cond (by decide) rfl (fun _ => WpB.skip ?_) (fun e => by first | (cases e; done) | exact absurd g1 (of_decide_eq_false e)))) | refine WpB.seq (WpB.seq (WpB.seq (WpB.cond (by decide) rfl (fun _ => WpB.skip ?_) (fun e => by first | (cases e; done) | exact absurd g1 (of_decide_eq_false e)))))
          first | refine WpB.block ?_ | refine WpB.seq (WpB.block ?_) | refine WpB.seq (WpB.seq (WpB.block ?_)) | refine WpB.seq (WpB.seq (WpB.seq (WpB.block ?_)))
          first | refine WpB.row (by decide) (by decide) (evh ?_) | refine WpB.seq (WpB.row (by decide) (by decide) (evh ?_)) | refine WpB.seq (WpB.seq (WpB.row (by decide) (by decide) (evh ?_))) | refine WpB.seq (WpB.seq (WpB.seq (WpB.row (by decide) (by decide) (evh ?_))))
          first | refine WpB.row (by decide) (by decide) (evh ?_) | refine WpB.seq (WpB.row (by decide) (by decide) (evh ?_)) | refine WpB.seq (WpB.seq (WpB.row (by decide) (by decide) (evh ?_))) | refine WpB.seq (WpB.seq (WpB.seq (WpB.row (by decide) (by decide) (evh ?_))))
          first | refine WpB.row (by decide) (by decide) (evh ?_) | refine WpB.seq (WpB.row (by decide) (by decide) (evh ?_)) | refine WpB.seq (WpB.seq (WpB.row (by decide) (by decide) (evh ?_))) | refine WpB.seq (WpB.seq (WpB.seq (WpB.row (by decide) (by decide) (evh ?_))))
          first | refine WpB.cond (by decide) rfl (fun e => by cases e) (fun _ => WpB.skip ?_) | refine WpB.seq (WpB.cond (by decide) rfl (fun e => by cases e) (fun _ => WpB.skip ?_)) | refine WpB.seq (WpB.seq (WpB.cond (by decide) rfl (fun e => by cases e) (fun _ => WpB.skip ?_))) | refine WpB.seq (WpB.seq (WpB.seq (WpB.cond (by decide) rfl (fun e => by cases e) (fun _ => WpB.skip ?_))))
          first | refine WpB.row (by decide) (by decide) (evh ?_) | refine WpB.seq (WpB.row (by decide) (by decide) (evh ?_)) | refine WpB.seq (WpB.seq (WpB.row (by decide) (by decide) (evh ?_))) | refine WpB.seq (WpB.seq (WpB.seq (WpB.row (by decide) (by decide) (evh ?_))))
          first | refine WpB.row (by decide) (by decide) (evh ?_) | refine WpB.seq (WpB.row (by decide) (by decide) (evh ?_)) | refine WpB.seq (WpB.seq (WpB.row (by decide) (by decide) (evh ?_))) | refine WpB.seq (WpB.seq (WpB.seq (WpB.row (by decide) (by decide) (evh ?_))))
          obtain ⟨K1, hK1⟩ : ∃ k, k = N + 1 := ⟨_, rfl⟩
          obtain ⟨M1, hM1⟩ : ∃ k, k = N + 1 + 1 := ⟨_, rfl⟩
          refine WpB.forget (S2 := ⟨[(K1, .row (ks.map V.s ++ [V.s (.string key)]) 9 (some 1) .no), (il, .row (ls.map V.s) 27 (some 5) .no), (23, .map (ments (s.1 ++ [key]) 0)), (22, .row [.s (.int .i64 6), .s (.float .f64 0), .s (.string (⟨#[]⟩ : ByteArray)), .slc il 0 s.2.length none, .slc K1 0 (s.1.length + 1) none] 27 none .no), (2, .row [.s (.int .i64 0), .s (.float .f64 0), .s (.string (⟨#[]⟩ : ByteArray)), .s (.slice none 0 0), .s (.slice none 0 0)] 27 none .no), (1, .row [.s (.int .i64 y.f0), .s (.float .f64 y.f1), .s (.string y.f2), .s (.slice (some ⟨k2, off2, none⟩) y.f3.length d3), .s (.slice (some ⟨kk, off, none⟩) y.f4.length d4)] 27 none .no), (0, .row [.s (.int .i64 x.f0), .s (.float .f64 x.f1), .s (.string x.f2), .s (.slice A3 x.f3.length c3), .s (.slice A4 x.f4.length c4)] 27 none .no)], M1, 0⟩) (by
            rw [hK1]
            exact find_both (find_skip find_same (by
              have z1 : ¬ il = N := by omega
              have z2 : ¬ 23 = N := by omega
              have z3 : ¬ 22 = N := by omega
              have z4 : ¬ 2 = N := by omega
              have z5 : ¬ 1 = N := by omega
              have z6 : ¬ 0 = N := by omega
              rw [find_cons, if_neg z1, find_cons, if_neg z2, find_cons, if_neg z3, find_cons, if_neg z4, find_cons, if_neg z5, find_cons, if_neg z6]
              rfl))) (by rw [hM1]) ?_
          clear w0 w1 w2 w3 w4 w5 w6 w7 w8 w9 w10 w11 w12 w13 w14 w15 w16 w17 w18 w19 w20 w21 w22 w23 w24 w25 w26 w27 w28 w29 w30 w31 w32 w33 w34 w35 q0 q1 q2 q3 q4 q5 q6 q7 q8 q9 q10 q11 q12 q13 q14 q15 q16 q17 q18 q19 q20 q21
          have hK2 : K1 < M1 := by omega
          have hK3 : 23 < K1 := by omega
          have hK4 : il < K1 := by omega
          have hK5 : 23 < il := by omega
          clear hK1 hM1 hN hik hil
          have v0 : ¬ M1 = il := by omega
          have v1 : ¬ il = M1 := by omega
          have v2 : ¬ M1 ≤ il := by omega
          have v3 : il < M1 := by omega
          have v4 : il < M1 + 1 := by omega
          have v5 : ¬ M1 = 23 := by omega
          have v6 : ¬ 23 = M1 := by omega
          have v7 : ¬ M1 ≤ 23 := by omega
          have v8 : 23 < M1 := by omega
          have v9 : 23 < M1 + 1 := by omega
          have v10 : ¬ M1 = 22 := by omega
          have v11 : ¬ 22 = M1 := by omega
          have v12 : ¬ M1 ≤ 22 := by omega
          have v13 : 22 < M1 := by omega
          have v14 : 22 < M1 + 1 := by omega
          have v15 : ¬ M1 = 2 := by omega
          have v16 : ¬ 2 = M1 := by omega
          have v17 : ¬ M1 ≤ 2 := by omega
          have v18 : 2 < M1 := by omega
          have v19 : 2 < M1 + 1 := by omega
          have v20 : ¬ M1 = 1 := by omega
          have v21 : ¬ 1 = M1 := by omega
          have v22 : ¬ M1 ≤ 1 := by omega
          have v23 : 1 < M1 := by omega
          have v24 : 1 < M1 + 1 := by omega
          have v25 : ¬ M1 = 0 := by omega
          have v26 : ¬ 0 = M1 := by omega
          have v27 : ¬ M1 ≤ 0 := by omega
          have v28 : 0 < M1 := by omega
          have v29 : 0 < M1 + 1 := by omega
          have v30 : ¬ M1 = K1 := by omega
          have v31 : ¬ K1 = M1 := by omega
          have v32 : ¬ M1 ≤ K1 := by omega
          have v33 : K1 < M1 := by omega
          have v34 : K1 < M1 + 1 := by omega
          have v35 : 0 ≤ M1 := by omega
          have y0 : ¬ K1 = 23 := by omega
          have y1 : ¬ 23 = K1 := by omega
          have y2 : ¬ K1 = 22 := by omega
          have y3 : ¬ 22 = K1 := by omega
          have y4 : ¬ K1 = il := by omega
          have y5 : ¬ il = K1 := by omega
          have y6 : ¬ K1 = 2 := by omega
          have y7 : ¬ 2 = K1 := by omega
          have y8 : ¬ K1 = 1 := by omega
          have y9 : ¬ 1 = K1 := by omega
          have y10 : ¬ K1 = 0 := by omega
          have y11 : ¬ 0 = K1 := by omega
          have y12 : ¬ il = 23 := by omega
          have y13 : ¬ 23 = il := by omega
          have y14 : ¬ il = 22 := by omega
          have y15 : ¬ 22 = il := by omega
          have y16 : ¬ il = 2 := by omega
          have y17 : ¬ 2 = il := by omega
          have y18 : ¬ il = 1 := by omega
          have y19 : ¬ 1 = il := by omega
          have y20 : ¬ il = 0 := by omega
          have y21 : ¬ 0 = il := by omega
          refine WpB.ofF (WpF.drawE (whole_tab _) (by kernel_rfl) (by decide) noCall_ok (ks := [(2, 8), (0, 1), (0, 1), (0, 1)])
            (ds := [[], [0], [], [2], [], [3, 4], [5], [6], [1, 7], [0, 1, 2, 3, 4, 5, 6, 7, 8], [9, 8, 8, 0, 1, 2, 3, 4, 5, 6, 7, 8]])
            (ancs := [0, 1, 0, 4, 0, 28, 60, 124, 255, 511, 1023]) (by kernel_rfl) fun hnew => evh ?_)
          refine WpB.forget (S2 := ⟨[(M1 + 7 + 2, .row (ls.map V.s ++ [.s (.int .i64 wi.f0), .s (.float .f64 wi.f1), .s (.string wi.f2), .s (.slice Q3 wi.f3.length q3), .s (.slice Q4 wi.f4.length q4)]) 27 (some 5) .no), (K1, .row (ks.map V.s ++ [V.s (.string key)]) 9 (some 1) .no), (23, .map (ments (s.1 ++ [key]) 0)), (22, .row [.s (.int .i64 6), .s (.float .f64 0), .s (.string (⟨#[]⟩ : ByteArray)), .slc (M1 + 7 + 2) 0 (s.2.length + 1) none, .slc K1 0 (s.1.length + 1) none] 27 none .no), (2, .row [.s (.int .i64 0), .s (.float .f64 0), .s (.string (⟨#[]⟩ : ByteArray)), .s (.slice none 0 0), .s (.slice none 0 0)] 27 none .no), (1, .row [.s (.int .i64 y.f0), .s (.float .f64 y.f1), .s (.string y.f2), .s (.slice (some ⟨k2, off2, none⟩) y.f3.length d3), .s (.slice (some ⟨kk, off, none⟩) y.f4.length d4)] 27 none .no), (0, .row [.s (.int .i64 x.f0), .s (.float .f64 x.f1), .s (.string x.f2), .s (.slice A3 x.f3.length c3), .s (.slice A4 x.f4.length c4)] 27 none .no)], _, 0⟩) (find_both (find_skip find_same (by
            have z1 : ¬ K1 = M1 + 5 + 2 := by omega
            have z2 : ¬ 23 = M1 + 5 + 2 := by omega
            have z3 : ¬ 22 = M1 + 5 + 2 := by omega
            have z4 : ¬ 2 = M1 + 5 + 2 := by omega
            have z5 : ¬ 1 = M1 + 5 + 2 := by omega
            have z6 : ¬ 0 = M1 + 5 + 2 := by omega
            rw [find_cons, if_neg z1, find_cons, if_neg z2, find_cons, if_neg z3, find_cons, if_neg z4, find_cons, if_neg z5, find_cons, if_neg z6]
            rfl))) rfl ?_
          first | refine WpB.row (by decide) (by decide) (evh ?_) | refine WpB.seq (WpB.row (by decide) (by decide) (evh ?_)) | refine WpB.seq (WpB.seq (WpB.row (by decide) (by decide) (evh ?_))) | refine WpB.seq (WpB.seq (WpB.seq (WpB.row (by decide) (by decide) (evh ?_))))
          refine ⟨y.f4.length - (i + 1), by omega, i + 1, v', (s.1 ++ [key], s.2 ++ [wi]), _, _, rfl, hkn, SU.out.symm, f2, f3, f4, f6, f7, f8, f34, f35, by rw [← d7]; rfl, hlt, rfl, FK.out, FLL.out, .inr ⟨K1, M1 + 7 + 2, M1 + 8 + 2, 0, hK3, by omega, by omega, ?_⟩⟩
          simp only [List.map_append, List.map_cons, List.map_nil, List.append_nil, List.length_append, List.length_singleton, List.length_cons, List.length_nil, Nat.zero_add, celL]
      · rw [Nat.zero_add] at p1
        rw [p1, if_neg (by omega)] at mlk
        have hsj : s.1[j]? = some key := by rw [List.getElem?_eq_getElem p2, p3']
        have hjx : j < x.f4.length := by
          rcases Nat.lt_or_ge j x.f4.length with h | h
          · exact h
          · exfalso
            rw [pre, List.getElem?_append_right h] at hsj
            exact hkt (hnew key (List.mem_of_getElem? hsj))
        have hjx3 : j < x.f3.length := by rw [← LX.out]; exact hjx
        have hxj : x.f4[j]? = some key := by rw [pre, List.getElem?_append_left hjx] at hsj; exact hsj
        have hold : s.2[j]? = some x.f3[j] := by rw [old j key hxj hkt, List.getElem?_eq_getElem hjx3]
        have hjs : j < s.2.length := (List.getElem?_eq_some_iff.1 hold).1
        have hmemz : x.f3[j] ∈ x.f3 := List.getElem_mem hjx3
        have hsucc : mst f x y (i + 1) = (s.1, s.2.set j (f x.f3[j] wi)) := by
          rw [hsucc]
          unfold mstep
          rw [p1, if_neg (by omega), Int.toNat_natCast, hold]
          rfl
        generalize x.f3[j] = zj at *
        obtain ⟨T3, t3, T4, t4, hcell, r4', r3', r2', r1'⟩ := k27_open (hls.2 j zj hold)
        have hcell : (ls.drop (j * 5)).take 5 = _ := hcell
        have hlls : ls.length = s.2.length * 5 := hls.1
        have j0 : (0 : Int) ≤ (j : Int) := by omega
        have j1 : (j : Int) < (s.2.length : Int) := by omega
        have hzj : Hide (Vr v' zj _) := Hide.mk ⟨T3, t3, T4, t4, rfl, ⟨r3', r4'⟩, ⟨r1', r2'⟩⟩
        have hcall := HF.out zj hmemz wi hmemx v' _ _ hzj.out hwi.out
        have SU := Hide.mk hsucc
        clear hsucc hold hxj hsj p3' p4' p1 p2 len nd got pre hnew hkt old
        rcases hS with ⟨pk, pl, c3', c4', N, L, hph, hN, rfl⟩ | ⟨ik, il, N, L, hik, hil, hN, rfl⟩
        · have hx5 : List.take 5 (List.drop (j * 5) (List.map V.s ls ++ List.map V.s pl)) = [.s (.int .i64 zj.f0), .s (.float .f64 zj.f1), .s (.string zj.f2), .s (.slice T3 zj.f3.length t3), .s (.slice T4 zj.f4.length t4)] := by
            rw [← List.map_append, ← List.map_drop, ← List.map_take, List.drop_append_of_le_length (by omega), List.take_append_of_le_length (by rw [List.length_drop]; omega), hcell]
            rfl
          have HPH := Hide.mk hph
          have HKS := Hide.mk hks
          have HLS := Hide.mk hls
          clear hph hcell hks hls
          first | refine WpB.row (by decide) (by decide) (evh ?_) | refine WpB.seq (WpB.row (by decide) (by decide) (evh ?_)) | refine WpB.seq (WpB.seq (WpB.row (by decide) (by decide) (evh ?_))) | refine WpB.seq (WpB.seq (WpB.seq (WpB.row (by decide) (by decide) (evh ?_))))
          first | refine WpB.cond (by decide) rfl (fun _ => WpB.skip ?_) (fun e => by first | (cases e; done) | exact absurd g1 (of_decide_eq_false e)) | refine WpB.seq (WpB.cond (by decide) rfl (fun _ => WpB.skip ?_) (fun e => by first | (cases e; done) | exact absurd g1 (of_decide_eq_false e))) | refine WpB.seq (WpB.seq (WpB.cond (by decide) rfl (fun _ => WpB.skip ?_) (fun e => by first | (cases e; done) | exact absurd g1 (of_decide_eq_false e)))) | refine WpB.seq (WpB.seq (WpB.seq (WpB.cond (by decide) rfl (fun _ => WpB.skip ?_) (fun e => by first | (cases e; done) | exact absurd g1 (of_decide_eq_false e)))))
          first | refine WpB.block ?_ | refine WpB.seq (WpB.block ?_) | refine WpB.seq (WpB.seq (WpB.block ?_)) | refine WpB.seq (WpB.seq (WpB.seq (WpB.block ?_)))
          first | refine WpB.row (by decide) (by decide) (evh ?_) | refine WpB.seq (WpB.row (by decide) (by decide) (evh ?_)) | refine WpB.seq (WpB.seq (WpB.row (by decide) (by decide) (evh ?_))) | refine WpB.seq (WpB.seq (WpB.seq (WpB.row (by decide) (by decide) (evh ?_))))
          first | refine WpB.row (by decide) (by decide) (evh ?_) | refine WpB.seq (WpB.row (by decide) (by decide) (evh ?_)) | refine WpB.seq (WpB.seq (WpB.row (by decide) (by decide) (evh ?_))) | refine WpB.seq (WpB.seq (WpB.seq (WpB.row (by decide) (by decide) (evh ?_))))
          first | refine WpB.row (by decide) (by decide) (evh ?_) | refine WpB.seq (WpB.row (by decide) (by decide) (evh ?_)) | refine WpB.seq (WpB.seq (WpB.row (by decide) (by decide) (evh ?_))) | refine WpB.seq (WpB.seq (WpB.seq (WpB.row (by decide) (by decide) (evh ?_))))
          first | refine WpB.cond (by decide) rfl (fun _ => ?_) (fun e => by cases e) | refine WpB.seq (WpB.cond (by decide) rfl (fun _ => ?_) (fun e => by cases e)) | refine WpB.seq (WpB.seq (WpB.cond (by decide) rfl (fun _ => ?_) (fun e => by cases e))) | refine WpB.seq (WpB.seq (WpB.seq (WpB.cond (by decide) rfl (fun _ => ?_) (fun e => by cases e))))
          first | refine WpB.drawY (by kernel_rfl) (by decide) [0, 1, 2, 3, 4, 5, 6, 7, 8, 9, 10, 11, 12, 13, 14, 15] 16 (by kernel_rfl) (by kernel_rfl) (by kernel_rfl) (by kernel_rfl) (by kernel_rfl) (by kernel_rfl) (by kernel_rfl) (by kernel_rfl) rfl (evh ?_) | refine WpB.seq (WpB.drawY (by kernel_rfl) (by decide) [0, 1, 2, 3, 4, 5, 6, 7, 8, 9, 10, 11, 12, 13, 14, 15] 16 (by kernel_rfl) (by kernel_rfl) (by kernel_rfl) (by kernel_rfl) (by kernel_rfl) (by kernel_rfl) (by kernel_rfl) (by kernel_rfl) rfl (evh ?_)) | refine WpB.seq (WpB.seq (WpB.drawY (by kernel_rfl) (by decide) [0, 1, 2, 3, 4, 5, 6, 7, 8, 9, 10, 11, 12, 13, 14, 15] 16 (by kernel_rfl) (by kernel_rfl) (by kernel_rfl) (by kernel_rfl) (by kernel_rfl) (by kernel_rfl) (by kernel_rfl) (by kernel_rfl) rfl (evh ?_))) | refine WpB.seq (WpB.seq (WpB.seq (WpB.drawY (by kernel_rfl) (by decide) [0, 1, 2, 3, 4, 5, 6, 7, 8, 9, 10, 11, 12, 13, 14, 15] 16 (by kernel_rfl) (by kernel_rfl) (by kernel_rfl) (by kernel_rfl) (by kernel_rfl) (by kernel_rfl) (by kernel_rfl) (by kernel_rfl) rfl (evh ?_))))
          refine ⟨_, _, _, _, rfl, CallB.of_gv (b := ⟨b0.w, v'⟩) hcall, ?_⟩
          rintro ⟨bw, v2⟩ u ⟨q, rfl, hbw, hkk, hR⟩
          have hbw : bw = b0.w := hbw
          subst hbw
          have hkk : Known v' v2 := hkk
          obtain ⟨E3, e3, E4, e4', rfl, m3, m4⟩ := hR
          have hs5 : (celL (f zj wi) E3 e3 E4 e4').length = 5 := rfl
          have r3 := setRange_lits ls (celL (f zj wi) E3 e3 E4 e4') (j * 5) (by rw [hs5]; omega) (pl.map V.s)
          rw [hs5, show j * 5 + 5 = (j + 1) * 5 by omega] at r3
          have fl5 : Fl k27 v2 (s.2.set j (f zj wi)) (ls.take (j * 5) ++ celL (f zj wi) E3 e3 E4 e4' ++ ls.drop ((j + 1) * 5)) := (HLS.out.up k27_up hkk).set hjs (Vr.K m3 m4)
          generalize ls.take (j * 5) ++ celL (f zj wi) E3 e3 E4 e4' ++ ls.drop ((j + 1) * 5) = ls' at r3 fl5
          have FL5 := Hide.mk fl5
          simp only [List.map_cons, List.map_nil, celL] at r3
          have a6 : j * 5 + 5 ≤ (List.map V.s ls ++ List.map V.s pl).length := by rw [List.length_append, List.length_map]; omega
          have a7 : 18 < N := by omega
          clear fl5 hs5
          refine evh ?_
          refine WpB.exit ?_
          first | refine WpB.row (by decide) (by decide) (evh ?_) | refine WpB.seq (WpB.row (by decide) (by decide) (evh ?_)) | refine WpB.seq (WpB.seq (WpB.row (by decide) (by decide) (evh ?_))) | refine WpB.seq (WpB.seq (WpB.seq (WpB.row (by decide) (by decide) (evh ?_))))
          refine ⟨y.f4.length - (i + 1), by omega, i + 1, v2, (s.1, s.2.set j (f zj wi)), ks, ls', rfl, hkn.trans hkk, SU.out.symm, f2, f3, f4, f6, f7, f8, f34, f35, by rw [← d7]; rfl, hlt, rfl, HKS.out.up str_up hkk, FL5.out, .inl ⟨pk, pl, c3', c4', N, (if 18 ≤ L then 18 else L), ?_, hN, ?_⟩⟩
          · have := HPH.out
            show (_ ∧ _ ∧ _ ∧ (s.2.set j (f zj wi)).length + 1 = c3') ∨ (_ ∧ _ ∧ _ ∧ (s.2.set j (f zj wi)).length = c3')
            rw [List.length_set]
            exact this
          · show _ = St.mk [_, (22, .row [_, _, _, .slc 18 0 (s.2.set j (f zj wi)).length _, _] _ _ _), _, _, _, _, _] _ _
            rw [List.length_set]
        · have hx5 : List.take 5 (List.drop (j * 5) (List.map V.s ls)) = [.s (.int .i64 zj.f0), .s (.float .f64 zj.f1), .s (.string zj.f2), .s (.slice T3 zj.f3.length t3), .s (.slice T4 zj.f4.length t4)] := by
            rw [← List.map_drop, ← List.map_take, hcell]
            rfl
          have HKS := Hide.mk hks
          have HLS := Hide.mk hls
          clear hcell hks hls
          have w1 : ¬ il = 23 := by omega
          have w2 : ¬ ik = 23 := by omega
          have w3 : ¬ 23 = il := by omega
          have w4 : ¬ 23 = ik := by omega
          have w5 : ¬ N = 23 := by omega
          have w6 : ¬ 23 = N := by omega
          have w7 : ¬ N ≤ 23 := by omega
          have w8 : ¬ il = 22 := by omega
          have w9 : ¬ ik = 22 := by omega
          have w10 : ¬ 22 = il := by omega
          have w11 : ¬ 22 = ik := by omega
          have w12 : ¬ N = 22 := by omega
          have w13 : ¬ 22 = N := by omega
          have w14 : ¬ N ≤ 22 := by omega
          have w15 : ¬ il = 2 := by omega
          have w16 : ¬ ik = 2 := by omega
          have w17 : ¬ 2 = il := by omega
          have w18 : ¬ 2 = ik := by omega
          have w19 : ¬ N = 2 := by omega
          have w20 : ¬ 2 = N := by omega
          have w21 : ¬ N ≤ 2 := by omega
          have w22 : ¬ il = 1 := by omega
          have w23 : ¬ ik = 1 := by omega
          have w24 : ¬ 1 = il := by omega
          have w25 : ¬ 1 = ik := by omega
          have w26 : ¬ N = 1 := by omega
          have w27 : ¬ 1 = N := by omega
          have w28 : ¬ N ≤ 1 := by omega
          have w29 : ¬ il = 0 := by omega
          have w30 : ¬ ik = 0 := by omega
          have w31 : ¬ 0 = il := by omega
          have w32 : ¬ 0 = ik := by omega
          have w33 : ¬ N = 0 := by omega
          have w34 : ¬ 0 = N := by omega
          have w35 : ¬ N ≤ 0 := by omega
          have w36 : ¬ il = ik := by omega
          have w37 : ¬ ik = il := by omega
          have w38 : ¬ N = il := by omega
          have w39 : ¬ N = ik := by omega
          have w40 : ¬ N ≤ il := by omega
          have w41 : ¬ N ≤ ik := by omega
          have w42 : ik < N := by omega
          have w43 : 0 ≤ N := by omega
          have w44 : 23 < N := by omega
          have w45 : 22 < N := by omega
          have w46 : il < N := by omega
          first | refine WpB.row (by decide) (by decide) (evh ?_) | refine WpB.seq (WpB.row (by decide) (by decide) (evh ?_)) | refine WpB.seq (WpB.seq (WpB.row (by decide) (by decide) (evh ?_))) | refine WpB.seq (WpB.seq (WpB.seq (WpB.row (by decide) (by decide) (evh ?_))))
          first | refine WpB.cond (by decide) rfl (fun _ => WpB.skip ?_) (fun e => by first | (cases e; done) | exact absurd g1 (of_decide_eq_false e)) | refine WpB.seq (WpB.cond (by decide) rfl (fun _ => WpB.skip ?_) (fun e => by first | (cases e; done) | exact absurd g1 (of_decide_eq_false e))) | refine WpB.seq (WpB.seq (WpB.cond (by decide) rfl (fun _ => WpB.skip ?_) (fun e => by first | (cases e; done) | exact absurd g1 (of_decide_eq_false e)))) | refine WpB.seq (WpB.seq (WpB.seq (WpB.cond (by decide) rfl (fun _ => WpB.skip ?_) (fun e => by first | (cases e; done) | exact absurd g1 (of_decide_eq_false e)))))
          first | refine WpB.block ?_ | refine WpB.seq (WpB.block ?_) | refine WpB.seq (WpB.seq (WpB.block ?_)) | refine WpB.seq (WpB.seq (WpB.seq (WpB.block ?_)))
          first | refine WpB.row (by decide) (by decide) (evh ?_) | refine WpB.seq (WpB.row (by decide) (by decide) (evh ?_)) | refine WpB.seq (WpB.seq (WpB.row (by decide) (by decide) (evh ?_))) | refine WpB.seq (WpB.seq (WpB.seq (WpB.row (by decide) (by decide) (evh ?_))))
          first | refine WpB.row (by decide) (by decide) (evh ?_) | refine WpB.seq (WpB.row (by decide) (by decide) (evh ?_)) | refine WpB.seq (WpB.seq (WpB.row (by decide) (by decide) (evh ?_))) | refine WpB.seq (WpB.seq (WpB.seq (WpB.row (by decide) (by decide) (evh ?_))))
          first | refine WpB.row (by decide) (by decide) (evh ?_) | refine WpB.seq (WpB.row (by decide) (by decide) (evh ?_)) | refine WpB.seq (WpB.seq (WpB.row (by decide) (by decide) (evh ?_))) | refine WpB.seq (WpB.seq (WpB.seq (WpB.row (by decide) (by decide) (evh ?_))))
          first | refine WpB.cond (by decide) rfl (fun _ => ?_) (fun e => by cases e) | refine WpB.seq (WpB.cond (by decide) rfl (fun _ => ?_) (fun e => by cases e)) | refine WpB.seq (WpB.seq (WpB.cond (by decide) rfl (fun _ => ?_) (fun e => by cases e))) | refine WpB.seq (WpB.seq (WpB.seq (WpB.cond (by decide) rfl (fun _ => ?_) (fun e => by cases e))))
          first | refine WpB.drawY (by kernel_rfl) (by decide) [0, 1, 2, 3, 4, 5, 6, 7, 8, 9, 10, 11, 12, 13, 14, 15] 16 (by kernel_rfl) (by kernel_rfl) (by kernel_rfl) (by kernel_rfl) (by kernel_rfl) (by kernel_rfl) (by kernel_rfl) (by kernel_rfl) rfl (evh ?_) | refine WpB.seq (WpB.drawY (by kernel_rfl) (by decide) [0, 1, 2, 3, 4, 5, 6, 7, 8, 9, 10, 11, 12, 13, 14, 15] 16 (by kernel_rfl) (by kernel_rfl) (by kernel_rfl) (by kernel_rfl) (by kernel_rfl) (by kernel_rfl) (by kernel_rfl) (by kernel_rfl) rfl (evh ?_)) | refine WpB.seq (WpB.seq (WpB.drawY (by kernel_rfl) (by decide) [0, 1, 2, 3, 4, 5, 6, 7, 8, 9, 10, 11, 12, 13, 14, 15] 16 (by kernel_rfl) (by kernel_rfl) (by kernel_rfl) (by kernel_rfl) (by kernel_rfl) (by kernel_rfl) (by kernel_rfl) (by kernel_rfl) rfl (evh ?_))) | refine WpB.seq (WpB.seq (WpB.seq (WpB.drawY (by kernel_rfl) (by decide) [0, 1, 2, 3, 4, 5, 6, 7, 8, 9, 10, 11, 12, 13, 14, 15] 16 (by kernel_rfl) (by kernel_rfl) (by kernel_rfl) (by kernel_rfl) (by kernel_rfl) (by kernel_rfl) (by kernel_rfl) (by kernel_rfl) rfl (evh ?_))))
          refine ⟨_, _, _, _, rfl, CallB.of_gv (b := ⟨b0.w, v'⟩) hcall, ?_⟩
          rintro ⟨bw, v2⟩ u ⟨q, rfl, hbw, hkk, hR⟩
          have hbw : bw = b0.w := hbw
          subst hbw
          have hkk : Known v' v2 := hkk
          obtain ⟨E3, e3, E4, e4', rfl, m3, m4⟩ := hR
          have hs5 : (celL (f zj wi) E3 e3 E4 e4').length = 5 := rfl
          have r3 := setRange_lits ls (celL (f zj wi) E3 e3 E4 e4') (j * 5) (by rw [hs5]; omega) []
          rw [hs5, show j * 5 + 5 = (j + 1) * 5 by omega, List.append_nil, List.append_nil] at r3
          have fl5 : Fl k27 v2 (s.2.set j (f zj wi)) (ls.take (j * 5) ++ celL (f zj wi) E3 e3 E4 e4' ++ ls.drop ((j + 1) * 5)) := (HLS.out.up k27_up hkk).set hjs (Vr.K m3 m4)
          generalize ls.take (j * 5) ++ celL (f zj wi) E3 e3 E4 e4' ++ ls.drop ((j + 1) * 5) = ls' at r3 fl5
          have FL5 := Hide.mk fl5
          simp only [List.map_cons, List.map_nil, celL] at r3
          have a6 : j * 5 + 5 ≤ (List.map V.s ls).length := by rw [List.length_map]; omega
          have a8 : j * 5 + 5 ≤ s.2.length * 5 := by omega
          clear fl5 hs5
          refine evh ?_
          refine WpB.exit ?_
          first | refine WpB.row (by decide) (by decide) (evh ?_) | refine WpB.seq (WpB.row (by decide) (by decide) (evh ?_)) | refine WpB.seq (WpB.seq (WpB.row (by decide) (by decide) (evh ?_))) | refine WpB.seq (WpB.seq (WpB.seq (WpB.row (by decide) (by decide) (evh ?_))))
          refine ⟨y.f4.length - (i + 1), by omega, i + 1, v2, (s.1, s.2.set j (f zj wi)), ks, ls', rfl, hkn.trans hkk, SU.out.symm, f2, f3, f4, f6, f7, f8, f34, f35, by rw [← d7]; rfl, hlt, rfl, HKS.out.up str_up hkk, FL5.out, .inr ⟨ik, il, N, (if il ≤ L then il else L), hik, hil, hN, ?_⟩⟩
          show _ = St.mk [_, _, _, (22, .row [_, _, _, .slc il 0 (s.2.set j (f zj wi)).length _, _] _ _ _), _, _, _] _ _
          rw [List.length_set]
    · have hil : i = y.f4.length := by omega
      have g1 : ¬ ((i : Int) < (y.f4.length : Int)) := by omega
      have hbnd := mst_len f LX.out LY.out i hi (x := x) (y := y)
      rw [← hs] at hbnd
      have hlen := (HM.out i hi).len
      rw [← hs] at hlen
      have hres : mergeV f x y = objV s.2 s.1 := by
        unfold mergeV
        rw [hs, hil]
      rw [hres]
      have HBN := Hide.mk hbnd
      have HLN := Hide.mk hlen
      have HKS := Hide.mk hks
      have HLS := Hide.mk hls
      clear hbnd hlen hres hil hks hls hs
      rcases hS with ⟨pk, pl, c3', c4', N, L, hph, hN, rfl⟩ | ⟨ik, il, N, L, hik, hil, hN, rfl⟩
      · have HPH := Hide.mk hph
        clear hph
        have u1 : 2 < N := by omega
        first | refine WpB.row (by decide) (by decide) (evh ?_) | refine WpB.seq (WpB.row (by decide) (by decide) (evh ?_)) | refine WpB.seq (WpB.seq (WpB.row (by decide) (by decide) (evh ?_))) | refine WpB.seq (WpB.seq (WpB.seq (WpB.row (by decide) (by decide) (evh ?_))))
        first | refine WpB.cond (by decide) rfl (fun e => by first | (cases e; done) | exact absurd (of_decide_eq_true e) g1) (fun _ => WpB.exit ?_) | refine WpB.seq (WpB.cond (by decide) rfl (fun e => by first | (cases e; done) | exact absurd (of_decide_eq_true e) g1) (fun _ => WpB.exit ?_)) | refine WpB.seq (WpB.seq (WpB.cond (by decide) rfl (fun e => by first | (cases e; done) | exact absurd (of_decide_eq_true e) g1) (fun _ => WpB.exit ?_))) | refine WpB.seq (WpB.seq (WpB.seq (WpB.cond (by decide) rfl (fun e => by first | (cases e; done) | exact absurd (of_decide_eq_true e) g1) (fun _ => WpB.exit ?_))))
        first | refine WpB.row (by decide) (by decide) (evh ?_) | refine WpB.seq (WpB.row (by decide) (by decide) (evh ?_)) | refine WpB.seq (WpB.seq (WpB.row (by decide) (by decide) (evh ?_))) | refine WpB.seq (WpB.seq (WpB.seq (WpB.row (by decide) (by decide) (evh ?_))))
        refine WpB.forget (S2 := ⟨[(9, .row ((ks ++ pk).map V.s) 9 none .no), (18, .row ((ls ++ pl).map V.s) 27 none .no), (2, _)], _, 0⟩) (by rw [List.map_append, List.map_append]; exact find_skip (find_skip (find_both (find_both (find_both (find_skip (find_skip find_same rfl) rfl)))) rfl) rfl) rfl ?_
        refine WpB.freeze 9 (xs := ks ++ pk) (e := 9) (tl := none) (fz := .no) rfl fun b2 k cp ys fr hle hblk hcap => ?_
        have hcap : ys = [] := hcap
        subst hcap
        refine WpB.freeze 18 (xs := ls ++ pl) (e := 27) (tl := none) (fz := .no) (by simp only [gS, gH, gB, gVs_lits, find_cons, if_true, if_false, Nat.reduceEqDiff, reduceIte]) fun b3 k' cp' ys' fr' hle' hblk' hcap' => ?_
        have hcap' : ys' = [] := hcap'
        subst hcap'
        refine WpB.ret ⟨.inr rfl, evr ?_⟩
        rw [List.append_nil] at hblk hblk'
        have hb := HBN.out
        have hB := HB.out
        have hlx := LX.out
        have hly := LY.out
        have f3 := (HLS.out.up k27_up (hle.trans hle').v).rows hblk' (by omega)
        have f4 := C_up str_up hle'.v ((HKS.out.up str_up hle.v).rows hblk (by omega))
        refine ⟨some ⟨k', 0, none⟩, c3', some ⟨k, 0, none⟩, c4', ?_, ⟨f3, ?_⟩, ⟨f4, ?_⟩⟩
        · rfl
        · show s.2.length ≤ c3'
          rcases HPH.out with ⟨_, _, _, h⟩ | ⟨_, _, _, h⟩ <;> omega
        · show s.1.length ≤ c4'
          rcases HPH.out with ⟨_, _, h, _⟩ | ⟨_, _, h, _⟩ <;> omega
      · have w2 : ¬ il = 2 := by omega
        have w3 : ¬ ik = 2 := by omega
        have w4 : ¬ il = 22 := by omega
        have w5 : ¬ ik = 22 := by omega
        have w6 : ¬ il = ik := by omega
        have w7 : ¬ ik = il := by omega
        have v1 : ¬ 2 = il := by omega
        have v2 : ¬ 2 = ik := by omega
        have v3 : 2 < N := by omega
        first | refine WpB.row (by decide) (by decide) (evh ?_) | refine WpB.seq (WpB.row (by decide) (by decide) (evh ?_)) | refine WpB.seq (WpB.seq (WpB.row (by decide) (by decide) (evh ?_))) | refine WpB.seq (WpB.seq (WpB.seq (WpB.row (by decide) (by decide) (evh ?_))))
        first | refine WpB.cond (by decide) rfl (fun e => by first | (cases e; done) | exact absurd (of_decide_eq_true e) g1) (fun _ => WpB.exit ?_) | refine WpB.seq (WpB.cond (by decide) rfl (fun e => by first | (cases e; done) | exact absurd (of_decide_eq_true e) g1) (fun _ => WpB.exit ?_)) | refine WpB.seq (WpB.seq (WpB.cond (by decide) rfl (fun e => by first | (cases e; done) | exact absurd (of_decide_eq_true e) g1) (fun _ => WpB.exit ?_))) | refine WpB.seq (WpB.seq (WpB.seq (WpB.cond (by decide) rfl (fun e => by first | (cases e; done) | exact absurd (of_decide_eq_true e) g1) (fun _ => WpB.exit ?_))))
        first | refine WpB.row (by decide) (by decide) (evh ?_) | refine WpB.seq (WpB.row (by decide) (by decide) (evh ?_)) | refine WpB.seq (WpB.seq (WpB.row (by decide) (by decide) (evh ?_))) | refine WpB.seq (WpB.seq (WpB.seq (WpB.row (by decide) (by decide) (evh ?_))))
        refine WpB.forget (S2 := ⟨[(il, .row (ls.map V.s) 27 (some 5) .no), (ik, .row (ks.map V.s) 9 (some 1) .no), (2, _)], _, 0⟩) (find_both (find_both (find_skip (find_skip (find_both (find_skip (find_skip find_same rfl) rfl)) rfl) rfl))) rfl ?_
        refine WpB.freeze ik (xs := ks) (e := 9) (tl := some 1) (fz := .no) (by rw [find_cons, if_neg w6, find_cons, if_pos rfl]) fun b2 k cp ys fr hle hblk hcap => ?_
        refine WpB.freeze il (xs := ls) (e := 27) (tl := some 5) (fz := .no) (by simp only [gS, gH, gB, gVs_lits, find_cons, w6, w7, v1, v2, if_true, if_false, Nat.reduceEqDiff, reduceIte]) fun b3 k' cp' ys' fr' hle' hblk' hcap' => ?_
        refine WpB.ret ⟨.inr rfl, evr ?_⟩
        have hcap : ks.length + ys.length = cp * 1 := hcap
        have hcap' : ls.length + ys'.length = cp' * 5 := hcap'
        have hb := HBN.out
        have hB := HB.out
        have hlx := LX.out
        have hly := LY.out
        have s3 : ls.length = s.2.length * 5 := HLS.out.1
        have s4 : ks.length = s.1.length * 1 := HKS.out.1
        have f3 := (HLS.out.up k27_up (hle.trans hle').v).rows hblk' (by omega)
        have f4 := C_up str_up hle'.v ((HKS.out.up str_up hle.v).rows hblk (by omega))
        refine ⟨some ⟨k', 0, none⟩, cp', some ⟨k, 0, none⟩, cp, ?_, ⟨f3, ?_⟩, ⟨f4, ?_⟩⟩
        · rfl
        · show s.2.length ≤ cp'
          omega
        · show s.1.length ≤ cp
          omega
end Go.Proofs.YtmpmbnmldmpmiaaGreatDoor.Sim
set_option linter.unusedVariables false
set_option linter.unusedSimpArgs false
namespace Go.Proofs.YtmpmbnmldmpmiaaGreatDoor.Sim
open Go Go.RowKit Go.Lib Go.Proofs.YtmpmbnmldmpmiaaGreatDoor.A Go.Proofs.YtmpmbnmldmpmiaaGreatDoorW.PrintWords Go.Proofs.YtmpmbnmldmpmiaaGreatDoorW.PrintLast Go.Proofs.YtmpmbnmldmpmiaaGreatDoorW.PrintMore
section
variable {f : S27 → S27 → S27} {x y : S27} (hx : x.f4.length = x.f3.length) (nx : (x.f4.map kd_).Nodup) (hy : y.f4.length = y.f3.length) (ny : (y.f4.map kd_).Nodup)
include hx nx hy ny
theorem merge_inv : (mergeV f x y).f4.length = (mergeV f x y).f3.length ∧ ((mergeV f x y).f4.map kd_).Nodup := by
  have h := minv (f := f) hx nx hy ny _ (Nat.le_refl _)
  exact ⟨h.len, h.nd⟩
theorem merge_els : ∀ z ∈ (mergeV f x y).f3, z ∈ x.f3 ∨ z ∈ y.f3 ∨ ∃ a ∈ x.f3, ∃ b ∈ y.f3, z = f a b := (minv (f := f) hx nx hy ny _ (Nat.le_refl _)).els
theorem merge_keys : ∀ k ∈ (mergeV f x y).f4, k ∈ x.f4 ∨ k ∈ y.f4 := by
  obtain ⟨new, h1, h2⟩ := (minv (f := f) hx nx hy ny _ (Nat.le_refl _)).pre
  intro k hk
  have hk : k ∈ (mst f x y y.f4.length).1 := hk
  rw [h1] at hk
  rcases List.mem_append.1 hk with hk | hk
  · exact .inl hk
  · exact .inr (List.mem_of_mem_take (h2 k hk))
theorem merge_get {i : Nat} {k : ByteArray} {v : S27} (hk : y.f4[i]? = some k) (hv : y.f3[i]? = some v) : ∃ j : Nat, (mergeV f x y).f4[j]? = some k ∧ (mergeV f x y).f3[j]? = some (mval f x k v) :=
  (minv (f := f) hx nx hy ny _ (Nat.le_refl _)).got i k v (List.getElem?_eq_some_iff.1 hk).1 hk hv
theorem merge_old {j : Nat} {k : ByteArray} (hk : x.f4[j]? = some k) : (mergeV f x y).f4[j]? = some k ∧ (k ∉ y.f4 → (mergeV f x y).f3[j]? = x.f3[j]?) := by
  have h := minv (f := f) hx nx hy ny _ (Nat.le_refl _)
  obtain ⟨new, h1, h2⟩ := h.pre
  refine ⟨?_, fun hn => h.old j k hk (by rw [List.take_length]; exact hn)⟩
  show (mst f x y y.f4.length).1[j]? = some k
  rw [h1, List.getElem?_append_left (List.getElem?_eq_some_iff.1 hk).1, hk]
/-- Merging the same once more. -/
theorem merge_again (h1 : ∀ a ∈ x.f3, ∀ b ∈ y.f3, f (f a b) b = f a b) (h2 : ∀ b ∈ y.f3, f b b = b) : mergeV f (mergeV f x y) y = mergeV f x y := by
  have hm := merge_inv (f := f) hx nx hy ny
  have key : ∀ i, i ≤ y.f4.length → mst f (mergeV f x y) y i = ((mergeV f x y).f4, (mergeV f x y).f3) := by
    intro i
    induction i with
    | zero => intro _; rfl
    | succ i ih =>
      intro hi
      have h4 : i < y.f4.length := hi
      have h3 : i < y.f3.length := by omega
      rw [mst_succ f h4 h3, ih (by omega)]
      obtain ⟨j, g1, g2⟩ := merge_get hx nx hy ny (f := f) (List.getElem?_eq_getElem h4) (List.getElem?_eq_getElem h3)
      have hp := posL_some hm.2 g1
      unfold mstep
      simp only
      rw [hp, if_neg (by omega), Int.toNat_natCast, g2]
      have he : f ((some (mval f x y.f4[i] y.f3[i])).getD z27) y.f3[i] = mval f x y.f4[i] y.f3[i] := by
        show f (mval f x y.f4[i] y.f3[i]) y.f3[i] = _
        unfold mval
        rcases posL_cases y.f4[i] x.f4 0 with ⟨p1, p2⟩ | ⟨t, p1, p2, p3, p4⟩
        · rw [p1, if_pos (by omega)]
          exact h2 _ (List.getElem_mem h3)
        · rw [p1, if_neg (by omega), Nat.zero_add, Int.toNat_natCast, List.getElem?_eq_getElem (show t < x.f3.length by omega)]
          exact h1 _ (List.getElem_mem _) _ (List.getElem_mem h3)
      rw [he]
      congr 1
      obtain ⟨q1, q2⟩ := List.getElem?_eq_some_iff.1 g2
      rw [← q2]
      exact List.set_getElem_self q1
  show objV (mst f (mergeV f x y) y y.f4.length).2 (mst f (mergeV f x y) y y.f4.length).1 = _
  rw [key _ (Nat.le_refl _)]
  rfl
end
/-- Merging a thing with itself. -/
theorem merge_self {f : S27 → S27 → S27} {y : S27} (hy : y.f4.length = y.f3.length) (ny : (y.f4.map kd_).Nodup) (h2 : ∀ b ∈ y.f3, f b b = b) : mergeV f y y = objV y.f3 y.f4 := by
  have key : ∀ i, i ≤ y.f4.length → mst f y y i = (y.f4, y.f3) := by
    intro i
    induction i with
    | zero => intro _; rfl
    | succ i ih =>
      intro hi
      have h4 : i < y.f4.length := hi
      have h3 : i < y.f3.length := by omega
      rw [mst_succ f h4 h3, ih (by omega)]
      have hp := posL_some ny (List.getElem?_eq_getElem h4)
      unfold mstep
      simp only
      rw [hp, if_neg (by omega), Int.toNat_natCast, List.getElem?_eq_getElem h3]
      show (y.f4, y.f3.set i (f y.f3[i] y.f3[i])) = _
      rw [h2 _ (List.getElem_mem h3), List.set_getElem_self h3]
  unfold mergeV
  rw [key _ (Nat.le_refl _)]
theorem obj_eta {x : S27} {d : Nat} (h : rightV (d + 1) x = true) (h6 : x.f0 = 6) : objV x.f3 x.f4 = x := by
  have hf := rightV_open h
  obtain ⟨f0, f1, f2, f3, f4⟩ := x
  have e1 : f1 = 0 := hf.num (by show f0 ≠ 3; have : f0 = 6 := h6; omega)
  have e2 : f2 = ⟨#[]⟩ := toList_inj (by rw [show f2.toList = [] from hf.str (by show f0 ≠ 4; have : f0 = 6 := h6; omega), ByteArray.toList_eq])
  have e0 : f0 = 6 := h6
  subst e0 e1 e2
  rfl
theorem deep_self : ∀ (n : Nat) (y : S27), rightV n y = true → deepV n y y = y
  | 0, y, _ => rfl
  | n + 1, y, h => by
    have hf := rightV_open h
    unfold deepV
    by_cases h6 : y.f0 = 6
    · rw [if_pos ⟨h6, h6⟩, merge_self (hf.keys h6) hf.apart fun b hb => deep_self n b (hf.kids b hb)]
      exact obj_eta h h6
    · rw [if_neg fun h => h6 h.1]
theorem deep_again : ∀ (n : Nat) (x y : S27), rightV n x = true → rightV n y = true → deepV n (deepV n x y) y = deepV n x y
  | 0, x, y, _, _ => rfl
  | n + 1, x, y, hx, hy => by
    have fx := rightV_open hx
    have fy := rightV_open hy
    by_cases h6 : x.f0 = 6 ∧ y.f0 = 6
    · have e1 : deepV (n + 1) x y = mergeV (deepV n) x y := by rw [deepV, if_pos h6]
      rw [e1]
      have h0 : (mergeV (deepV n) x y).f0 = 6 := rfl
      rw [deepV, if_pos ⟨h0, h6.2⟩]
      exact merge_again (fx.keys h6.1) fx.apart (fy.keys h6.2) fy.apart (fun a ha b hb => deep_again n a b (fx.kids a ha) (fy.kids b hb)) fun b hb => deep_self n b (fy.kids b hb)
    · have e1 : deepV (n + 1) x y = y := by rw [deepV, if_neg h6]
      rw [e1]
      exact deep_self (n + 1) y hy
theorem rightV_apart {d : Nat} {x : S27} (h : rightV (d + 1) x = true) : apartB [] x.f4 = true := by
  rw [rightV] at h
  split at h
  · cases h
  split at h
  · cases h
  split at h
  · cases h
  split at h
  · cases h
  by_cases h5 : (if x.f0 = 6 then x.f4.length = x.f3.length else x.f4.length = 0)
  rotate_left
  · rw [if_neg h5] at h; cases h
  rw [if_pos h5] at h
  by_cases h6 : validD (kd_ x.f2) = true
  rotate_left
  · rw [if_neg h6] at h; cases h
  rw [if_pos h6] at h
  by_cases h7 : apartB [] x.f4 = true
  rotate_left
  · rw [if_neg h7] at h; cases h
  exact h7
theorem obj_right {d : Nat} {l : List S27} {ks : List ByteArray} (hl : ks.length = l.length) (ha : apartB [] ks = true) (hk : ∀ y ∈ l, rightV d y = true) : rightV (d + 1) (objV l ks) = true := by
  rw [rightV]
  have hv : validD (kd_ (⟨#[]⟩ : ByteArray)) = true := by rw [← kd_eq, ByteArray.toList_eq]; rfl
  have e2 : (⟨#[]⟩ : ByteArray).toList = [] := by rw [ByteArray.toList_eq]
  simp only [objV, e2]
  simp [hl, hv, ha]
  exact hk
theorem merge_right {n : Nat} {f : S27 → S27 → S27} {x y : S27} (hx : rightV (n + 1) x = true) (hy : rightV (n + 1) y = true) (x6 : x.f0 = 6) (y6 : y.f0 = 6) (hf : ∀ a ∈ x.f3, ∀ b ∈ y.f3, rightV n (f a b) = true) : rightV (n + 1) (mergeV f x y) = true := by
  have fx := rightV_open hx
  have fy := rightV_open hy
  obtain ⟨i1, i2⟩ := merge_inv (f := f) (fx.keys x6) fx.apart (fy.keys y6) fy.apart
  have ax := (apartB_iff _ _).1 (rightV_apart hx)
  have ay := (apartB_iff _ _).1 (rightV_apart hy)
  refine obj_right i1 ((apartB_iff _ _).2 ⟨fun k hk => ?_, i2, fun k _ => by simp⟩) fun z hz => ?_
  · rcases merge_keys (fx.keys x6) fx.apart (fy.keys y6) fy.apart k hk with h | h
    · exact ax.1 k h
    · exact ay.1 k h
  · rcases merge_els (fx.keys x6) fx.apart (fy.keys y6) fy.apart z hz with h | h | ⟨a, ha, b, hb, rfl⟩
    · exact fx.kids z h
    · exact fy.kids z h
    · exact hf a ha b hb
theorem deep_right : ∀ (n : Nat) (x y : S27), rightV n x = true → rightV n y = true → rightV n (deepV n x y) = true
  | 0, x, y, hx, _ => by simp [rightV] at hx
  | n + 1, x, y, hx, hy => by
    have fx := rightV_open hx
    have fy := rightV_open hy
    rw [deepV]
    split
    · rename_i h6
      exact merge_right hx hy h6.1 h6.2 fun a ha b hb => deep_right n a b (fx.kids a ha) (fy.kids b hb)
    · exact hy
end Go.Proofs.YtmpmbnmldmpmiaaGreatDoor.Sim
set_option linter.unusedVariables false
set_option linter.unusedSimpArgs false
set_option maxRecDepth 100000
namespace Go.Proofs.YtmpmbnmldmpmiaaGreatDoor.Sim
open Go Go.RowKit Go.Lib Go.Proofs.YtmpmbnmldmpmiaaGreatDoor.A Go.Proofs.YtmpmbnmldmpmiaaGreatDoorW.PrintWords Go.Proofs.YtmpmbnmldmpmiaaGreatDoorW.PrintLast Go.Proofs.YtmpmbnmldmpmiaaGreatDoorW.PrintMore
/-- All rows under a value are so long at most. -/
inductive GS (B : Nat) : S27 → Prop where
  | mk (x : S27) : x.f2.size ≤ 140737488351232 → x.f3.length ≤ B → x.f4.length ≤ B → (∀ k ∈ x.f4, k.size ≤ 140737488351232) → (∀ y ∈ x.f3, GS B y) → GS B x
theorem GS.g {B : Nat} (hB : B ≤ 1759218604390) {x : S27} (h : GS B x) : G27 x := by
  induction h with
  | mk x h2 h3 h4 h5 h6 ih => exact .mk x h2 (by omega) (by omega) h5 ih
theorem GS.le {B C : Nat} (hB : B ≤ C) {x : S27} (h : GS B x) : GS C x := by
  induction h with
  | mk x h2 h3 h4 h5 h6 ih => exact .mk x h2 (by omega) (by omega) h5 ih
theorem GS.len {B : Nat} {x : S27} (h : GS B x) : x.f3.length ≤ B ∧ x.f4.length ≤ B := by
  cases h; exact ⟨by assumption, by assumption⟩
theorem GS.kids {B : Nat} {x : S27} (h : GS B x) : ∀ y ∈ x.f3, GS B y := by
  cases h; assumption
theorem GS.keys {B : Nat} {x : S27} (h : GS B x) : ∀ k ∈ x.f4, k.size ≤ 140737488351232 := by
  cases h; assumption
theorem GS.merge {B C : Nat} {f : S27 → S27 → S27} {x y : S27} (hx : x.f4.length = x.f3.length) (nx : (x.f4.map kd_).Nodup) (hy : y.f4.length = y.f3.length) (ny : (y.f4.map kd_).Nodup) (gx : GS B x) (gy : GS C y) (hf : ∀ a ∈ x.f3, ∀ b ∈ y.f3, GS (B + C) (f a b)) : GS (B + C) (mergeV f x y) := by
  have hl := mst_len f hx hy _ (Nat.le_refl _)
  have h1 := gx.len
  have h2 := gy.len
  refine .mk _ (by show (⟨#[]⟩ : ByteArray).size ≤ _; decide) (by show (mst f x y y.f4.length).2.length ≤ _; omega) (by show (mst f x y y.f4.length).1.length ≤ _; omega) (fun k hk => ?_) (fun z hz => ?_)
  · rcases merge_keys hx nx hy ny k hk with h | h
    · exact gx.keys k h
    · exact gy.keys k h
  · rcases merge_els hx nx hy ny z hz with h | h | ⟨a, ha, b, hb, rfl⟩
    · exact (gx.kids z h).le (Nat.le_add_right _ _)
    · exact (gy.kids z h).le (Nat.le_add_left _ _)
    · exact hf a ha b hb
theorem GS.deep {B C : Nat} : ∀ (n : Nat) (x y : S27), GS B x → GS C y → rightV n x = true → rightV n y = true → GS (B + C) (deepV n x y)
  | 0, x, y, _, gy, _, _ => gy.le (Nat.le_add_left _ _)
  | n + 1, x, y, gx, gy, hx, hy => by
    have fx := rightV_open hx
    have fy := rightV_open hy
    rw [deepV]
    split
    · rename_i h6
      exact GS.merge (fx.keys h6.1) fx.apart (fy.keys h6.2) fy.apart gx gy fun a ha b hb => GS.deep n a b (gx.kids a ha) (gy.kids b hb) (fx.kids a ha) (fy.kids b hb)
    · exact gy.le (Nat.le_add_left _ _)
set_option maxHeartbeats 1000000 in
theorem deep_gv {B C : Nat} (hB : B + C ≤ 1759218604390) : ∀ (n : Nat) (x y : S27), GS B x → GS C y → rightV n x = true → rightV n y = true → ∀ (v : World) (ux uy : Value), Vr v x ux → Vr v y uy → Gv Tryz.prog 97 [ux, uy] v fun u v' => Vr v' (deepV n x y) u := by
  intro n
  induction n with
  | zero => intro x y _ _ hx; simp [rightV] at hx
  | succ n ih =>
  intro x y gx gy hx hy v ux uy vx vy
  have fx := rightV_open hx
  have fy := rightV_open hy
  have hm := fun (h6 : x.f0 = 6 ∧ y.f0 = 6) => merged_gv (f := deepV n) vx vy (fx.keys h6.1) fx.apart (fy.keys h6.2) fy.apart (by have := gx.len; have := gy.len; omega) (fun z hz w hw v' uz uw => ih z w (gx.kids z hz) (gy.kids w hw) (fx.kids z hz) (fy.kids w hw) v' uz uw)
  clear fx fy hx hy gx gy ih
  obtain ⟨A3, c3, A4, c4, rfl, h3, h4⟩ := vx
  obtain ⟨B3, d3, B4, d4, rfl, k3, k4⟩ := vy
  refine Gv.run Tryz.func97 (by kernel_rfl) rfl rfl rfl rfl fun b hb => ?_
  subst hb
  by_cases h6 : x.f0 = 6
  · have q1 : (x.f0 == 6) = true := by simpa using h6
    by_cases h7 : y.f0 = 6
    · have q2 : (y.f0 == 6) = true := by simpa using h7
      have hm := hm ⟨h6, h7⟩
      rw [deepV, if_pos ⟨h6, h7⟩]
      clear h6 h7
      first | refine WpB.row (by decide) (by decide) (ev ?_) | refine WpB.seq (WpB.row (by decide) (by decide) (ev ?_)) | refine WpB.seq (WpB.seq (WpB.row (by decide) (by decide) (ev ?_))) | refine WpB.seq (WpB.seq (WpB.seq (WpB.row (by decide) (by decide) (ev ?_))))
      first | refine WpB.row (by decide) (by decide) (evh ?_) | refine WpB.seq (WpB.row (by decide) (by decide) (evh ?_)) | refine WpB.seq (WpB.seq (WpB.row (by decide) (by decide) (evh ?_))) | refine WpB.seq (WpB.seq (WpB.seq (WpB.row (by decide) (by decide) (evh ?_))))
      first | refine WpB.cond (by decide) rfl (fun _ => ?_) (fun e => by cases e) | refine WpB.seq (WpB.cond (by decide) rfl (fun _ => ?_) (fun e => by cases e)) | refine WpB.seq (WpB.seq (WpB.cond (by decide) rfl (fun _ => ?_) (fun e => by cases e))) | refine WpB.seq (WpB.seq (WpB.seq (WpB.cond (by decide) rfl (fun _ => ?_) (fun e => by cases e))))
      first | refine WpB.row (by decide) (by decide) (evh ?_) | refine WpB.seq (WpB.row (by decide) (by decide) (evh ?_)) | refine WpB.seq (WpB.seq (WpB.row (by decide) (by decide) (evh ?_))) | refine WpB.seq (WpB.seq (WpB.seq (WpB.row (by decide) (by decide) (evh ?_))))
      refine SeqB.callV (by decide) (hm) (by decide) rfl rfl rfl rfl ?_
      rintro u v2 hu hk2
      obtain ⟨E3, e3, E4, e4, rfl, m3, m4⟩ := hu
      refine evh ?_
      refine WpB.ret ⟨.inr rfl, evr ?_⟩
      exact ⟨_, _, _, _, rfl, m3, m4⟩
    · have q2 : (y.f0 == 6) = false := by simpa using h7
      rw [deepV, if_neg fun h => h7 h.2]
      clear h6 h7 hm
      first | refine WpB.row (by decide) (by decide) (ev ?_) | refine WpB.seq (WpB.row (by decide) (by decide) (ev ?_)) | refine WpB.seq (WpB.seq (WpB.row (by decide) (by decide) (ev ?_))) | refine WpB.seq (WpB.seq (WpB.seq (WpB.row (by decide) (by decide) (ev ?_))))
      first | refine WpB.row (by decide) (by decide) (evh ?_) | refine WpB.seq (WpB.row (by decide) (by decide) (evh ?_)) | refine WpB.seq (WpB.seq (WpB.row (by decide) (by decide) (evh ?_))) | refine WpB.seq (WpB.seq (WpB.seq (WpB.row (by decide) (by decide) (evh ?_))))
      first | refine WpB.cond (by decide) rfl (fun e => by cases e) (fun _ => WpB.skip ?_) | refine WpB.seq (WpB.cond (by decide) rfl (fun e => by cases e) (fun _ => WpB.skip ?_)) | refine WpB.seq (WpB.seq (WpB.cond (by decide) rfl (fun e => by cases e) (fun _ => WpB.skip ?_))) | refine WpB.seq (WpB.seq (WpB.seq (WpB.cond (by decide) rfl (fun e => by cases e) (fun _ => WpB.skip ?_))))
      first | refine WpB.row (by decide) (by decide) (evh ?_) | refine WpB.seq (WpB.row (by decide) (by decide) (evh ?_)) | refine WpB.seq (WpB.seq (WpB.row (by decide) (by decide) (evh ?_))) | refine WpB.seq (WpB.seq (WpB.seq (WpB.row (by decide) (by decide) (evh ?_))))
      refine WpB.ret ⟨.inr rfl, evr ?_⟩
      exact ⟨_, _, _, _, rfl, k3, k4⟩
  · have q1 : (x.f0 == 6) = false := by simpa using h6
    rw [deepV, if_neg fun h => h6 h.1]
    clear h6 hm
    first | refine WpB.row (by decide) (by decide) (ev ?_) | refine WpB.seq (WpB.row (by decide) (by decide) (ev ?_)) | refine WpB.seq (WpB.seq (WpB.row (by decide) (by decide) (ev ?_))) | refine WpB.seq (WpB.seq (WpB.seq (WpB.row (by decide) (by decide) (ev ?_))))
    first | refine WpB.row (by decide) (by decide) (evh ?_) | refine WpB.seq (WpB.row (by decide) (by decide) (evh ?_)) | refine WpB.seq (WpB.seq (WpB.row (by decide) (by decide) (evh ?_))) | refine WpB.seq (WpB.seq (WpB.seq (WpB.row (by decide) (by decide) (evh ?_))))
    first | refine WpB.cond (by decide) rfl (fun e => by cases e) (fun _ => WpB.skip ?_) | refine WpB.seq (WpB.cond (by decide) rfl (fun e => by cases e) (fun _ => WpB.skip ?_)) | refine WpB.seq (WpB.seq (WpB.cond (by decide) rfl (fun e => by cases e) (fun _ => WpB.skip ?_))) | refine WpB.seq (WpB.seq (WpB.seq (WpB.cond (by decide) rfl (fun e => by cases e) (fun _ => WpB.skip ?_))))
    first | refine WpB.row (by decide) (by decide) (evh ?_) | refine WpB.seq (WpB.row (by decide) (by decide) (evh ?_)) | refine WpB.seq (WpB.seq (WpB.row (by decide) (by decide) (evh ?_))) | refine WpB.seq (WpB.seq (WpB.seq (WpB.row (by decide) (by decide) (evh ?_))))
    refine WpB.ret ⟨.inr rfl, evr ?_⟩
    exact ⟨_, _, _, _, rfl, k3, k4⟩
end Go.Proofs.YtmpmbnmldmpmiaaGreatDoor.Sim
set_option linter.unusedVariables false
set_option linter.unusedSimpArgs false
set_option maxRecDepth 100000
namespace Go.Proofs.YtmpmbnmldmpmiaaGreatDoor.Sim
open Go Go.RowKit Go.Lib Go.Proofs.YtmpmbnmldmpmiaaGreatDoor.A Go.Proofs.YtmpmbnmldmpmiaaGreatDoorW.PrintWords Go.Proofs.YtmpmbnmldmpmiaaGreatDoorW.PrintLast Go.Proofs.YtmpmbnmldmpmiaaGreatDoorW.PrintMore
def zvV : Value := .agg #[.int .i64 0, .float .f64 0, .string (⟨#[]⟩ : ByteArray), .slice none 0 0, .slice none 0 0]
def noErr : Value := .agg #[.bool false, .int .i64 0, .float .f64 0, .string (⟨#[]⟩ : ByteArray), .slice none 0 0, .slice none 0 0]
def strErr (s : ByteArray) : Value := .agg #[.bool true, .int .i64 4, .float .f64 0, .string s, .slice none 0 0, .slice none 0 0]
set_option maxHeartbeats 1000000 in
theorem fail_gv (v : World) (s : ByteArray) : Gv Tryz.prog 55 [.string s] v fun u v' => u = .tuple #[zvV, strErr s] := by
  refine Gv.run Tryz.func55 (by kernel_rfl) rfl rfl rfl rfl fun b hb => ?_
  subst hb
  first | refine WpB.row (by decide) (by decide) (ev ?_) | refine WpB.seq (WpB.row (by decide) (by decide) (ev ?_)) | refine WpB.seq (WpB.seq (WpB.row (by decide) (by decide) (ev ?_))) | refine WpB.seq (WpB.seq (WpB.seq (WpB.row (by decide) (by decide) (ev ?_))))
  first | refine WpB.row (by decide) (by decide) (evh ?_) | refine WpB.seq (WpB.row (by decide) (by decide) (evh ?_)) | refine WpB.seq (WpB.seq (WpB.row (by decide) (by decide) (evh ?_))) | refine WpB.seq (WpB.seq (WpB.seq (WpB.row (by decide) (by decide) (evh ?_))))
  refine WpB.ret ⟨.inr rfl, evr ?_⟩
  rfl
set_option maxHeartbeats 1000000 in
theorem both_gv (v : World) (x y : S27) (A3 : Option Addr) (c3 : Nat) (A4 : Option Addr) (c4 : Nat) (B3 : Option Addr) (d3 : Nat) (B4 : Option Addr) (d4 : Nat) (k : Int) {r : Bool} (hr : r = ((x.f0 == k) && (y.f0 == k))) :
    Gv Tryz.prog 90 [.agg #[.int .i64 x.f0, .float .f64 x.f1, .string x.f2, .slice A3 x.f3.length c3, .slice A4 x.f4.length c4, .int .i64 y.f0, .float .f64 y.f1, .string y.f2, .slice B3 y.f3.length d3, .slice B4 y.f4.length d4], .int .i64 k] v fun u v' => u = .bool r := by
  subst hr
  refine Gv.run Tryz.func90 (by kernel_rfl) rfl rfl rfl rfl fun b hb => ?_
  subst hb
  cases h : (x.f0 == k) with
  | true =>
    first | refine WpB.row (by decide) (by decide) (ev ?_) | refine WpB.seq (WpB.row (by decide) (by decide) (ev ?_)) | refine WpB.seq (WpB.seq (WpB.row (by decide) (by decide) (ev ?_))) | refine WpB.seq (WpB.seq (WpB.seq (WpB.row (by decide) (by decide) (ev ?_))))
    first | refine WpB.row (by decide) (by decide) (evh ?_) | refine WpB.seq (WpB.row (by decide) (by decide) (evh ?_)) | refine WpB.seq (WpB.seq (WpB.row (by decide) (by decide) (evh ?_))) | refine WpB.seq (WpB.seq (WpB.seq (WpB.row (by decide) (by decide) (evh ?_))))
    refine WpB.ret ⟨.inr rfl, evr ?_⟩
    simp
  | false =>
    first | refine WpB.row (by decide) (by decide) (ev ?_) | refine WpB.seq (WpB.row (by decide) (by decide) (ev ?_)) | refine WpB.seq (WpB.seq (WpB.row (by decide) (by decide) (ev ?_))) | refine WpB.seq (WpB.seq (WpB.seq (WpB.row (by decide) (by decide) (ev ?_))))
    first | refine WpB.row (by decide) (by decide) (evh ?_) | refine WpB.seq (WpB.row (by decide) (by decide) (evh ?_)) | refine WpB.seq (WpB.seq (WpB.row (by decide) (by decide) (evh ?_))) | refine WpB.seq (WpB.seq (WpB.seq (WpB.row (by decide) (by decide) (evh ?_))))
    refine WpB.ret ⟨.inr rfl, evr ?_⟩
    simp
def tooBig : ByteArray := (⟨#[118, 97, 108, 117, 101, 32, 105, 115, 32, 116, 111, 111, 32, 108, 97, 114, 103, 101]⟩ : ByteArray)
set_option maxHeartbeats 1000000 in
theorem kept_gv {v : World} {x : S27} {u : Value} (h : Vr v x u) {q : Bool} (hq : Gv Tryz.prog 18 [u] v fun u' _ => u' = .bool q) : Gv Tryz.prog 92 [u] v fun u' _ => u' = if q = true then .tuple #[zvV, strErr tooBig] else .tuple #[u, noErr] := by
  obtain ⟨A3, c3, A4, c4, rfl, h3, h4⟩ := h
  refine Gv.run Tryz.func92 (by kernel_rfl) rfl rfl rfl rfl fun b hb => ?_
  subst hb
  cases q with
  | true =>
    first | refine WpB.row (by decide) (by decide) (ev ?_) | refine WpB.seq (WpB.row (by decide) (by decide) (ev ?_)) | refine WpB.seq (WpB.seq (WpB.row (by decide) (by decide) (ev ?_))) | refine WpB.seq (WpB.seq (WpB.seq (WpB.row (by decide) (by decide) (ev ?_))))
    first | refine WpB.row (by decide) (by decide) (evh ?_) | refine WpB.seq (WpB.row (by decide) (by decide) (evh ?_)) | refine WpB.seq (WpB.seq (WpB.row (by decide) (by decide) (evh ?_))) | refine WpB.seq (WpB.seq (WpB.seq (WpB.row (by decide) (by decide) (evh ?_))))
    refine SeqB.callQ (by decide) (hq.okx _) (by decide) rfl rfl rfl rfl ?_
    rintro u S' ⟨rfl, rfl⟩ _
    refine evh ?_
    first | refine WpB.cond (by decide) rfl (fun _ => ?_) (fun e => by cases e) | refine WpB.seq (WpB.cond (by decide) rfl (fun _ => ?_) (fun e => by cases e)) | refine WpB.seq (WpB.seq (WpB.cond (by decide) rfl (fun _ => ?_) (fun e => by cases e))) | refine WpB.seq (WpB.seq (WpB.seq (WpB.cond (by decide) rfl (fun _ => ?_) (fun e => by cases e))))
    first | refine WpB.row (by decide) (by decide) (evh ?_) | refine WpB.seq (WpB.row (by decide) (by decide) (evh ?_)) | refine WpB.seq (WpB.seq (WpB.row (by decide) (by decide) (evh ?_))) | refine WpB.seq (WpB.seq (WpB.seq (WpB.row (by decide) (by decide) (evh ?_))))
    refine SeqB.callQ (by decide) ((fail_gv _ _).okx _) (by decide) rfl rfl rfl rfl ?_
    rintro u S' ⟨rfl, rfl⟩ _
    unfold zvV strErr
    refine evh ?_
    refine WpB.ret ⟨.inr rfl, evr ?_⟩
    rfl
  | false =>
    first | refine WpB.row (by decide) (by decide) (ev ?_) | refine WpB.seq (WpB.row (by decide) (by decide) (ev ?_)) | refine WpB.seq (WpB.seq (WpB.row (by decide) (by decide) (ev ?_))) | refine WpB.seq (WpB.seq (WpB.seq (WpB.row (by decide) (by decide) (ev ?_))))
    first | refine WpB.row (by decide) (by decide) (evh ?_) | refine WpB.seq (WpB.row (by decide) (by decide) (evh ?_)) | refine WpB.seq (WpB.seq (WpB.row (by decide) (by decide) (evh ?_))) | refine WpB.seq (WpB.seq (WpB.seq (WpB.row (by decide) (by decide) (evh ?_))))
    refine SeqB.callQ (by decide) (hq.okx _) (by decide) rfl rfl rfl rfl ?_
    rintro u S' ⟨rfl, rfl⟩ _
    refine evh ?_
    first | refine WpB.cond (by decide) rfl (fun e => by cases e) (fun _ => WpB.skip ?_) | refine WpB.seq (WpB.cond (by decide) rfl (fun e => by cases e) (fun _ => WpB.skip ?_)) | refine WpB.seq (WpB.seq (WpB.cond (by decide) rfl (fun e => by cases e) (fun _ => WpB.skip ?_))) | refine WpB.seq (WpB.seq (WpB.seq (WpB.cond (by decide) rfl (fun e => by cases e) (fun _ => WpB.skip ?_))))
    first | refine WpB.row (by decide) (by decide) (evh ?_) | refine WpB.seq (WpB.row (by decide) (by decide) (evh ?_)) | refine WpB.seq (WpB.seq (WpB.row (by decide) (by decide) (evh ?_))) | refine WpB.seq (WpB.seq (WpB.seq (WpB.row (by decide) (by decide) (evh ?_))))
    refine WpB.ret ⟨.inr rfl, evr ?_⟩
    rfl
theorem large_gv {x : S27} (hg : G27 x) : ∃ q : Bool, ∀ (v : World) (u : Value), Vr v x u → Gv Tryz.prog 18 [u] v fun u' _ => u' = .bool q := by
  obtain ⟨q, ⟨k, hk⟩, _⟩ := large_ev hg
  have hk := hk k (Nat.le_refl _)
  refine ⟨q, fun v u h => ?_⟩
  obtain ⟨A3, c3, A4, c4, rfl, h3, h4⟩ := h
  refine (Gv.of_calls Tryz.func18 (by kernel_rfl) rfl fun w hw => ?_).mono fun u v' h _ => h.1
  exact value_Large.calls k x.f0 x.f1 x.f2 A3 c3 x.f3 A4 c4 x.f4 _ w (h3.up hw).1 h3.2 (h4.up hw).1 h4.2 hk
set_option maxHeartbeats 2000000 in
theorem multiply_gv {v : World} {x y m : S27} {A3 : Option Addr} {c3 : Nat} {A4 : Option Addr} {c4 : Nat} {B3 : Option Addr} {d3 : Nat} {B4 : Option Addr} {d4 : Nat} (h6 : x.f0 = 6) (h7 : y.f0 = 6)
    (hm : Gv Tryz.prog 93 [.agg #[.int .i64 x.f0, .float .f64 x.f1, .string x.f2, .slice A3 x.f3.length c3, .slice A4 x.f4.length c4], .agg #[.int .i64 y.f0, .float .f64 y.f1, .string y.f2, .slice B3 y.f3.length d3, .slice B4 y.f4.length d4], .func (.func 97) #[] #[]] v fun u v' => Vr v' m u)
    {q : Bool} (hl : ∀ (v : World) (u : Value), Vr v m u → Gv Tryz.prog 18 [u] v fun u' _ => u' = .bool q) :
    Gv Tryz.prog 52 [.agg #[.int .i64 x.f0, .float .f64 x.f1, .string x.f2, .slice A3 x.f3.length c3, .slice A4 x.f4.length c4, .int .i64 y.f0, .float .f64 y.f1, .string y.f2, .slice B3 y.f3.length d3, .slice B4 y.f4.length d4]] v fun u v' => if q = true then u = .tuple #[zvV, strErr tooBig] else ∃ um, Vr v' m um ∧ u = .tuple #[um, noErr] := by
  have b3 := both_gv v x y A3 c3 A4 c4 B3 d3 B4 d4 3 (r := false) (by rw [h6]; rfl)
  have b6 := both_gv v x y A3 c3 A4 c4 B3 d3 B4 d4 6 (r := true) (by rw [h6, h7]; rfl)
  have q1 : (x.f0 == 4) = false := by rw [h6]; rfl
  have q2 : (x.f0 == 3) = false := by rw [h6]; rfl
  clear h6 h7
  refine Gv.run Tryz.func52 (by kernel_rfl) rfl rfl rfl rfl fun b hb => ?_
  subst hb
  first | refine WpB.row (by decide) (by decide) (ev ?_) | refine WpB.seq (WpB.row (by decide) (by decide) (ev ?_)) | refine WpB.seq (WpB.seq (WpB.row (by decide) (by decide) (ev ?_))) | refine WpB.seq (WpB.seq (WpB.seq (WpB.row (by decide) (by decide) (ev ?_))))
  first | refine WpB.block ?_ | refine WpB.seq (WpB.block ?_) | refine WpB.seq (WpB.seq (WpB.block ?_)) | refine WpB.seq (WpB.seq (WpB.seq (WpB.block ?_)))
  first | refine WpB.row (by decide) (by decide) (evh ?_) | refine WpB.seq (WpB.row (by decide) (by decide) (evh ?_)) | refine WpB.seq (WpB.seq (WpB.row (by decide) (by decide) (evh ?_))) | refine WpB.seq (WpB.seq (WpB.seq (WpB.row (by decide) (by decide) (evh ?_))))
  refine SeqB.callQ (by decide) (b3.okx _) (by decide) rfl rfl rfl rfl ?_
  rintro u S' ⟨rfl, rfl⟩ _
  refine evh ?_
  first | refine WpB.cond (by decide) rfl (fun e => by cases e) (fun _ => ?_) | refine WpB.seq (WpB.cond (by decide) rfl (fun e => by cases e) (fun _ => ?_)) | refine WpB.seq (WpB.seq (WpB.cond (by decide) rfl (fun e => by cases e) (fun _ => ?_))) | refine WpB.seq (WpB.seq (WpB.seq (WpB.cond (by decide) rfl (fun e => by cases e) (fun _ => ?_))))
  first | refine WpB.row (by decide) (by decide) (evh ?_) | refine WpB.seq (WpB.row (by decide) (by decide) (evh ?_)) | refine WpB.seq (WpB.seq (WpB.row (by decide) (by decide) (evh ?_))) | refine WpB.seq (WpB.seq (WpB.seq (WpB.row (by decide) (by decide) (evh ?_))))
  first | refine WpB.cond (by decide) rfl (fun e => by cases e) (fun _ => ?_) | refine WpB.seq (WpB.cond (by decide) rfl (fun e => by cases e) (fun _ => ?_)) | refine WpB.seq (WpB.seq (WpB.cond (by decide) rfl (fun e => by cases e) (fun _ => ?_))) | refine WpB.seq (WpB.seq (WpB.seq (WpB.cond (by decide) rfl (fun e => by cases e) (fun _ => ?_))))
  first | refine WpB.row (by decide) (by decide) (evh ?_) | refine WpB.seq (WpB.row (by decide) (by decide) (evh ?_)) | refine WpB.seq (WpB.seq (WpB.row (by decide) (by decide) (evh ?_))) | refine WpB.seq (WpB.seq (WpB.seq (WpB.row (by decide) (by decide) (evh ?_))))
  first | refine WpB.cond (by decide) rfl (fun e => by cases e) (fun _ => ?_) | refine WpB.seq (WpB.cond (by decide) rfl (fun e => by cases e) (fun _ => ?_)) | refine WpB.seq (WpB.seq (WpB.cond (by decide) rfl (fun e => by cases e) (fun _ => ?_))) | refine WpB.seq (WpB.seq (WpB.seq (WpB.cond (by decide) rfl (fun e => by cases e) (fun _ => ?_))))
  first | refine WpB.row (by decide) (by decide) (evh ?_) | refine WpB.seq (WpB.row (by decide) (by decide) (evh ?_)) | refine WpB.seq (WpB.seq (WpB.row (by decide) (by decide) (evh ?_))) | refine WpB.seq (WpB.seq (WpB.seq (WpB.row (by decide) (by decide) (evh ?_))))
  refine SeqB.callQ (by decide) (b6.okx _) (by decide) rfl rfl rfl rfl ?_
  rintro u S' ⟨rfl, rfl⟩ _
  refine evh ?_
  first | refine WpB.cond (by decide) rfl (fun _ => ?_) (fun e => by cases e) | refine WpB.seq (WpB.cond (by decide) rfl (fun _ => ?_) (fun e => by cases e)) | refine WpB.seq (WpB.seq (WpB.cond (by decide) rfl (fun _ => ?_) (fun e => by cases e))) | refine WpB.seq (WpB.seq (WpB.seq (WpB.cond (by decide) rfl (fun _ => ?_) (fun e => by cases e))))
  first | refine WpB.row (by decide) (by decide) (evh ?_) | refine WpB.seq (WpB.row (by decide) (by decide) (evh ?_)) | refine WpB.seq (WpB.seq (WpB.row (by decide) (by decide) (evh ?_))) | refine WpB.seq (WpB.seq (WpB.seq (WpB.row (by decide) (by decide) (evh ?_))))
  refine SeqB.callV (by decide) (hm) (by decide) rfl rfl rfl rfl ?_
  rintro u v2 hu hk2
  have hkept := kept_gv hu (hl _ _ hu)
  obtain ⟨E3, e3, E4, e4, rfl, m3, m4⟩ := hu
  refine evh ?_
  cases q with
  | true =>
    rw [if_pos rfl] at hkept
    refine SeqB.callQ (by decide) (hkept.okx _) (by decide) rfl rfl rfl rfl ?_
    rintro u S' ⟨rfl, rfl⟩ _
    unfold zvV strErr
    refine evh ?_
    refine WpB.ret ⟨.inr rfl, evr ?_⟩
    trivial
  | false =>
    rw [if_neg (by simp)] at hkept
    refine SeqB.callQ (by decide) (hkept.okx _) (by decide) rfl rfl rfl rfl ?_
    rintro u S' ⟨rfl, rfl⟩ _
    unfold noErr
    refine evh ?_
    refine WpB.ret ⟨.inr rfl, evr ?_⟩
    exact ⟨_, ⟨_, _, _, _, rfl, m3, m4⟩, rfl⟩
set_option maxHeartbeats 2000000 in
theorem times_gv {v : World} {x y m : S27} {ux uy : Value} (hx : Vr v x ux) (hy : Vr v y uy) (h6 : x.f0 = 6) (h7 : y.f0 = 6)
    (hm : Gv Tryz.prog 93 [ux, uy, .func (.func 97) #[] #[]] v fun u v' => Vr v' m u)
    {q : Bool} (hl : ∀ (v : World) (u : Value), Vr v m u → Gv Tryz.prog 18 [u] v fun u' _ => u' = .bool q) :
    Gv Tryz.prog 13 [.string (⟨#[42]⟩ : ByteArray), ux, uy] v fun u v' => if q = true then u = .tuple #[zvV, strErr tooBig] else ∃ um, Vr v' m um ∧ u = .tuple #[um, noErr] := by
  obtain ⟨A3, c3, A4, c4, rfl, h3, h4⟩ := hx
  obtain ⟨B3, d3, B4, d4, rfl, k3, k4⟩ := hy
  have hmul := multiply_gv h6 h7 hm hl
  have s1 : ((⟨#[42]⟩ : ByteArray).toList == (⟨#[43]⟩ : ByteArray).toList) = false := by rw [ByteArray.toList_eq, ByteArray.toList_eq]; rfl
  have s2 : ((⟨#[42]⟩ : ByteArray).toList == (⟨#[45]⟩ : ByteArray).toList) = false := by rw [ByteArray.toList_eq, ByteArray.toList_eq]; rfl
  have s3 : ((⟨#[42]⟩ : ByteArray).toList == (⟨#[42]⟩ : ByteArray).toList) = true := by simp
  clear h6 h7 hm hl
  refine Gv.run Tryz.func13 (by kernel_rfl) rfl rfl rfl rfl fun b hb => ?_
  subst hb
  first | refine WpB.row (by decide) (by decide) (ev ?_) | refine WpB.seq (WpB.row (by decide) (by decide) (ev ?_)) | refine WpB.seq (WpB.seq (WpB.row (by decide) (by decide) (ev ?_))) | refine WpB.seq (WpB.seq (WpB.seq (WpB.row (by decide) (by decide) (ev ?_))))
  first | refine WpB.row (by decide) (by decide) (evh ?_) | refine WpB.seq (WpB.row (by decide) (by decide) (evh ?_)) | refine WpB.seq (WpB.seq (WpB.row (by decide) (by decide) (evh ?_))) | refine WpB.seq (WpB.seq (WpB.seq (WpB.row (by decide) (by decide) (evh ?_))))
  first | refine WpB.row (by decide) (by decide) (evh ?_) | refine WpB.seq (WpB.row (by decide) (by decide) (evh ?_)) | refine WpB.seq (WpB.seq (WpB.row (by decide) (by decide) (evh ?_))) | refine WpB.seq (WpB.seq (WpB.seq (WpB.row (by decide) (by decide) (evh ?_))))
  first | refine WpB.block ?_ | refine WpB.seq (WpB.block ?_) | refine WpB.seq (WpB.seq (WpB.block ?_)) | refine WpB.seq (WpB.seq (WpB.seq (WpB.block ?_)))
  first | refine WpB.row (by decide) (by decide) (evh ?_) | refine WpB.seq (WpB.row (by decide) (by decide) (evh ?_)) | refine WpB.seq (WpB.seq (WpB.row (by decide) (by decide) (evh ?_))) | refine WpB.seq (WpB.seq (WpB.seq (WpB.row (by decide) (by decide) (evh ?_))))
  first | refine WpB.cond (by decide) rfl (fun e => by cases e) (fun _ => ?_) | refine WpB.seq (WpB.cond (by decide) rfl (fun e => by cases e) (fun _ => ?_)) | refine WpB.seq (WpB.seq (WpB.cond (by decide) rfl (fun e => by cases e) (fun _ => ?_))) | refine WpB.seq (WpB.seq (WpB.seq (WpB.cond (by decide) rfl (fun e => by cases e) (fun _ => ?_))))
  first | refine WpB.row (by decide) (by decide) (evh ?_) | refine WpB.seq (WpB.row (by decide) (by decide) (evh ?_)) | refine WpB.seq (WpB.seq (WpB.row (by decide) (by decide) (evh ?_))) | refine WpB.seq (WpB.seq (WpB.seq (WpB.row (by decide) (by decide) (evh ?_))))
  first | refine WpB.cond (by decide) rfl (fun e => by cases e) (fun _ => ?_) | refine WpB.seq (WpB.cond (by decide) rfl (fun e => by cases e) (fun _ => ?_)) | refine WpB.seq (WpB.seq (WpB.cond (by decide) rfl (fun e => by cases e) (fun _ => ?_))) | refine WpB.seq (WpB.seq (WpB.seq (WpB.cond (by decide) rfl (fun e => by cases e) (fun _ => ?_))))
  first | refine WpB.row (by decide) (by decide) (evh ?_) | refine WpB.seq (WpB.row (by decide) (by decide) (evh ?_)) | refine WpB.seq (WpB.seq (WpB.row (by decide) (by decide) (evh ?_))) | refine WpB.seq (WpB.seq (WpB.seq (WpB.row (by decide) (by decide) (evh ?_))))
  first | refine WpB.cond (by decide) rfl (fun _ => ?_) (fun e => by cases e) | refine WpB.seq (WpB.cond (by decide) rfl (fun _ => ?_) (fun e => by cases e)) | refine WpB.seq (WpB.seq (WpB.cond (by decide) rfl (fun _ => ?_) (fun e => by cases e))) | refine WpB.seq (WpB.seq (WpB.seq (WpB.cond (by decide) rfl (fun _ => ?_) (fun e => by cases e))))
  first | refine WpB.row (by decide) (by decide) (evh ?_) | refine WpB.seq (WpB.row (by decide) (by decide) (evh ?_)) | refine WpB.seq (WpB.seq (WpB.row (by decide) (by decide) (evh ?_))) | refine WpB.seq (WpB.seq (WpB.seq (WpB.row (by decide) (by decide) (evh ?_))))
  refine SeqB.callV (by decide) (hmul) (by decide) rfl rfl rfl rfl ?_
  rintro u v2 hu hk2
  cases q with
  | true =>
    rw [if_pos rfl] at hu
    subst hu
    unfold zvV strErr
    refine evh ?_
    refine WpB.ret ⟨.inr rfl, evr ?_⟩
    trivial
  | false =>
    rw [if_neg (by simp)] at hu
    obtain ⟨um, ⟨E3, e3, E4, e4, rfl, m3, m4⟩, rfl⟩ := hu
    unfold noErr
    refine evh ?_
    refine WpB.ret ⟨.inr rfl, evr ?_⟩
    exact ⟨_, ⟨_, _, _, _, rfl, m3, m4⟩, rfl⟩
end Go.Proofs.YtmpmbnmldmpmiaaGreatDoor.Sim
