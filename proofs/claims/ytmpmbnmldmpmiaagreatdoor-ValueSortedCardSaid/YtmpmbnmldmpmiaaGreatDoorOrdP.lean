/- Both Compares say the same of values that may be: plain Lean. -/
import Derived.Test.YtmpmbnmldmpmiaaGreatDoorCmpC
import Derived.Test.YtmpmbnmldmpmiaaGreatDoorRefB
import Derived.Test.YtmpmbnmldmpmiaaGreatDoorRightD
import Derived.Test.YtmpmbnmldmpmiaaGreatDoorFloatInt
set_option linter.unusedVariables false
set_option linter.unusedSimpArgs false
namespace Go.Proofs.YtmpmbnmldmpmiaaGreatDoor.Sim
open Go Go.RowKit Go.Proofs.YtmpmbnmldmpmiaaGreatDoor.A Go.Proofs.YtmpmbnmldmpmiaaGreatDoorW.PrintWords Go.Proofs.YtmpmbnmldmpmiaaGreatDoorW.PrintLast Go.Proofs.YtmpmbnmldmpmiaaGreatDoorW.PrintMore Go.Proofs.YtmpmbnmldmpmiaaGreatDoorW.FM
theorem fNan_key (a : Nat) : fNan a = (fkey a).isNone := by
  unfold fNan
  rw [ord_eqq]
  cases fkey a <;> simp
/-- -1, 0 or 1, as one whole number stands to another. -/
def cmpI (a b : Int) : Int := if a < b then -1 else if b < a then 1 else 0
theorem numbersL_key (a b : Nat) : numbersL a b = match fkey a, fkey b with
    | none, _ => -1
    | some _, none => 1
    | some p, some q => cmpI p q := by
  unfold numbersL
  rw [fNan_key, fNan_key, ord_lt, ord_gt]
  cases fkey a <;> cases fkey b <;> simp [cmpI]
theorem signL_key (a b : Nat) : (if fNan a = true then -1 else signL (FloatKind.f64.format.order a b == some Ordering.lt) (FloatKind.f64.format.order a b == some Ordering.gt || fNan b)) = numbersL a b := by
  rw [numbersL_key, fNan_key, fNan_key, ord_lt, ord_gt]
  unfold signL
  cases fkey a <;> cases fkey b <;> simp [cmpI]
theorem nearest_key {n : Int} (h : n.natAbs < 9007199254740992) : fkey (FloatKind.f64.nearest n) = some (n * TOP) := by
  have h1 : FloatKind.f64.nearest n = Ieee.double.write (.number (decide (n < 0)) n.natAbs 0) := rfl
  rw [h1, int_key _ _ h]
  unfold sgn
  by_cases hn : n < 0
  · rw [decide_eq_true hn, if_pos rfl, show -(n.natAbs : Int) = n by omega]
  · rw [decide_eq_false hn, if_neg (by simp), show (n.natAbs : Int) = n by omega]
theorem top_pos : 0 < TOP := by rw [← top_nat]; exact_mod_cast Nat.two_pow_pos _
theorem cmpI_top (a b : Int) : cmpI (a * TOP) (b * TOP) = cmpI a b := by
  have hp := top_pos
  have e1 : a * TOP < b * TOP ↔ a < b := ⟨fun h => Int.lt_of_mul_lt_mul_right h (by omega), fun h => Int.mul_lt_mul_of_pos_right h hp⟩
  have e2 : b * TOP < a * TOP ↔ b < a := ⟨fun h => Int.lt_of_mul_lt_mul_right h (by omega), fun h => Int.mul_lt_mul_of_pos_right h hp⟩
  simp only [cmpI, e1, e2]
theorem numbers_near {a b : Int} (ha : a.natAbs < 9007199254740992) (hb : b.natAbs < 9007199254740992) : numbersL (FloatKind.f64.nearest a) (FloatKind.f64.nearest b) = cmpI a b := by
  rw [numbersL_key, nearest_key ha, nearest_key hb]
  exact cmpI_top a b
theorem signL_cmp (a b : Int) : signL (decide (a < b)) (decide (a > b)) = cmpI a b := by
  unfold signL cmpI
  simp
theorem cmpBytes_sign : ∀ (a b : List UInt8), Lib.compareBytes a b = signL (Op.bytesLess a b) (!(Op.bytesLess a b || a == b))
  | [], [] => by simp [Lib.compareBytes, Op.bytesLess, signL]
  | [], _ :: _ => by simp [Lib.compareBytes, Op.bytesLess, signL]
  | _ :: _, [] => by simp [Lib.compareBytes, Op.bytesLess, signL]
  | a :: x, b :: y => by
    have ih := cmpBytes_sign x y
    unfold signL at ih ⊢
    rw [Lib.compareBytes, Op.bytesLess, ih]
    by_cases h1 : a < b
    · simp [h1]
    · by_cases h2 : a = b
      · subst h2
        have : ¬ a < a := h1
        simp [this]
      · have h3 : b < a := by
          rcases UInt8.lt_or_lt_of_ne h2 with h | h
          · exact absurd h h1
          · exact h
        simp [h1, h2, h3]
theorem rowsL_seqL (f : Nat → Option Int) (z : Int) : ∀ (n i : Nat), rowsL f z n i = seqL f z n i
  | 0, i => rfl
  | n + 1, i => by
    rw [rowsL, seqL]
    congr 1
    funext c
    rw [rowsL_seqL f z n (i + 1)]
/-- Rows agree where their things agree. -/
theorem seqL_same {f g : Nat → Option Int} {z : Int} : ∀ (n i : Nat), (∀ j, i ≤ j → j < i + n → ∃ c, f j = some c ∧ g j = some c) → ∃ r, seqL f z n i = some r ∧ seqL g z n i = some r
  | 0, i, _ => ⟨z, rfl, rfl⟩
  | n + 1, i, h => by
    obtain ⟨c, h1, h2⟩ := h i (Nat.le_refl _) (by omega)
    obtain ⟨r, h3, h4⟩ := seqL_same n (i + 1) fun j hj hj' => h j (by omega) (by omega)
    rw [seqL, seqL, h1, h2]
    simp only [Option.bind_some]
    split
    · exact ⟨r, h3, h4⟩
    · exact ⟨c, rfl, rfl⟩
theorem rows_lists {f : Nat → Option Int} {g : S27 → S27 → Option Int} {l m : List S27} (hl : l.length ≤ 9007199254740991) (hm : m.length ≤ 9007199254740991) (h : ∀ j (h1 : j < l.length) (h2 : j < m.length), ∃ c, f j = some c ∧ g l[j] m[j] = some c) :
    ∃ r, rowsV f l.length m.length = some r ∧ listsV g l m = some r := by
  unfold rowsV listsV
  rw [rowsL_seqL, numbers_near (by omega) (by omega), signL_cmp]
  exact seqL_same _ _ fun j _ hj => by
    have h1 : j < l.length := by omega
    have h2 : j < m.length := by omega
    obtain ⟨c, e1, e2⟩ := h j h1 h2
    refine ⟨c, e1, ?_⟩
    rw [List.getElem?_eq_getElem h1, List.getElem?_eq_getElem h2]
    exact e2
structure RightF (d : Nat) (x : S27) : Prop where
  lo : 0 ≤ x.f0
  hi : x.f0 ≤ 6
  list : x.f0 < 5 → x.f3 = []
  keys : x.f0 = 6 → x.f4.length = x.f3.length
  none : x.f0 ≠ 6 → x.f4 = []
  num : x.f0 ≠ 3 → x.f1 = 0
  str : x.f0 ≠ 4 → x.f2.toList = []
  apart : (x.f4.map kd_).Nodup
  kids : ∀ y ∈ x.f3, rightV d y = true
theorem rightV_open {d : Nat} {x : S27} (h : rightV (d + 1) x = true) : RightF d x := by
  rw [rightV] at h
  split at h
  · cases h
  rename_i h1
  split at h
  · cases h
  rename_i h2
  split at h
  · cases h
  rename_i h3
  split at h
  · cases h
  rename_i h4
  by_cases h5 : (if x.f0 = 6 then x.f4.length = x.f3.length else x.f4.length = 0)
  rotate_left
  · rw [if_neg h5] at h; cases h
  rw [if_pos h5] at h
  by_cases h6 : Lib.validD (kd_ x.f2) = true
  rotate_left
  · rw [if_neg h6] at h; cases h
  rw [if_pos h6] at h
  by_cases h7 : apartB [] x.f4 = true
  rotate_left
  · rw [if_neg h7] at h; cases h
  rw [if_pos h7] at h
  refine ⟨by omega, by omega, fun hk => ?_, fun hk => ?_, fun hk => ?_, fun hk => ?_, fun hk => ?_, ((apartB_iff _ _).1 h7).2.1, fun y hy => List.all_eq_true.1 h y hy⟩
  · exact List.eq_nil_of_length_eq_zero (by omega)
  · rw [if_pos hk] at h5; exact h5
  · rw [if_neg hk] at h5; exact List.eq_nil_of_length_eq_zero h5
  · exact Classical.byContradiction fun hne => h2 ⟨hk, hne⟩
  · exact Classical.byContradiction fun hne => h3 ⟨hk, hne⟩
theorem getElem_map_nodup {l : List ByteArray} (h : (l.map kd_).Nodup) {i j : Nat} (hi : i < l.length) (hj : j < l.length) (e : l[i] = l[j]) : i = j := by
  have h' := List.pairwise_iff_getElem.1 (show (l.map kd_).Pairwise (· ≠ ·) from h)
  rcases Nat.lt_trichotomy i j with h1 | h1 | h1
  · refine (h' i j (by simpa using hi) (by simpa using hj) h1 ?_).elim
    rw [List.getElem_map, List.getElem_map, e]
  · exact h1
  · refine (h' j i (by simpa using hj) (by simpa using hi) h1 ?_).elim
    rw [List.getElem_map, List.getElem_map, e]
/-- The place of a key that stands at j is j. -/
theorem posL_at {l : List ByteArray} (h : (l.map kd_).Nodup) {j : Nat} (hj : j < l.length) : posL l[j] l 0 = (j : Int) := by
  have key : ∀ (m i : Nat), m = j - i → i ≤ j → posL l[j] (l.drop i) i = (j : Int) := by
    intro m
    induction m with
    | zero =>
      intro i hm hi
      have : i = j := by omega
      subst this
      rw [List.drop_eq_getElem_cons hj, posL, if_pos (by simp)]
    | succ m ih =>
      intro i hm hi
      have hij : i < l.length := by omega
      rw [List.drop_eq_getElem_cons hij, posL, if_neg, ih (i + 1) (by omega) (by omega)]
      intro e
      have := getElem_map_nodup h hij hj (toList_inj (by simpa using e))
      omega
  have := key j 0 (by omega) (Nat.zero_le _)
  rwa [List.drop_zero] at this
theorem getL_at {x : S27} (h : (x.f4.map kd_).Nodup) {j : Nat} (hj : j < x.f4.length) (hj3 : j < x.f3.length) : (getL x x.f4[j]).1 = x.f3[j] := by
  unfold getL
  rw [posL_at h hj, if_neg (by omega), Int.toNat_natCast, List.getElem?_eq_getElem hj3]
  rfl
/-- The keys at the places, in order, are the sorted keys. -/
theorem places_keys (ks : List ByteArray) : (placesL ks).map (fun j => (ks[j]?).getD ByteArray.empty) = srt ks := by
  refine srt_unique ?_ ?_
  · refine ((placesL_perm ks).map _).trans ?_
    have : (List.range ks.length).map (fun j => (ks[j]?).getD ByteArray.empty) = ks := by
      apply List.ext_getElem
      · simp
      · intro i h1 h2
        simp [h2]
    rw [this]
  · rw [List.pairwise_map]
    refine (placesL_sorted ks).imp_of_mem fun {i j} hi hj hij => ?_
    have h1 := placesL_lt hi
    have h2 := placesL_lt hj
    rw [List.getElem?_eq_getElem h1, List.getElem?_eq_getElem h2] at *
    have := hij _ _ rfl rfl
    unfold leB
    rw [bytesLess_lt]
    simpa using this
theorem places_at {ks : List ByteArray} {i : Nat} (h : i < ks.length) : ∃ j, (placesL ks)[i]? = some j ∧ ∃ hj : j < ks.length, (srt ks)[i]? = some ks[j] := by
  have hp : i < (placesL ks).length := by rw [placesL_length]; exact h
  have hj := placesL_lt (List.getElem_mem hp)
  refine ⟨_, List.getElem?_eq_getElem hp, hj, ?_⟩
  rw [← places_keys, List.getElem?_map, List.getElem?_eq_getElem hp]
  simp [hj]
theorem refV_str {k : Nat} (s t : ByteArray) : refV (k + 1) (strV s) (strV t) = some (Lib.compareBytes s.data.toList t.data.toList) := by
  rw [refV]
  show (if (4 : Int) ≠ 4 then _ else _) = _
  rw [if_neg (by simp), if_neg (by simp [strV]), if_pos (show (strV s).f0 = 4 from rfl)]
  show some (signL (Op.bytesLess s.toList t.toList) (!(Op.bytesLess s.toList t.toList || s.toList == t.toList))) = _
  rw [← cmpBytes_sign, ByteArray.toList_eq, ByteArray.toList_eq]
theorem signL_kinds : ∀ a b : _root_.Fin 7, a ≠ b → signL (decide ((a.val : Int) < b.val)) true = cmpI a.val b.val := by decide
/-- value.Compare and the reference's say the same of values that may be. -/
theorem cmp_ref : ∀ (d : Nat) (x y : S27), G27 x → G27 y → rightV d x = true → rightV d y = true → ∃ r, cmpV d x y = some r ∧ refV (d + 1) x y = some r := by
  intro d
  induction d with
  | zero => intro x y _ _ h; simp [rightV] at h
  | succ d ih =>
  intro x y gx gy hx hy
  have fx := rightV_open hx
  have fy := rightV_open hy
  obtain ⟨_, gx2, gx3, gx4, gx5, gx6⟩ := gx
  obtain ⟨_, gy2, gy3, gy4, gy5, gy6⟩ := gy
  rw [cmpV, refV]
  by_cases e0 : x.f0 = y.f0
  rotate_left
  · rw [if_pos e0, if_pos e0]
    refine ⟨_, rfl, ?_⟩
    have h1 := fx.lo
    have h2 := fx.hi
    have h3 := fy.lo
    have h4 := fy.hi
    rw [numbers_near (by omega) (by omega)]
    have := signL_kinds ⟨x.f0.toNat, by omega⟩ ⟨y.f0.toNat, by omega⟩ (fun e => e0 (by have := congrArg _root_.Fin.val e; simp at this; omega))
    simp only [Int.toNat_of_nonneg h1, Int.toNat_of_nonneg h3] at this
    rw [this]
  have e0' : ¬ x.f0 ≠ y.f0 := by simpa using e0
  rw [if_neg e0', if_neg e0']
  by_cases e3 : x.f0 = 3
  · rw [if_pos e3, if_pos e3]
    refine ⟨_, rfl, ?_⟩
    rw [← signL_key]
    split <;> rfl
  rw [if_neg e3, if_neg e3]
  by_cases e4 : x.f0 = 4
  · rw [if_pos e4, if_pos e4]
    refine ⟨_, rfl, ?_⟩
    rw [cmpBytes_sign, ByteArray.toList_eq, ByteArray.toList_eq]
  rw [if_neg e4, if_neg e4]
  by_cases e5 : x.f0 = 5
  · rw [if_pos e5, if_pos e5, if_pos ⟨by omega, by omega⟩]
    exact rows_lists (by omega) (by omega) fun j h1 h2 => by
      obtain ⟨c, q1, q2⟩ := ih _ _ (gx6 _ (List.getElem_mem h1)) (gy6 _ (List.getElem_mem h2)) (fx.kids _ (List.getElem_mem h1)) (fy.kids _ (List.getElem_mem h2))
      refine ⟨c, ?_, q2⟩
      rw [List.getElem?_eq_getElem h1, List.getElem?_eq_getElem h2]
      exact q1
  rw [if_neg e5, if_neg e5]
  by_cases e6 : x.f0 = 6
  · have kx := fx.keys e6
    have ky := fy.keys (by rw [← e0]; exact e6)
    have lx : (srt x.f4).length = x.f4.length := (srt_perm x.f4).length_eq
    have ly : (srt y.f4).length = y.f4.length := (srt_perm y.f4).length_eq
    rw [if_pos e6, if_pos e6, if_pos ⟨by omega, by omega⟩, if_pos ⟨⟨by omega, by omega⟩, by omega, by omega⟩]
    obtain ⟨c, q1, q2⟩ := rows_lists (f := fun i => ((placesL x.f4)[i]?).bind fun j => ((placesL y.f4)[i]?).bind fun j' => (x.f4[j]?).bind fun s => (y.f4[j']?).bind fun t => some (Lib.compareBytes s.data.toList t.data.toList)) (g := refV (d + 1)) (l := (srt x.f4).map strV) (m := (srt y.f4).map strV) (by rw [List.length_map]; omega) (by rw [List.length_map]; omega) (fun i h1 h2 => by
      rw [List.length_map] at h1 h2
      obtain ⟨j, p1, hj, p2⟩ := places_at (ks := x.f4) (i := i) (by omega)
      obtain ⟨j', p3, hj', p4⟩ := places_at (ks := y.f4) (i := i) (by omega)
      refine ⟨Lib.compareBytes x.f4[j].data.toList y.f4[j'].data.toList, ?_, ?_⟩
      · simp only [p1, p3, Option.bind_some, List.getElem?_eq_getElem hj, List.getElem?_eq_getElem hj']
      · rw [List.getElem_map, List.getElem_map, refV_str]
        have a1 : (srt x.f4)[i] = x.f4[j] := by have := List.getElem?_eq_getElem h1; rw [p2] at this; injection this with this; exact this.symm
        have a2 : (srt y.f4)[i] = y.f4[j'] := by have := List.getElem?_eq_getElem h2; rw [p4] at this; injection this with this; exact this.symm
        rw [a1, a2])
    rw [List.length_map, List.length_map, lx, ly] at q1
    rw [q1, q2]
    simp only [Option.bind_some]
    by_cases hc : c = 0
    · rw [if_neg (by simpa using hc), if_neg (by simpa using hc)]
      have lbx : (byKeysL x).length = x.f4.length := by unfold byKeysL; rw [List.length_map, lx]
      have lby : (byKeysL y).length = y.f4.length := by unfold byKeysL; rw [List.length_map, ly]
      have := rows_lists (f := fun i => ((placesL x.f4)[i]?).bind fun j => ((placesL y.f4)[i]?).bind fun j' => (x.f3[j]?).bind fun x => (y.f3[j']?).bind fun y => cmpV d x y) (g := refV (d + 1)) (l := byKeysL x) (m := byKeysL y) (by omega) (by omega) (fun i h1 h2 => by
        obtain ⟨j, p1, hj, p2⟩ := places_at (ks := x.f4) (i := i) (by omega)
        obtain ⟨j', p3, hj', p4⟩ := places_at (ks := y.f4) (i := i) (by omega)
        have hj3 : j < x.f3.length := by omega
        have hj3' : j' < y.f3.length := by omega
        obtain ⟨c, r1, r2⟩ := ih _ _ (gx6 _ (List.getElem_mem hj3)) (gy6 _ (List.getElem_mem hj3')) (fx.kids _ (List.getElem_mem hj3)) (fy.kids _ (List.getElem_mem hj3'))
        have a1 : (byKeysL x)[i] = x.f3[j] := by
          have : (byKeysL x)[i]? = some x.f3[j] := by unfold byKeysL; rw [List.getElem?_map, p2]; simp only [Option.map_some]; rw [getL_at fx.apart hj hj3]
          rw [List.getElem?_eq_getElem h1] at this
          injection this
        have a2 : (byKeysL y)[i] = y.f3[j'] := by
          have : (byKeysL y)[i]? = some y.f3[j'] := by unfold byKeysL; rw [List.getElem?_map, p4]; simp only [Option.map_some]; rw [getL_at fy.apart hj' hj3']
          rw [List.getElem?_eq_getElem h2] at this
          injection this
        refine ⟨c, ?_, by rw [a1, a2]; exact r2⟩
        simp only [p1, p3, Option.bind_some, List.getElem?_eq_getElem hj3, List.getElem?_eq_getElem hj3']
        exact r1)
      rw [lbx, lby] at this
      exact this
    · rw [if_pos (by simpa using hc), if_pos (by simpa using hc)]
      exact ⟨c, rfl, rfl⟩
  · rw [if_neg e6, if_neg e6]
    exact ⟨0, rfl, rfl⟩
end Go.Proofs.YtmpmbnmldmpmiaaGreatDoor.Sim
