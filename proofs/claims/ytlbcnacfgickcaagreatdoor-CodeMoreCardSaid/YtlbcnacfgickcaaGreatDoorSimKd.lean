/- Between the rows of the printed contracts and the blocks of the machine over closed values. -/
import Derived.Test.YtlbcnacfgickcaaGreatDoorSimH
import Derived.Test.YtlbcnacfgickcaaGreatDoorShort
set_option linter.unusedVariables false
set_option linter.unusedSimpArgs false
namespace Go.Proofs.YtlbcnacfgickcaaGreatDoor.Sim
open Go Go.RowKit Go.Proofs.YtlbcnacfgickcaaGreatDoorW.PrintWords Go.Proofs.YtlbcnacfgickcaaGreatDoorW.PrintLast Go.Proofs.YtlbcnacfgickcaaGreatDoorW.PrintMore
theorem cell_parts {w : World} {k off : Nat} {sp : Option Nat} {u : Value} (h : w.cell? ⟨k, off, sp⟩ = some u) : sp = none ∧ ∃ cs e fr, w.heap[k]? = some (.cells cs e fr) ∧ cs[off]? = some u := by
  simp only [World.cell?] at h
  split at h
  · rename_i cs e fr hk
    cases sp with
    | none => exact ⟨rfl, cs, e, fr, hk, by simpa using h⟩
    | some s => simp at h
  · cases h
theorem C_rows {α : Type} {d : Kd α} {w : World} {A : Option Addr} {n : Nat} {xs : List α} (h : Kd.C d w A n xs) (hn : 0 < n) (hs : 0 < d.sz) : ∃ k off cs, A = some ⟨k, off, none⟩ ∧ whole w k = some cs ∧ off + n * d.sz ≤ cs.length ∧ ∀ j p, xs[j]? = some p → d.K w p ((cs.drop (off + j * d.sz)).take d.sz) := by
  obtain ⟨hl, _, hr⟩ := h
  obtain ⟨⟨k, off, sp⟩, rfl, hc⟩ := hr hn
  have get : ∀ j, j < n → ∃ p c, xs[j]? = some p ∧ c.length = d.sz ∧ d.K w p c ∧ ∀ i u, c[i]? = some u → w.cell? (Addr.add ⟨k, off, sp⟩ (j * d.sz + i)) = some u := by
    intro j hj
    have : xs[j]? = some xs[j] := List.getElem?_eq_getElem (by omega)
    obtain ⟨c, h1, h2, h3⟩ := hc j _ this
    exact ⟨_, c, this, h1, h2, h3⟩
  have hsp : sp = none ∧ ∃ cs e fr, w.heap[k]? = some (.cells cs e fr) := by
    obtain ⟨p, c, _, h1, _, h3⟩ := get 0 hn
    have hc0 : c[0]? = some c[0] := List.getElem?_eq_getElem (by omega)
    have := h3 0 _ hc0
    rw [show 0 * d.sz + 0 = 0 by omega] at this
    obtain ⟨h4, cs, e, fr, h5, _⟩ := cell_parts (show w.cell? ⟨k, off, sp⟩ = _ from this)
    exact ⟨h4, cs, e, fr, h5⟩
  obtain ⟨rfl, cs, e, fr, hk⟩ := hsp
  have hw : whole w k = some cs.toList := by unfold whole; rw [hk]
  have at_ : ∀ j p, xs[j]? = some p → ∃ c, c.length = d.sz ∧ d.K w p c ∧ ∀ i u, c[i]? = some u → cs.toList[off + (j * d.sz + i)]? = some u := by
    intro j p hj
    obtain ⟨c, h1, h2, h3⟩ := hc j p hj
    refine ⟨c, h1, h2, fun i u hu => ?_⟩
    have := h3 i u hu
    rw [show Addr.add ⟨k, off, none⟩ (j * d.sz + i) = ⟨k, off + (j * d.sz + i), none⟩ from add_eq _ _ _] at this
    obtain ⟨_, cs', e', fr', h4, h5⟩ := cell_parts this
    rw [hk] at h4
    cases h4
    simpa using h5
  refine ⟨k, off, cs.toList, rfl, hw, ?_, fun j p hj => ?_⟩
  · obtain ⟨p, c, hp, h1, _, _⟩ := get (n - 1) (by omega)
    obtain ⟨c', h1', _, h3'⟩ := at_ (n - 1) p hp
    have hcl : c'[d.sz - 1]? = some (c'[d.sz - 1]'(by omega)) := List.getElem?_eq_getElem (by omega)
    have := (List.getElem?_eq_some_iff.1 (h3' _ _ hcl)).1
    have e1 : (n - 1) * d.sz + d.sz = n * d.sz := by
      obtain ⟨m, rfl⟩ : ∃ m, n = m + 1 := ⟨n - 1, by omega⟩
      rw [show m + 1 - 1 = m by omega, Nat.succ_mul]
    omega
  · obtain ⟨c, h1, h2, h3⟩ := at_ j p hj
    have : (cs.toList.drop (off + j * d.sz)).take d.sz = c := by
      apply List.ext_getElem?
      intro i
      by_cases hi : i < d.sz
      · rw [List.getElem?_take_of_lt hi, List.getElem?_drop, Nat.add_assoc, List.getElem?_eq_getElem (show i < c.length by omega)]
        exact h3 i _ (List.getElem?_eq_getElem (by omega))
      · rw [List.getElem?_eq_none (by simp; omega), List.getElem?_eq_none (by omega)]
    rw [this]
    exact h2
theorem C_of_block {α : Type} {d : Kd α} {w : World} {g off n : Nat} {xs : List α} {cs : List Value} {e : TypeId} {fr : Nat × Nat} (hb : w.heap[g]? = some (.cells cs.toArray e fr)) (hx : xs.length = n) (hn : n ≤ 9223372036854775807)
    (h : ∀ j p, xs[j]? = some p → ∃ c, c.length = d.sz ∧ d.K w p c ∧ ∀ i u, c[i]? = some u → cs[off + (j * d.sz + i)]? = some u) : Kd.C d w (some ⟨g, off, none⟩) n xs := by
  refine ⟨hx, hn, fun _ => ⟨_, rfl, fun j p hj => ?_⟩⟩
  obtain ⟨c, h1, h2, h3⟩ := h j p hj
  refine ⟨c, h1, h2, fun i u hu => ?_⟩
  rw [show Addr.add ⟨g, off, none⟩ (j * d.sz + i) = ⟨g, off + (j * d.sz + i), none⟩ from add_eq _ _ _]
  simp only [World.cell?, hb]
  simpa using h3 i u hu
theorem ints_new {w w' : World} {v : Value} {l : List Int} (hR : Kd.R (Kd.int .i64) 3 w' w.heap.size (fun _ => True) v l) (hb : Below w.heap.size w w') {w0 : World} {g : Gh} {S : St} (hM : M w0 g S.heap w) (hu : Up g S.next) :
    (v = .slice none 0 0 ∧ l = []) ∨ ∃ g', M w0 g' ((S.next, .row (l.map fun n => .s (.int .i64 n)) 3 (some 1) false) :: S.heap) w' ∧ Fr S.next S.low (S.next + 1) g w g' w' ∧ V.rel g'.ν (.slc S.next 0 l.length none) v ∧ l.length ≤ 9223372036854775807 := by
  obtain ⟨_, inner, ⟨hlen, hown⟩, hreps⟩ := hR
  have hin : inner = l.map (Value.int .i64) := by
    obtain ⟨h1, h2⟩ := hreps
    apply List.ext_getElem?
    intro j
    by_cases hj : j < l.length
    · have := h2 j _ (List.getElem?_eq_getElem hj)
      have hs : (Kd.int .i64).sz = 1 := rfl
      rw [hs, Nat.mul_one] at this
      have e : (inner.drop j).take 1 = [Value.int .i64 l[j]] := this
      have h3 := congrArg (·[0]?) e
      simp only [List.getElem?_take_of_lt (show 0 < 1 by omega), List.getElem?_drop, Nat.add_zero, List.getElem?_cons_zero] at h3
      rw [h3, List.getElem?_map, List.getElem?_eq_getElem hj]
      rfl
    · have hs : (Kd.int .i64).sz = 1 := rfl
      rw [hs, Nat.mul_one] at h1
      rw [List.getElem?_eq_none (by omega), List.getElem?_eq_none (by simp; omega)]
  rcases hown with ⟨rfl, hn⟩ | ⟨k, cap, cur, rfl, hk, hheap, hcap, hmx, hsz, htake⟩
  · exact .inl ⟨rfl, List.eq_nil_of_length_eq_zero hn⟩
  right
  have hn := hu S.next (Nat.le_refl _)
  have hkl : k < w'.heap.size := (Array.getElem?_eq_some_iff.1 hheap).1
  have hMu := hM.under hb
  have hno : ∀ id, g.own k ≠ some id := fun id e => by have := (hM.mine k id e).2.1; omega
  have hs : (Kd.int .i64).sz = 1 := rfl
  rw [hs, Nat.mul_one] at hsz
  refine ⟨g.add S.next k cap, ⟨fun id b hf => ?_, fun j id hj => ?_, hMu.base⟩, ⟨Gh.add_ext hn, fun id hi => ?_, hb.size, fun j hj hd => ⟨hb.block j hj, ?_⟩⟩, ?_⟩
  · rw [find_cons] at hf
    by_cases e : S.next = id
    · rw [if_pos e] at hf
      cases hf
      subst e
      refine ⟨k, cap, _, Gh.add_same, by simp [Gh.add], hheap, ?_⟩
      refine ⟨inner, cur.toList.drop inner.length, (0, 0), ?_, ?_, fun _ => soft0 _, ?_⟩
      · rw [hin]
        have := rels_lits (ν := (g.add S.next k cap).ν) (l.map (Value.int .i64))
        rw [List.map_map] at this
        exact this
      · congr 1
        apply Array.ext'
        simp only [List.toList_toArray]
        rw [← htake]
        have hl : (cur.toList.take (l.length * (Kd.int .i64).sz)).length = l.length * (Kd.int .i64).sz := by rw [List.length_take]; rw [hs]; simp; omega
        rw [hl]
        exact (List.take_append_drop _ _).symm
      · show inner.length + (cur.toList.drop inner.length).length = cap * 1
        rw [List.length_drop, hlen, hs]
        simp
        omega
    · rw [if_neg e] at hf
      obtain ⟨k', c', o, g1, g2, g3, g4⟩ := hMu.blk id b hf
      refine ⟨k', c', o, Gh.add_ext hn _ _ g1, ?_, g3, g4.mono (Gh.add_ext hn)⟩
      show (if k' = k then some S.next else g.own k') = some id
      rw [if_neg (fun e' => hno id (by rw [← e']; exact g2))]
      exact g2
  · have hj' : (if j = k then some S.next else g.own j) = some id := hj
    by_cases e : j = k
    · rw [if_pos e] at hj'
      cases hj'
      subst e
      exact ⟨Nat.le_trans hM.base.size hk, hkl, cap, Gh.add_same⟩
    · rw [if_neg e] at hj'
      obtain ⟨g1, g2, c', g3⟩ := hMu.mine j id hj'
      exact ⟨g1, g2, c', Gh.add_ext hn _ _ g3⟩
  · show (if id = S.next then some (k, cap) else g.ν id) = g.ν id
    rw [if_neg (by omega)]
  · show (if j = k then some S.next else g.own j) = g.own j
    rw [if_neg (by omega)]
  · simp only [V.rel]
    refine ⟨⟨k, cap, Gh.add_same, rfl⟩, ?_⟩
    simp only [maxLen] at hmx
    omega
theorem lits_block {w0 : World} {g : Gh} {H : Heap} {w : World} (hM : M w0 g H w) {id : Nat} {cells : List Value} {e : TypeId} {tl : Option Nat} {fz : Bool} (hf : find id H = some (.row (cells.map .s) e tl fz)) : ∃ k c ys fr, g.ν id = some (k, c) ∧ w.heap[k]? = some (.cells (cells ++ ys).toArray e fr) := by
  obtain ⟨k, c, o, g1, g2, g3, xs, ys, fr, h1, rfl, h3, h4⟩ := hM.blk id _ hf
  have : xs = cells := lits_rels (l := cells.map .s) (by
    have : ∀ l : List Value, lits (l.map V.s) = some l := by
      intro l
      induction l with
      | nil => rfl
      | cons a r ih => simp only [List.map_cons, lits, ih]
    exact this cells) h1
  subst this
  exact ⟨k, c, ys, fr, g1, g3⟩
end Go.Proofs.YtlbcnacfgickcaaGreatDoor.Sim
