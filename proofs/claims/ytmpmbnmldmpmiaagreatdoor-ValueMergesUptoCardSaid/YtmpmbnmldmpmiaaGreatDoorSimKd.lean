/- Between the rows of the printed contracts and the blocks of the machine over closed values. -/
import Derived.Test.YtmpmbnmldmpmiaaGreatDoorSimH
import Derived.Test.YtmpmbnmldmpmiaaGreatDoorFloat
set_option linter.unusedVariables false
set_option linter.unusedSimpArgs false
namespace Go.Proofs.YtmpmbnmldmpmiaaGreatDoor.Sim
open Go Go.RowKit Go.Proofs.YtmpmbnmldmpmiaaGreatDoorW.PrintWords Go.Proofs.YtmpmbnmldmpmiaaGreatDoorW.PrintLast Go.Proofs.YtmpmbnmldmpmiaaGreatDoorW.PrintMore
theorem cell_parts {w : World} {k off : Nat} {sp : Option Nat} {u : Value} (h : w.cell? ⟨k, off, sp⟩ = some u) : sp = none ∧ ∃ cs e fr, w.heap[k]? = some (.cells cs e fr) ∧ cs[off]? = some u := by
  simp only [World.cell?] at h
  split at h
  · rename_i cs e fr hk
    cases sp with
    | none => exact ⟨rfl, cs, e, fr, hk, by simpa using h⟩
    | some s => simp at h
  · cases h
theorem C_rows {α : Type} {d : Kd α} {w : World} {A : Option Addr} {n : Nat} {xs : List α} (h : Kd.C d w A n xs) (hn : 0 < n) (hs : 0 < d.sz) : ∃ k off cs, A = some ⟨k, off, none⟩ ∧ whole w k = some cs ∧ off + n * d.sz ≤ cs.length ∧ ∀ j p, xs[j]? = some p → d.K w p ((cs.drop (off + j * d.sz)).take d.sz) := by
  obtain ⟨hl, _, hr⟩ := h
  obtain ⟨⟨k, off, sp⟩, rfl, hc⟩ := hr hn
  have get : ∀ j, j < n → ∃ p c, xs[j]? = some p ∧ c.length = d.sz ∧ d.K w p c ∧ ∀ i u, c[i]? = some u → w.cell? (Addr.add ⟨k, off, sp⟩ (j * d.sz + i)) = some u := by
    intro j hj
    have : xs[j]? = some xs[j] := List.getElem?_eq_getElem (by omega)
    obtain ⟨c, h1, h2, h3⟩ := hc j _ this
    exact ⟨_, c, this, h1, h2, h3⟩
  have hsp : sp = none ∧ ∃ cs e fr, w.heap[k]? = some (.cells cs e fr) ∧ cs.size ≠ 0 := by
    obtain ⟨p, c, _, h1, _, h3⟩ := get 0 hn
    have hc0 : c[0]? = some c[0] := List.getElem?_eq_getElem (by omega)
    have := h3 0 _ hc0
    rw [show 0 * d.sz + 0 = 0 by omega] at this
    obtain ⟨h4, cs, e, fr, h5, h6⟩ := cell_parts (show w.cell? ⟨k, off, sp⟩ = _ from this)
    exact ⟨h4, cs, e, fr, h5, fun h0 => by have := (Array.getElem?_eq_some_iff.1 h6).1; omega⟩
  obtain ⟨rfl, cs, e, fr, hk, hne⟩ := hsp
  have hw : whole w k = some cs.toList := whole_cells hk hne
  have at_ : ∀ j p, xs[j]? = some p → ∃ c, c.length = d.sz ∧ d.K w p c ∧ ∀ i u, c[i]? = some u → cs.toList[off + (j * d.sz + i)]? = some u := by
    intro j p hj
    obtain ⟨c, h1, h2, h3⟩ := hc j p hj
    refine ⟨c, h1, h2, fun i u hu => ?_⟩
    have := h3 i u hu
    rw [show Addr.add ⟨k, off, none⟩ (j * d.sz + i) = ⟨k, off + (j * d.sz + i), none⟩ from add_eq _ _ _] at this
    obtain ⟨_, cs', e', fr', h4, h5⟩ := cell_parts this
    rw [hk] at h4
    cases h4
    simpa using h5
  refine ⟨k, off, cs.toList, rfl, hw, ?_, fun j p hj => ?_⟩
  · obtain ⟨p, c, hp, h1, _, _⟩ := get (n - 1) (by omega)
    obtain ⟨c', h1', _, h3'⟩ := at_ (n - 1) p hp
    have hcl : c'[d.sz - 1]? = some (c'[d.sz - 1]'(by omega)) := List.getElem?_eq_getElem (by omega)
    have := (List.getElem?_eq_some_iff.1 (h3' _ _ hcl)).1
    have e1 : (n - 1) * d.sz + d.sz = n * d.sz := by
      obtain ⟨m, rfl⟩ : ∃ m, n = m + 1 := ⟨n - 1, by omega⟩
      rw [show m + 1 - 1 = m by omega, Nat.succ_mul]
    omega
  · obtain ⟨c, h1, h2, h3⟩ := at_ j p hj
    have : (cs.toList.drop (off + j * d.sz)).take d.sz = c := by
      apply List.ext_getElem?
      intro i
      by_cases hi : i < d.sz
      · rw [List.getElem?_take_of_lt hi, List.getElem?_drop, Nat.add_assoc, List.getElem?_eq_getElem (show i < c.length by omega)]
        exact h3 i _ (List.getElem?_eq_getElem (by omega))
      · rw [List.getElem?_eq_none (by simp; omega), List.getElem?_eq_none (by omega)]
    rw [this]
    exact h2
theorem C_of_block {α : Type} {d : Kd α} {w : World} {g off n : Nat} {xs : List α} {cs : List Value} {e : TypeId} {fr : Nat × Nat} (hb : w.heap[g]? = some (.cells cs.toArray e fr)) (hx : xs.length = n) (hn : n ≤ 9223372036854775807)
    (h : ∀ j p, xs[j]? = some p → ∃ c, c.length = d.sz ∧ d.K w p c ∧ ∀ i u, c[i]? = some u → cs[off + (j * d.sz + i)]? = some u) : Kd.C d w (some ⟨g, off, none⟩) n xs := by
  refine ⟨hx, hn, fun _ => ⟨_, rfl, fun j p hj => ?_⟩⟩
  obtain ⟨c, h1, h2, h3⟩ := h j p hj
  refine ⟨c, h1, h2, fun i u hu => ?_⟩
  rw [show Addr.add ⟨g, off, none⟩ (j * d.sz + i) = ⟨g, off + (j * d.sz + i), none⟩ from add_eq _ _ _]
  simp only [World.cell?, hb]
  simpa using h3 i u hu
end Go.Proofs.YtmpmbnmldmpmiaaGreatDoor.Sim
