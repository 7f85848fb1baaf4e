/- Texts of this claim, put together. -/
import Derived.Orders
import Derived.Tactics
import Derived.Below
import Derived.Laws.Sem
import Derived.Laws.Cells
import Derived.Laws.World
import Derived.Laws.Entries
import Derived.Laws.BytesString
import Derived.Lib.ConvBytes
import Derived.MapKept
set_option linter.unusedVariables false
set_option linter.unusedSimpArgs false
namespace Go.Proofs.YtmpmbnmldmpmiaaGreatDoor.Sim
open Go Go.RowKit
/-- Values: a number names a block; which one the world decides. -/
inductive V where
  | s (v : Value)
  | ptr (b off : Nat)
  | slc (b off len : Nat) (cap : Option Nat)
  | slu (b off len : Nat)
  | map (b : Nat)
  | fn (f : FuncId) (first captured : List V)
  | ifc (t : TypeId) (v : V)
  | agg (cs : List V)
  | tup (cs : List V)
abbrev Val := Nat → Option (Nat × Nat)
mutual
def V.rel (ν : Val) : V → Value → Prop
  | .s v, u => u = v
  | .ptr b off, u => ∃ k c, ν b = some (k, c) ∧ u = .pointer (some ⟨k, off, none⟩)
  | .slc b off len cap, u => ∃ k c, ν b = some (k, c) ∧ u = .slice (some ⟨k, off, none⟩) len (cap.getD c)
  | .slu b off len, u => ∃ k c cp, ν b = some (k, c) ∧ len ≤ cp ∧ u = .slice (some ⟨k, off, none⟩) len cp
  | .map b, u => ∃ k c, ν b = some (k, c) ∧ u = .map (some k)
  | .fn f a c, u => ∃ xs ys, V.rels ν a xs ∧ V.rels ν c ys ∧ u = .func (.func f) xs.toArray ys.toArray
  | .ifc t v, u => ∃ x, V.rel ν v x ∧ u = .iface t x
  | .agg cs, u => ∃ xs, V.rels ν cs xs ∧ u = .agg xs.toArray
  | .tup cs, u => ∃ xs, V.rels ν cs xs ∧ u = .tuple xs.toArray
def V.rels (ν : Val) : List V → List Value → Prop
  | [], l => l = []
  | a :: r, l => ∃ x xs, V.rel ν a x ∧ V.rels ν r xs ∧ l = x :: xs
end
def Ext (ν ν' : Val) : Prop := ∀ id p, ν id = some p → ν' id = some p
theorem Ext.refl (ν : Val) : Ext ν ν := fun _ _ h => h
theorem Ext.trans {a b c : Val} (h : Ext a b) (k : Ext b c) : Ext a c := fun i p e => k i p (h i p e)
mutual
theorem V.rel_mono {ν ν' : Val} (h : Ext ν ν') : ∀ (v : V) (u : Value), V.rel ν v u → V.rel ν' v u
  | .s v, u, e => by simpa only [V.rel] using e
  | .ptr b off, u, e => by
    simp only [V.rel] at e ⊢
    obtain ⟨k, c, e, r⟩ := e
    exact ⟨k, c, h _ _ e, r⟩
  | .slc b off len cap, u, e => by
    simp only [V.rel] at e ⊢
    obtain ⟨k, c, e, r⟩ := e
    exact ⟨k, c, h _ _ e, r⟩
  | .slu b off len, u, e => by
    simp only [V.rel] at e ⊢
    obtain ⟨k, c, cp, e, r⟩ := e
    exact ⟨k, c, cp, h _ _ e, r⟩
  | .map b, u, e => by
    simp only [V.rel] at e ⊢
    obtain ⟨k, c, e, r⟩ := e
    exact ⟨k, c, h _ _ e, r⟩
  | .fn f a c, u, e => by
    simp only [V.rel] at e ⊢
    obtain ⟨xs, ys, h1, h2, r⟩ := e
    exact ⟨xs, ys, V.rels_mono h a xs h1, V.rels_mono h c ys h2, r⟩
  | .ifc t v, u, e => by
    simp only [V.rel] at e ⊢
    obtain ⟨x, h1, r⟩ := e
    exact ⟨x, V.rel_mono h v x h1, r⟩
  | .agg cs, u, e => by
    simp only [V.rel] at e ⊢
    obtain ⟨x, h1, r⟩ := e
    exact ⟨x, V.rels_mono h cs x h1, r⟩
  | .tup cs, u, e => by
    simp only [V.rel] at e ⊢
    obtain ⟨x, h1, r⟩ := e
    exact ⟨x, V.rels_mono h cs x h1, r⟩
theorem V.rels_mono {ν ν' : Val} (h : Ext ν ν') : ∀ (l : List V) (us : List Value), V.rels ν l us → V.rels ν' l us
  | [], us, e => by simpa only [V.rels] using e
  | a :: r, us, e => by
    simp only [V.rels] at e ⊢
    obtain ⟨x, xs, h1, h2, e⟩ := e
    exact ⟨x, xs, V.rel_mono h a x h1, V.rels_mono h r xs h2, e⟩
end
theorem rel_s {ν : Val} {v : Value} : V.rel ν (.s v) v := by simp only [V.rel]
theorem rels_nil {ν : Val} : V.rels ν [] [] := by simp only [V.rels]
theorem rels_cons {ν : Val} {a : V} {r : List V} {x : Value} {xs : List Value} (h : V.rel ν a x) (k : V.rels ν r xs) : V.rels ν (a :: r) (x :: xs) := by
  simp only [V.rels]
  exact ⟨x, xs, h, k, rfl⟩
theorem rels_length {ν : Val} : ∀ {l : List V} {us : List Value}, V.rels ν l us → us.length = l.length
  | [], us, h => by simp only [V.rels] at h; simp [h]
  | a :: r, us, h => by
    simp only [V.rels] at h
    obtain ⟨x, xs, _, h2, rfl⟩ := h
    simp [rels_length h2]
theorem rels_get {ν : Val} : ∀ {l : List V} {us : List Value} {i : Nat} {v : V}, V.rels ν l us → l[i]? = some v → ∃ u, us[i]? = some u ∧ V.rel ν v u
  | [], us, i, v, h, e => by simp at e
  | a :: r, us, i, v, h, e => by
    simp only [V.rels] at h
    obtain ⟨x, xs, h1, h2, rfl⟩ := h
    cases i with
    | zero => simp at e; subst e; exact ⟨x, rfl, h1⟩
    | succ i => simp at e; simpa using rels_get h2 e
theorem rels_append {ν : Val} : ∀ {l m : List V} {us vs : List Value}, V.rels ν l us → V.rels ν m vs → V.rels ν (l ++ m) (us ++ vs)
  | [], m, us, vs, h, k => by simp only [V.rels] at h; subst h; simpa using k
  | a :: r, m, us, vs, h, k => by
    simp only [V.rels] at h
    obtain ⟨x, xs, h1, h2, rfl⟩ := h
    exact rels_cons h1 (rels_append h2 k)
theorem rels_take {ν : Val} : ∀ (n : Nat) {l : List V} {us : List Value}, V.rels ν l us → V.rels ν (l.take n) (us.take n)
  | 0, l, us, h => by simpa using rels_nil
  | n + 1, [], us, h => by simp only [V.rels] at h; subst h; simpa using rels_nil
  | n + 1, a :: r, us, h => by
    simp only [V.rels] at h
    obtain ⟨x, xs, h1, h2, rfl⟩ := h
    exact rels_cons h1 (rels_take n h2)
theorem rels_drop {ν : Val} : ∀ (n : Nat) {l : List V} {us : List Value}, V.rels ν l us → V.rels ν (l.drop n) (us.drop n)
  | 0, l, us, h => h
  | n + 1, [], us, h => by simp only [V.rels] at h; subst h; simpa using rels_nil
  | n + 1, a :: r, us, h => by
    simp only [V.rels] at h
    obtain ⟨x, xs, h1, h2, rfl⟩ := h
    exact rels_drop n h2
theorem rels_lits {ν : Val} : ∀ (l : List Value), V.rels ν (l.map .s) l
  | [] => rels_nil
  | a :: r => rels_cons (by simp only [V.rel]) (rels_lits r)
theorem rels_singleton {ν : Val} {a : V} {x : Value} (h : V.rel ν a x) : V.rels ν [a] [x] := rels_cons h rels_nil
/-- The cells of a value. -/
def cellsV : V → List V
  | .agg cs => cs
  | .s (.agg cs) => cs.toList.map .s
  | v => [v]
theorem rel_cells {ν : Val} {v : V} {u : Value} (h : V.rel ν v u) : V.rels ν (cellsV v) u.cells.toList := by
  cases v with
  | s v =>
    simp only [V.rel] at h
    subst h
    cases u <;> first | exact rels_lits _ | exact rels_singleton (by simp only [V.rel])
  | agg cs =>
    simp only [V.rel] at h
    obtain ⟨xs, h, rfl⟩ := h
    exact h
  | ptr b off => have h0 := h; simp only [V.rel] at h; obtain ⟨k, c, h, rfl⟩ := h; exact rels_singleton h0
  | slc b off len cap => have h0 := h; simp only [V.rel] at h; obtain ⟨k, c, h, rfl⟩ := h; exact rels_singleton h0
  | slu b off len => have h0 := h; simp only [V.rel] at h; obtain ⟨k, c, cp, h, _, rfl⟩ := h; exact rels_singleton h0
  | map b => have h0 := h; simp only [V.rel] at h; obtain ⟨k, c, h, rfl⟩ := h; exact rels_singleton h0
  | fn f a c => have h0 := h; simp only [V.rel] at h; obtain ⟨xs, ys, _, _, rfl⟩ := h; exact rels_singleton h0
  | ifc t v => have h0 := h; simp only [V.rel] at h; obtain ⟨x, _, rfl⟩ := h; exact rels_singleton h0
  | tup cs => have h0 := h; simp only [V.rel] at h; obtain ⟨x, _, rfl⟩ := h; exact rels_singleton h0
/-- All of them plain values. -/
def lits : List V → Option (List Value)
  | [] => some []
  | .s v :: r => match lits r with
    | some l => some (v :: l)
    | none => none
  | _ :: _ => none
theorem lits_rels {ν : Val} : ∀ {l : List V} {vs us : List Value}, lits l = some vs → V.rels ν l us → us = vs
  | [], vs, us, h, k => by simp only [V.rels] at k; simp only [lits, Option.some.injEq] at h; rw [k, h]
  | .s v :: r, vs, us, h, k => by
    simp only [V.rels, V.rel] at k
    obtain ⟨x, xs, rfl, h2, rfl⟩ := k
    simp only [lits] at h
    split at h
    · rename_i l hl
      cases h
      rw [lits_rels hl h2]
    · cases h
/-- A struct out of cells. -/
def mkAgg (cs : List V) : V := match lits cs with
  | some l => .s (.agg l.toArray)
  | none => .agg cs
theorem mkAgg_rel {ν : Val} {cs : List V} {xs : List Value} (h : V.rels ν cs xs) : V.rel ν (mkAgg cs) (.agg xs.toArray) := by
  unfold mkAgg
  split
  · rename_i l hl
    simp only [V.rel]
    rw [lits_rels hl h]
  · simp only [V.rel]
    exact ⟨xs, h, rfl⟩
def mkTup (cs : List V) : V := match lits cs with
  | some l => .s (.tuple l.toArray)
  | none => .tup cs
theorem mkTup_rel {ν : Val} {cs : List V} {xs : List Value} (h : V.rels ν cs xs) : V.rel ν (mkTup cs) (.tuple xs.toArray) := by
  unfold mkTup
  split
  · rename_i l hl
    simp only [V.rel]
    rw [lits_rels hl h]
  · simp only [V.rel]
    exact ⟨xs, h, rfl⟩
/-- A value of one cell. -/
def oneCell : Value → Bool
  | .agg _ => false
  | .tuple _ => false
  | _ => true
def one : V → Bool
  | .agg _ => false
  | .tup _ => false
  | .s v => oneCell v
  | _ => true
theorem rel_one {ν : Val} {v : V} {u : Value} (h : V.rel ν v u) (k : one v = true) : oneCell u = true := by
  cases v with
  | s v => simp only [V.rel] at h; subst h; exact k
  | agg cs => cases k
  | tup cs => cases k
  | ptr b off => simp only [V.rel] at h; obtain ⟨_, _, _, rfl⟩ := h; rfl
  | slc b off len cap => simp only [V.rel] at h; obtain ⟨_, _, _, rfl⟩ := h; rfl
  | slu b off len => simp only [V.rel] at h; obtain ⟨_, _, _, _, _, rfl⟩ := h; rfl
  | map b => simp only [V.rel] at h; obtain ⟨_, _, _, rfl⟩ := h; rfl
  | fn f a c => simp only [V.rel] at h; obtain ⟨_, _, _, _, rfl⟩ := h; rfl
  | ifc t v => simp only [V.rel] at h; obtain ⟨_, _, rfl⟩ := h; rfl
/-- What of a row is frozen: nothing; cells behind the row alone; cells that are known, alone. -/
inductive Fz where
  | no | soft | view
def Fz.ok : Fz → Bool
  | .view => false
  | _ => true
def Fz.firm : Fz → Bool
  | .soft => false
  | _ => true
/-- Blocks: cells (with as many behind them as the block's room says), a map's entries, a place in a string. -/
inductive Blk where
  | row (cs : List V) (elem : TypeId) (tail : Option Nat) (fz : Fz)
  | map (es : List (Value × V))
  | iter (s : ByteArray) (pos : Nat)
def entries : List Value → List Value → Nat → List MapEntry
  | k :: ks, v :: vs, i => ⟨k, v, i⟩ :: entries ks vs (i + 1)
  | _, _, _ => []
/-- No cell of a row is frozen. -/
def Soft (fr : Nat × Nat) (n : Nat) : Prop := ∀ off, off < n → (decide (fr.1 ≤ off) && decide (off < fr.2)) = false
theorem soft0 (n : Nat) : Soft (0, 0) n := fun off _ => by simp
def FzOk : Fz → Nat × Nat → Nat → Nat → Prop
  | .no, fr, _, _ => fr.1 = fr.2
  | .soft, fr, a, b => Soft fr (a + b)
  | .view, fr, a, _ => fr.2 ≤ a
theorem FzOk.zero (fz : Fz) (a b : Nat) : FzOk fz (0, 0) a b := by
  cases fz with
  | no => rfl
  | soft => exact soft0 _
  | view => exact Nat.zero_le _
theorem FzOk.soft {fz : Fz} {fr : Nat × Nat} {a b : Nat} (h : FzOk fz fr a b) (k : fz.ok = true) : Soft fr (a + b) := by
  cases fz with
  | no => intro off _; have h : fr.1 = fr.2 := h; simp; omega
  | soft => exact h
  | view => cases k
/-- Behind what is known nothing is frozen. -/
theorem FzOk.behind {fz : Fz} {fr : Nat × Nat} {a b : Nat} (h : FzOk fz fr a b) (off : Nat) (h1 : fz.ok = true ∨ a ≤ off) (h2 : off < a + b) : (decide (fr.1 ≤ off) && decide (off < fr.2)) = false := by
  cases fz with
  | no => exact h.soft rfl off h2
  | soft => exact h.soft rfl off h2
  | view =>
    rcases h1 with h1 | h1
    · cases h1
    · have h : fr.2 ≤ a := h
      simp
      omega
theorem FzOk.more {fz : Fz} {fr : Nat × Nat} {a b a' b' : Nat} (h : FzOk fz fr a b) (h1 : a' + b' = a + b) (h2 : fz.ok = true ∨ a ≤ a') : FzOk fz fr a' b' := by
  cases fz with
  | no => exact h
  | soft => show Soft fr (a' + b'); rw [h1]; exact h
  | view =>
    rcases h2 with h2 | h2
    · cases h2
    · exact Nat.le_trans h h2
def BlkOk (ν : Val) (c : Nat) : Blk → Obj → Prop
  | .row cs e tail fz, o => ∃ xs ys fr, V.rels ν cs xs ∧ o = .cells (xs ++ ys).toArray e fr ∧ FzOk fz fr xs.length ys.length ∧ (match tail with
      | none => ys = []
      | some k => xs.length + ys.length = c * k)
  | .map es, o => ∃ vs, V.rels ν (es.map (·.2)) vs ∧ o = .map (entries (es.map (·.1)) vs 0).toArray es.length
  | .iter s pos, o => o = .stringIter s pos
theorem BlkOk.mono {ν ν' : Val} (h : Ext ν ν') {c : Nat} {b : Blk} {o : Obj} (k : BlkOk ν c b o) : BlkOk ν' c b o := by
  cases b with
  | row cs e tail fz =>
    obtain ⟨xs, ys, fr, h1, h2⟩ := k
    exact ⟨xs, ys, fr, V.rels_mono h _ _ h1, h2⟩
  | map es =>
    obtain ⟨vs, h1, h2⟩ := k
    exact ⟨vs, V.rels_mono h _ _ h1, h2⟩
  | iter s pos => exact k
abbrev Heap := List (Nat × Blk)
def find (id : Nat) : Heap → Option Blk
  | [] => none
  | (i, b) :: r => if Nat.beq i id then some b else find id r
def upd (id : Nat) (b : Blk) : Heap → Heap
  | [] => []
  | (i, c) :: r => if Nat.beq i id then (i, b) :: r else (i, c) :: upd id b r
def del (id : Nat) : Heap → Heap
  | [] => []
  | (i, c) :: r => if Nat.beq i id then del id r else (i, c) :: del id r
theorem find_upd_ne {id i : Nat} {b : Blk} (h : i ≠ id) : ∀ (H : Heap), find i (upd id b H) = find i H
  | [] => rfl
  | (j, c) :: r => by
    unfold upd find
    by_cases hj : Nat.beq j id = true
    · rw [if_pos hj]
      have : j = id := Nat.eq_of_beq_eq_true hj
      have hi : ¬ Nat.beq j i = true := fun e => h (by rw [← Nat.eq_of_beq_eq_true e, this])
      simp only [find]
      rw [if_neg hi, if_neg hi]
    · rw [if_neg hj]
      simp only [find]
      by_cases hi : Nat.beq j i = true
      · rw [if_pos hi, if_pos hi]
      · rw [if_neg hi, if_neg hi, find_upd_ne h r]
theorem find_upd_same {id : Nat} {b c : Blk} : ∀ (H : Heap), find id (upd id b H) = some c → c = b
  | [], h => by cases h
  | (j, d) :: r, h => by
    unfold upd at h
    by_cases hj : Nat.beq j id = true
    · rw [if_pos hj] at h
      simp only [find, if_pos hj, Option.some.injEq] at h
      exact h.symm
    · rw [if_neg hj] at h
      simp only [find, if_neg hj] at h
      exact find_upd_same r h
theorem find_del {id i : Nat} {b : Blk} : ∀ (H : Heap), find i (del id H) = some b → i ≠ id ∧ find i H = some b
  | [], h => by cases h
  | (j, d) :: r, h => by
    unfold del at h
    by_cases hj : Nat.beq j id = true
    · rw [if_pos hj] at h
      obtain ⟨h1, h2⟩ := find_del r h
      have : j = id := Nat.eq_of_beq_eq_true hj
      refine ⟨h1, ?_⟩
      simp only [find]
      rw [if_neg (fun e => h1 (by rw [← Nat.eq_of_beq_eq_true e, this]))]
      exact h2
    · rw [if_neg hj] at h
      simp only [find] at h ⊢
      by_cases hi : Nat.beq j i = true
      · rw [if_pos hi] at h ⊢
        refine ⟨fun e => hj ?_, h⟩
        rw [← e]
        exact hi
      · rw [if_neg hi] at h ⊢
        exact find_del r h
/-- Which block each name has, and whose each block is. -/
structure Gh where
  ν : Val
  own : Nat → Option Nat
/-- What lies fast: the world at the beginning, and what of memory is known (blocks without cells say nothing). -/
structure Bs where
  w : World
  v : World
def Fast (v : World) (k : Nat) : Prop := ∃ (cs : Array Value) (e : TypeId) (fr : Nat × Nat), v.heap[k]? = some (.cells cs e fr) ∧ cs.size ≠ 0
structure Bs.Mine (b : Bs) (k : Nat) : Prop where
  new : b.w.heap.size ≤ k
  not : ¬ Fast b.v k
/-- All that is known of memory holds. -/
def Known (v w : World) : Prop := ∀ (k : Nat) (cs : Array Value) (e : TypeId) (fr : Nat × Nat), v.heap[k]? = some (.cells cs e fr) → cs.size ≠ 0 → w.heap[k]? = some (.cells cs e fr)
structure Based (b : Bs) (w : World) : Prop where
  bel : Below b.w.heap.size b.w w
  fast : Known b.v w
  top : b.v.heap.size ≤ w.heap.size
theorem Known.refl (v : World) : Known v v := fun _ _ _ _ h _ => h
theorem Known.below {v w w' : World} (h : Known v w) (k : Below w.heap.size w w') : Known v w' := fun j cs e fr hj hc => by
  have h1 := h j cs e fr hj hc
  rw [k.block j (Array.getElem?_eq_some_iff.1 h1).1]
  exact h1
theorem Based.mine_new {b : Bs} {w : World} (h : Based b w) : b.Mine w.heap.size := ⟨h.bel.size, fun ⟨cs, e, fr, h1, h2⟩ => by
  have := (Array.getElem?_eq_some_iff.1 (h.fast _ cs e fr h1 h2)).1
  omega⟩
theorem Based.under {b : Bs} {w w' : World} (h : Based b w) (k : Below w.heap.size w w') : Based b w' := ⟨h.bel.trans (k.mono h.bel.size), h.fast.below k, Nat.le_trans h.top k.size⟩
theorem Based.alloc {b : Bs} {w : World} (h : Based b w) (o : Obj) : Based b (w.alloc o) :=
  ⟨h.bel.alloc h.bel.size o, fun k cs e fr h1 h2 => by
    have h3 := h.fast k cs e fr h1 h2
    rw [Below.heap_alloc w o k (Array.getElem?_eq_some_iff.1 h3).1]
    exact h3, Nat.le_trans h.top (by simp)⟩
theorem Based.drew {b : Bs} {w : World} (h : Based b w) (d : Nat) : Based b { w with drawn := d } := ⟨⟨h.bel.os, h.bel.tape, h.bel.output, h.bel.size, h.bel.block⟩, h.fast, h.top⟩
/-- The world is as the blocks say; below it is as it was. -/
structure M (w0 : Bs) (g : Gh) (H : Heap) (w : World) : Prop where
  blk : ∀ id b, find id H = some b → ∃ k c o, g.ν id = some (k, c) ∧ g.own k = some id ∧ w.heap[k]? = some o ∧ BlkOk g.ν c b o
  mine : ∀ k id, g.own k = some id → w0.Mine k ∧ k < w.heap.size ∧ ∃ c, g.ν id = some (k, c)
  base : Based w0 w
/-- At the beginning all is known. -/
def Bs.of (w : World) : Bs := ⟨w, w⟩
instance : Coe World Bs := ⟨Bs.of⟩
theorem M.start (w : World) : M (Bs.of w) ⟨fun _ => none, fun _ => none⟩ [] w := ⟨fun id b hb => (by cases hb), fun k id hk => (by cases hk), Below.refl _ _, Known.refl _, Nat.le_refl _⟩
/-- What has not turned between two moments. -/
structure Fr (n0 lo hi : Nat) (g : Gh) (w : World) (g' : Gh) (w' : World) : Prop where
  ext : Ext g.ν g'.ν
  rng : ∀ id, id < n0 ∨ hi ≤ id → g'.ν id = g.ν id
  size : w.heap.size ≤ w'.heap.size
  old : ∀ k, k < w.heap.size → (∀ id, g.own k = some id → id < lo ∨ hi ≤ id) → w'.heap[k]? = w.heap[k]? ∧ g'.own k = g.own k
theorem Fr.refl (n lo : Nat) (g : Gh) (w : World) : Fr n lo n g w g w := ⟨Ext.refl _, fun _ _ => rfl, Nat.le_refl _, fun _ _ _ => ⟨rfl, rfl⟩⟩
theorem Fr.trans {n0 lo1 n1 lo2 n2 : Nat} {g g1 g2 : Gh} {w w1 w2 : World} (h : Fr n0 lo1 n1 g w g1 w1) (k : Fr n1 lo2 n2 g1 w1 g2 w2) (hl : lo2 ≤ lo1) (h0 : n0 ≤ n1) (h1 : n1 ≤ n2) : Fr n0 lo2 n2 g w g2 w2 := by
  refine ⟨h.ext.trans k.ext, fun id hi => ?_, Nat.le_trans h.size k.size, fun j hj hd => ?_⟩
  · rw [k.rng id (by omega), h.rng id (by omega)]
  · obtain ⟨e1, e2⟩ := h.old j hj (fun id e => by have := hd id e; omega)
    obtain ⟨e3, e4⟩ := k.old j (Nat.lt_of_lt_of_le hj h.size) (fun id e => by rw [e2] at e; have := hd id e; omega)
    exact ⟨e3.trans e1, e4.trans e2⟩
theorem Fr.weaken {n0 lo1 n1 lo2 n2 : Nat} {g g1 : Gh} {w w1 : World} (h : Fr n0 lo1 n1 g w g1 w1) (hl : lo2 ≤ lo1) (h1 : n1 ≤ n2) : Fr n0 lo2 n2 g w g1 w1 :=
  ⟨h.ext, fun id hi => h.rng id (by omega), h.size, fun j hj hd => h.old j hj (fun id e => by have := hd id e; omega)⟩
/-- What a part of the blocks says holds on, if they lie where nothing has turned. -/
theorem M.keep {w0 : Bs} {g g' : Gh} {H H' : Heap} {w w' : World} {n0 lo hi : Nat} (h : M w0 g H w) (k : Fr n0 lo hi g w g' w') (h' : M w0 g' H' w') (hd : ∀ id p, g.ν id = some p → id < lo ∨ hi ≤ id) : M w0 g' H w' := by
  refine ⟨fun id b hb => ?_, h'.mine, h'.base⟩
  obtain ⟨j, c, o, h1, h2, h3, h4⟩ := h.blk id b hb
  obtain ⟨e1, e2⟩ := k.old j (h.mine j id h2).2.1 (fun i hi => by
    rw [h2] at hi
    cases hi
    exact hd _ _ h1)
  exact ⟨j, c, o, k.ext _ _ h1, by rw [e2, h2], by rw [e1, h3], h4.mono k.ext⟩
theorem M.sub {w0 : Bs} {g : Gh} {H H' : Heap} {w : World} (h : M w0 g H w) (k : ∀ id b, find id H' = some b → find id H = some b) : M w0 g H' w := ⟨fun id b hb => h.blk id b (k id b hb), h.mine, h.base⟩
/-- A world that differs in what has been drawn alone. -/
theorem M.drew {w0 : Bs} {g : Gh} {H : Heap} {w : World} (h : M w0 g H w) (d : Nat) : M w0 g H { w with drawn := d } :=
  ⟨h.blk, h.mine, h.base.drew d⟩
theorem Fr.drew_left {n0 lo hi : Nat} {g g' : Gh} {w w' : World} {d : Nat} (h : Fr n0 lo hi g { w with drawn := d } g' w') : Fr n0 lo hi g w g' w' := ⟨h.ext, h.rng, h.size, h.old⟩
/-- A new block. -/
def Gh.add (g : Gh) (id k c : Nat) : Gh := ⟨fun i => if i = id then some (k, c) else g.ν i, fun j => if j = k then some id else g.own j⟩
theorem Gh.add_ext {g : Gh} {id k c : Nat} (h : g.ν id = none) : Ext g.ν (g.add id k c).ν := fun i p hi => by
  show (if i = id then some (k, c) else g.ν i) = some p
  by_cases e : i = id
  · subst e
    rw [h] at hi
    cases hi
  · rw [if_neg e]
    exact hi
theorem Gh.add_same {g : Gh} {id k c : Nat} : (g.add id k c).ν id = some (k, c) := by simp [Gh.add]
theorem M.alloc {w0 : Bs} {g : Gh} {H : Heap} {w : World} (h : M w0 g H w) {id c : Nat} (hn : g.ν id = none) {o : Obj} {b : Blk} (hb : BlkOk (g.add id w.heap.size c).ν c b o) :
    M w0 (g.add id w.heap.size c) ((id, b) :: H) (w.alloc o) := by
  have hsz : (w.alloc o).heap.size = w.heap.size + 1 := by simp
  refine ⟨fun i b' hi => ?_, fun j i hj => ?_, h.base.alloc o⟩
  · simp only [find] at hi
    by_cases e : Nat.beq id i = true
    · rw [if_pos e] at hi
      have e' := Nat.eq_of_beq_eq_true e
      subst e'
      cases hi
      refine ⟨w.heap.size, c, o, Gh.add_same, by simp [Gh.add], ?_, hb⟩
      show (w.heap.push o)[w.heap.size]? = _
      simp
    · rw [if_neg e] at hi
      obtain ⟨k, c', o', h1, h2, h3, h4⟩ := h.blk i b' hi
      have hlt := (h.mine k i h2).2.1
      have hne : i ≠ id := fun e' => by rw [e', hn] at h1; cases h1
      refine ⟨k, c', o', Gh.add_ext hn _ _ h1, ?_, ?_, h4.mono (Gh.add_ext hn)⟩
      · show (if k = w.heap.size then some id else g.own k) = some i
        rw [if_neg (by omega), h2]
      · rw [Below.heap_alloc w o k hlt]
        exact h3
  · have hj' : (if j = w.heap.size then some id else g.own j) = some i := hj
    by_cases e : j = w.heap.size
    · rw [if_pos e] at hj'
      cases hj'
      subst e
      exact ⟨h.base.mine_new, by omega, c, Gh.add_same⟩
    · rw [if_neg e] at hj'
      obtain ⟨h1, h2, c', h3⟩ := h.mine j i hj'
      exact ⟨h1, by omega, c', Gh.add_ext hn _ _ h3⟩
theorem Fr.alloc {g : Gh} {w : World} {id lo c : Nat} (hn : g.ν id = none) (o : Obj) : Fr id lo (id + 1) g w (g.add id w.heap.size c) (w.alloc o) := by
  refine ⟨Gh.add_ext hn, fun i hi => ?_, by simp, fun k hk _ => ⟨Below.heap_alloc w o k hk, ?_⟩⟩
  · show (if i = id then some (w.heap.size, c) else g.ν i) = g.ν i
    rw [if_neg (by omega)]
  · show (if k = w.heap.size then some id else g.own k) = g.own k
    rw [if_neg (by omega)]
/-- One block turned in place. -/
structure Turned (k : Nat) (o : Obj) (w w' : World) : Prop where
  os : w'.os = w.os
  tape : w'.tape = w.tape
  output : w'.output = w.output
  size : w'.heap.size = w.heap.size
  at_ : w'.heap[k]? = some o
  rest : ∀ j, j ≠ k → w'.heap[j]? = w.heap[j]?
theorem Turned.below {k : Nat} {o : Obj} {w0 : Bs} {w w' : World} (h : Turned k o w w') (hb : Based w0 w) (hk : w0.Mine k) : Based w0 w' :=
  ⟨hb.bel.trans ⟨h.os, h.tape, h.output, by rw [h.size]; exact Nat.le_refl _, fun j hj => h.rest j (by have := hk.new; omega)⟩, fun j cs e fr h1 h2 => by
    rw [h.rest j (fun ej => hk.not ⟨cs, e, fr, ej ▸ h1, h2⟩)]
    exact hb.fast j cs e fr h1 h2, by rw [h.size]; exact hb.top⟩
theorem M.turn {w0 : Bs} {g : Gh} {H : Heap} {w w' : World} (h : M w0 g H w) {id k c : Nat} {b : Blk} (hν : g.ν id = some (k, c)) (ho : g.own k = some id) {o : Obj} (ht : Turned k o w w') (hb : BlkOk g.ν c b o) :
    M w0 g (upd id b H) w' := by
  refine ⟨fun i b' hi => ?_, fun j i hj => ?_, ht.below h.base (h.mine k id ho).1⟩
  · by_cases e : i = id
    · subst e
      rw [find_upd_same H hi]
      exact ⟨k, c, o, hν, ho, ht.at_, hb⟩
    · rw [find_upd_ne e] at hi
      obtain ⟨k', c', o', h1, h2, h3, h4⟩ := h.blk i b' hi
      refine ⟨k', c', o', h1, h2, ?_, h4⟩
      rw [ht.rest k' (fun e' => e (by rw [e', ho] at h2; cases h2; rfl))]
      exact h3
  · rw [ht.size]
    exact h.mine j i hj
theorem Fr.turn {g : Gh} {w w' : World} {n id k lo hi : Nat} {o : Obj} (ho : g.own k = some id) (ht : Turned k o w w') (hl : lo ≤ id) (hh : id < hi) (hn : n ≤ hi) : Fr n lo hi g w g w' := by
  refine ⟨Ext.refl _, fun _ _ => rfl, by rw [ht.size]; exact Nat.le_refl _, fun j hj hd => ⟨ht.rest j (fun e => ?_), rfl⟩⟩
  subst e
  have := hd id ho
  omega
end Go.Proofs.YtmpmbnmldmpmiaaGreatDoor.Sim
set_option linter.unusedVariables false
set_option linter.unusedSimpArgs false
namespace Go.Proofs.YtmpmbnmldmpmiaaGreatDoor.Sim
open Go Go.RowKit
/-- What looks at no memory. -/
def purely {α : Type} (P : Program) : Sem α → Option α
  | .pure a => some a
  | .program k => purely P (k P)
  | .mark _ k => purely P k
  | _ => none
theorem purely_run {α : Type} {P : Program} : ∀ {e : Sem α} {a : α}, purely P e = some a → ∀ w, e.run P w = .ok a w
  | .pure a, b, h, w => by simp only [purely, Option.some.injEq] at h; subst h; rfl
  | .program k, b, h, w => by simp only [purely] at h; simp only [Sem.run]; exact purely_run h w
  | .mark m k, b, h, w => by simp only [purely] at h; simp only [Sem.run]; exact purely_run h w
  | .load m a k, b, h, w => by simp [purely] at h
  | .store m a v k, b, h, w => by simp [purely] at h
  | .new o k, b, h, w => by simp [purely] at h
  | .shape r k, b, h, w => by simp [purely] at h
  | .freeze a n k, b, h, w => by simp [purely] at h
  | .frozen a k, b, h, w => by simp [purely] at h
  | .getObj r k, b, h, w => by simp [purely] at h
  | .setObj r o k, b, h, w => by simp [purely] at h
  | .choose q k, b, h, w => by simp [purely] at h
  | .sys c k, b, h, w => by simp [purely] at h
  | .halt x, b, h, w => by simp [purely] at h
structure St where
  heap : Heap
  next : Nat
  low : Nat
inductive Eff where
  | no
  | new (b : Blk)
  | put (id : Nat) (b : Blk)
  | eat (id : Nat) (b : Blk)
def lower (a b : Nat) : Nat := bif Nat.ble a b then a else b
theorem lower_eq (a b : Nat) : lower a b = min a b := by
  unfold lower
  cases h : Nat.ble a b with
  | true => have := Nat.le_of_ble_eq_true h; simp; omega
  | false =>
    have : ¬ a ≤ b := fun e => by rw [Nat.ble_eq_true_of_le e] at h; cases h
    simp; omega
def Eff.run (S : St) : Eff → St
  | .no => S
  | .new b => ⟨(S.next, b) :: S.heap, S.next + 1, S.low⟩
  | .put id b => ⟨upd id b S.heap, S.next, lower id S.low⟩
  | .eat id b => ⟨(S.next, b) :: del id S.heap, S.next + 1, lower id S.low⟩
theorem Eff.up (S : St) (e : Eff) : S.next ≤ (e.run S).next ∧ (e.run S).low ≤ S.low := by
  cases e <;> simp only [Eff.run, lower_eq] <;> omega
section
variable (P : Program) (T : Nat → Option (List Value))
/-- The tables that lie in memory ahead of all. -/
def Tab (T : Nat → Option (List Value)) (w0 : Bs) : Prop := ∀ k cs, T k = some cs → cs ≠ [] ∧ ∃ e fr, w0.v.heap[k]? = some (.cells cs.toArray e fr)
/-- That an operation answers so. -/
def Good (P : Program) (w0 : Bs) (g : Gh) (S : St) (w : World) (e : Sem Value) (v : V) (f : Eff) : Prop :=
  ∃ u w' g', e.run P w = .ok u w' ∧ M w0 g' (f.run S).heap w' ∧ Fr S.next (f.run S).low (f.run S).next g w g' w' ∧ V.rel g'.ν v u
theorem Good.no {w0 : Bs} {g : Gh} {S : St} {w : World} (hM : M w0 g S.heap w) {e : Sem Value} {v : V} {u : Value} (h : e.run P w = .ok u w) (r : V.rel g.ν v u) : Good P w0 g S w e v .no :=
  ⟨u, w, g, h, hM, Fr.refl _ _ _ _, r⟩
theorem Good.new {w0 : Bs} {g : Gh} {S : St} {w : World} (hM : M w0 g S.heap w) (hn : g.ν S.next = none) (c : Nat) {e : Sem Value} {v : V} {u : Value} {o : Obj} {b : Blk} (h : e.run P w = .ok u (w.alloc o))
    (hb : BlkOk (g.add S.next w.heap.size c).ν c b o) (r : V.rel (g.add S.next w.heap.size c).ν v u) : Good P w0 g S w e v (.new b) :=
  ⟨u, _, _, h, hM.alloc hn hb, Fr.alloc hn o, r⟩
theorem Good.put {w0 : Bs} {g : Gh} {S : St} {w w' : World} (hM : M w0 g S.heap w) {id k c : Nat} (hν : g.ν id = some (k, c)) (ho : g.own k = some id) (hl : id < S.next) {e : Sem Value} {v : V} {u : Value} {o : Obj} {b : Blk} (h : e.run P w = .ok u w')
    (ht : Turned k o w w') (hb : BlkOk g.ν c b o) (r : V.rel g.ν v u) : Good P w0 g S w e v (.put id b) :=
  ⟨u, _, _, h, hM.turn hν ho ht hb, Fr.turn ho ht (by simp only [Eff.run, lower_eq]; omega) hl (Nat.le_refl _), r⟩
/-- The row that a pointer points into, and the place. -/
def rowAtX (a : V) (H : Heap) : Option (List V × Nat) := match a with
  | .ptr id off => match find id H with
    | some (.row cs _ _ _) => some (cs, off)
    | _ => none
  | .s (.pointer (some ⟨k, off, none⟩)) => match T k with
    | some cs => some (cs.map .s, off)
    | none => none
  | _ => none
theorem rowAtX_spec {w0 : Bs} {g : Gh} {H : Heap} {w : World} (hT : Tab T w0) (hM : M w0 g H w) {a : V} {u : Value} {cs : List V} {off : Nat} (h : rowAtX T a H = some (cs, off)) (r : V.rel g.ν a u) :
    ∃ k xs, u = .pointer (some ⟨k, off, none⟩) ∧ V.rels g.ν cs xs ∧ ∀ j x, xs[j]? = some x → w.cell? ⟨k, j, none⟩ = some x := by
  unfold rowAtX at h
  split at h
  · rename_i id off'
    split at h
    · rename_i cs' e tl fz hf
      cases h
      obtain ⟨k, c, o, h1, h2, h3, xs, ys, fr, h4, rfl, _⟩ := hM.blk _ _ hf
      simp only [V.rel] at r
      obtain ⟨k', c', h5, rfl⟩ := r
      rw [h1] at h5
      cases h5
      refine ⟨k, xs, rfl, h4, fun j x hj => ?_⟩
      simp only [World.cell?, h3]
      have hlt := (List.getElem?_eq_some_iff.1 hj).1
      simpa [List.getElem?_append_left hlt] using hj
    · cases h
  · rename_i k off'
    split at h
    · rename_i cs' hk
      cases h
      simp only [V.rel] at r
      subst r
      obtain ⟨hne, e, fr, hc⟩ := hT _ _ hk
      have hc := hM.base.fast k _ e fr hc (by simpa using hne)
      refine ⟨k, cs', rfl, rels_lits _, fun j x hj => ?_⟩
      simp only [World.cell?, hc]
      simpa using hj
    · cases h
  · cases h
def isAggD : TypeDesc → Bool
  | .struct _ => true
  | .array _ _ => true
  | _ => false
theorem run_isAgg {t : TypeId} {d : TypeDesc} (h : P.underlying t = some d) (w : World) : (isAgg t).run P w = .ok (isAggD d) w := by
  unfold isAgg
  simp only [Sem.run_bind, run_underlying h, Result.andThen_ok]
  cases d <;> rfl
theorem run_typeInfo' {t : TypeId} {i : TypeInfo} (h : P.info? t = some i) (w : World) : (typeInfo t).run P w = .ok i w := by
  simp [typeInfo, h]
theorem run_sizeOf' {t : TypeId} {i : TypeInfo} (h : P.info? t = some i) (w : World) : (sizeOf t).run P w = .ok i.size w := by
  simp [sizeOf, typeInfo, h]
theorem run_zeroValue' {t : TypeId} {i : TypeInfo} (h : P.info? t = some i) {z : Value} (hz : i.zero = some z) (w : World) : (zeroValue t).run P w = .ok z w := by
  simp [zeroValue, typeInfo, h, hz]
theorem add_eq (k off n : Nat) : Addr.add ⟨k, off, none⟩ n = ⟨k, off + n, none⟩ := by
  unfold Addr.add
  by_cases h : n = 0
  · simp [h]
  · simp [h]
def loadX (t : TypeId) (a : V) (H : Heap) : Option V :=
  match P.info? t, P.underlying t, rowAtX T a H with
  | some i, some d, some (cs, off) => bif isAggD d then (bif Nat.beq ((cs.drop off).take i.size).length i.size then some (mkAgg ((cs.drop off).take i.size)) else none) else cs[off]?
  | _, _, _ => none
theorem loadX_run {w0 : Bs} {g : Gh} {S : St} {w : World} (hT : Tab T w0) (hM : M w0 g S.heap w) {t : TypeId} {a v : V} {u : Value} (h : loadX P T t a S.heap = some v) (r : V.rel g.ν a u) : (∃ x, u = .pointer (some x)) ∧ ∃ y, (Instr.loadAt t u).run P w = .ok y w ∧ V.rel g.ν v y := by
  unfold loadX at h
  split at h
  · rename_i i d cs off hi hd hr
    obtain ⟨k, xs, rfl, hx, hc⟩ := rowAtX_spec T hT hM hr r
    cases ha : isAggD d with
    | true =>
      rw [ha] at h
      simp only [cond_true] at h
      cases hl : Nat.beq ((cs.drop off).take i.size).length i.size with
      | false => rw [hl] at h; cases h
      | true =>
        rw [hl] at h
        simp only [cond_true, Option.some.injEq] at h
        subst h
        have hlen : ((xs.drop off).take i.size).length = i.size := by rw [rels_length (rels_take _ (rels_drop off hx))]; exact Nat.eq_of_beq_eq_true hl
        have hload := run_loadCells_list (P := P) (w := w) ⟨k, off, none⟩ ((xs.drop off).take i.size) (fun j x hj => by
          rw [add_eq]
          refine hc _ _ ?_
          have hj' := (List.getElem?_eq_some_iff.1 hj).1
          rw [List.getElem?_take_of_lt (by omega), List.getElem?_drop] at hj
          exact hj)
        rw [hlen] at hload
        refine ⟨⟨_, rfl⟩, .agg ((xs.drop off).take i.size).toArray, ?_, mkAgg_rel (rels_take _ (rels_drop off hx))⟩
        simp [Instr.loadAt, Instr.sureAddr, loadVar, run_isAgg P hd, ha, run_sizeOf' P hi, hload]
    | false =>
      rw [ha] at h
      simp only [cond_false] at h
      obtain ⟨x, hx1, hx2⟩ := rels_get hx h
      refine ⟨⟨_, rfl⟩, x, ?_, hx2⟩
      simp [Instr.loadAt, Instr.sureAddr, loadVar, run_isAgg P hd, ha, hc _ _ hx1]
  · cases h
theorem loadX_good {w0 : Bs} {g : Gh} {S : St} {w : World} (hT : Tab T w0) (hM : M w0 g S.heap w) {t : TypeId} {a v : V} {u : Value} (h : loadX P T t a S.heap = some v) (r : V.rel g.ν a u) : Good P w0 g S w (Instr.loadAt t u) v .no := by
  obtain ⟨_, y, h1, h2⟩ := loadX_run P T hT hM h r
  exact Good.no P hM h1 h2
def setRange {α : Type} (l : List α) (off : Nat) (vs : List α) : List α := l.take off ++ vs ++ l.drop (off + vs.length)
theorem setRange_length {α : Type} {l : List α} {off : Nat} {vs : List α} (h : off + vs.length ≤ l.length) : (setRange l off vs).length = l.length := by
  simp [setRange]; omega
theorem rels_setRange {ν : Val} {l m : List V} {us vs : List Value} (off : Nat) (h : V.rels ν l us) (k : V.rels ν m vs) : V.rels ν (setRange l off m) (setRange us off vs) := by
  unfold setRange
  rw [rels_length k]
  exact rels_append (rels_append (rels_take _ h) k) (rels_drop _ h)
theorem setRange_cons {α : Type} (l : List α) (off : Nat) (v : α) (vs : List α) (h : off < l.length) : setRange l off (v :: vs) = setRange (l.set off v) (off + 1) vs := by
  unfold setRange
  apply List.ext_getElem?
  intro i
  have hl : (l.set off v).length = l.length := List.length_set
  simp only [List.getElem?_append, List.getElem?_take, List.length_append, List.length_take, List.length_cons, List.getElem?_drop, List.getElem?_set, hl]
  rcases Nat.lt_trichotomy i off with h1 | h1 | h1
  · simp [show i < min off l.length + (vs.length + 1) by omega, show i < min off l.length by omega, h1, show i < min (off + 1) l.length + vs.length by omega, show i < min (off + 1) l.length by omega, show i < off + 1 by omega, show off ≠ i by omega]
  · subst h1
    simp [show min i l.length = i by omega, show min (i + 1) l.length = i + 1 by omega, h, show i < i + 1 + vs.length by omega]
  · simp only [show min off l.length = off by omega, show min (off + 1) l.length = off + 1 by omega, show ¬ i < off by omega, show ¬ i < off + 1 by omega, if_false, show off ≠ i by omega]
    by_cases h2 : i < off + (vs.length + 1)
    · rw [if_pos h2, if_pos (by omega), show i - off = (i - (off + 1)) + 1 by omega]
      simp
    · rw [if_neg h2, if_neg (by omega)]
      rw [if_neg (by omega)]
      congr 1
      omega
/-- Cells stored one behind the other. -/
theorem storeCells_run {k : Nat} {e : TypeId} {fr : Nat × Nat} : ∀ (vs : List Value) (off i : Nat) (cs : List Value) (w : World), (∀ o, off + i ≤ o → o < cs.length → (decide (fr.1 ≤ o) && decide (o < fr.2)) = false) → w.heap[k]? = some (.cells cs.toArray e fr) → off + i + vs.length ≤ cs.length → (∀ v ∈ vs, oneCell v = true) →
    ∃ w', (storeCells ⟨k, off, none⟩ vs i).run P w = .ok () w' ∧ Turned k (.cells (setRange cs (off + i) vs).toArray e fr) w w'
  | [], off, i, cs, w, hso, hw, hl, ho => ⟨w, rfl, ⟨rfl, rfl, rfl, rfl, by simpa [setRange] using hw, fun _ _ => rfl⟩⟩
  | v :: vs, off, i, cs, w, hso, hw, hl, ho => by
    simp only [List.length_cons] at hl
    have hk : k < w.heap.size := (Array.getElem?_eq_some_iff.1 hw).1
    have hc : w.cell? ⟨k, off + i, none⟩ = some (cs[off + i]'(by omega)) := by
      simp [World.cell?, hw, show off + i < cs.length by omega]
    have hf : w.frozen? ⟨k, off + i, none⟩ = false := by
      simp only [World.frozen?, hw]
      exact hso _ (Nat.le_refl _) (by omega)
    have hst : (store ⟨k, off + i, none⟩ v).run P w = .ok () (w.setCell ⟨k, off + i, none⟩ v) := by
      rw [run_store P w _ v _ (by have := ho v List.mem_cons_self; cases v <;> first | rfl | cases this)]
      simp [hc, hf]
    have hw1 : (w.setCell ⟨k, off + i, none⟩ v).heap[k]? = some (.cells (cs.set (off + i) v).toArray e fr) := by
      simp [World.setCell, Array.getElem?_modify, hw]
    obtain ⟨w', h1, h2⟩ := storeCells_run vs off (i + 1) (cs.set (off + i) v) (w.setCell ⟨k, off + i, none⟩ v) (fun o h1 h2 => hso o (by omega) (by simpa using h2)) hw1 (by simp; omega) (fun v hv => ho v (List.mem_cons_of_mem _ hv))
    refine ⟨w', ?_, ?_⟩
    · simp only [storeCells, add_eq, Sem.run_bind, hst, Result.andThen_ok]
      exact h1
    · rw [setRange_cons _ _ _ _ (by omega)]
      exact ⟨h2.os, h2.tape, h2.output, by rw [h2.size]; simp, h2.at_, fun j hj => (h2.rest j hj).trans (Below.heap_setCell _ _ _ _ hj)⟩
theorem rels_all_one {ν : Val} : ∀ {l : List V} {us : List Value}, V.rels ν l us → l.all one = true → ∀ u ∈ us, oneCell u = true
  | [], us, h, _, u, hu => by simp only [V.rels] at h; subst h; cases hu
  | a :: r, us, h, k, u, hu => by
    simp only [V.rels] at h
    obtain ⟨x, xs, h1, h2, rfl⟩ := h
    simp only [List.all_cons, Bool.and_eq_true] at k
    rcases List.mem_cons.1 hu with rfl | hu
    · exact rel_one h1 k.1
    · exact rels_all_one h2 k.2 u hu
/-- Cells written into a row at a place. -/
def putX (id off : Nat) (l : List V) (S : St) : Option Eff :=
  match find id S.heap with
  | some (.row cs e tl fz) => bif fz.ok && (Nat.ble (off + l.length) cs.length && l.all one && Nat.blt id S.next) then some (.put id (.row (setRange cs off l) e tl fz)) else none
  | _ => none
theorem putX_spec {w0 : Bs} {g : Gh} {S : St} {w : World} (hM : M w0 g S.heap w) {id off : Nat} {l : List V} {f : Eff} (h : putX id off l S = some f) {us : List Value} (r : V.rels g.ν l us) :
    ∃ b k c o w', f = .put id b ∧ g.ν id = some (k, c) ∧ g.own k = some id ∧ id < S.next ∧ (storeCells ⟨k, off, none⟩ us).run P w = .ok () w' ∧ Turned k o w w' ∧ BlkOk g.ν c b o := by
  unfold putX at h
  split at h
  · rename_i cs e tl fz hf
    cases hb : (fz.ok && (Nat.ble (off + l.length) cs.length && l.all one && Nat.blt id S.next)) with
    | false => rw [hb] at h; cases h
    | true =>
      rw [hb] at h
      simp only [cond_true, Option.some.injEq] at h
      subst h
      simp only [Bool.and_eq_true] at hb
      obtain ⟨hfz, hb⟩ := hb
      have hb1 := Nat.le_of_ble_eq_true hb.1.1
      have hb2 : id < S.next := by have := hb.2; unfold Nat.blt at this; exact Nat.le_of_ble_eq_true this
      obtain ⟨k, c, o, h1, h2, h3, xs, ys, fr, h4, rfl, h6, h7⟩ := hM.blk _ _ hf
      have hul := rels_length r
      have hxl := rels_length h4
      obtain ⟨w', hw1, hw2⟩ := storeCells_run P us off 0 (xs ++ ys) w (fun o _ h => h6.soft hfz o (by simpa using h)) h3 (by simp; omega) (rels_all_one r hb.1.2)
      refine ⟨_, k, c, _, w', rfl, h1, h2, hb2, hw1, hw2, setRange xs off us, ys, fr, rels_setRange off h4 r, ?_, by rw [setRange_length (by omega)]; exact h6, ?_⟩
      · have e1 : setRange (xs ++ ys) (off + 0) us = setRange xs off us ++ ys := by
          unfold setRange
          rw [Nat.add_zero, List.take_append_of_le_length (by omega), List.drop_append_of_le_length (by omega)]
          simp
        rw [e1]
      · rw [setRange_length (by omega)]
        exact h7
  · cases h
def storeX (t : TypeId) (a v : V) (S : St) : Option Eff :=
  match P.info? t, a with
  | some i, .ptr id off => bif Nat.beq (cellsV v).length i.size then putX id off (cellsV v) S else none
  | _, _ => none
/-- A store: nothing is answered. -/
def GoodU (P : Program) (w0 : Bs) (g : Gh) (S : St) (w : World) (e : Sem Unit) (f : Eff) : Prop :=
  ∃ w' g', e.run P w = .ok () w' ∧ M w0 g' (f.run S).heap w' ∧ Fr S.next (f.run S).low (f.run S).next g w g' w'
theorem storeX_good {w0 : Bs} {g : Gh} {S : St} {w : World} (hM : M w0 g S.heap w) {t : TypeId} {a v : V} {u x : Value} {f : Eff} (h : storeX P t a v S = some f) (ra : V.rel g.ν a u) (rv : V.rel g.ν v x) : GoodU P w0 g S w (Instr.storeAt t u x) f := by
  unfold storeX at h
  split at h
  · rename_i i id off hi
    cases hb : Nat.beq (cellsV v).length i.size with
    | false => rw [hb] at h; cases h
    | true =>
      rw [hb] at h
      simp only [cond_true] at h
      obtain ⟨b, k, c, o, w', rfl, h1, h2, h3, h4, h5, h6⟩ := putX_spec P hM h (rel_cells rv)
      simp only [V.rel] at ra
      obtain ⟨k', c', e, rfl⟩ := ra
      rw [h1] at e
      cases e
      refine ⟨w', g, ?_, hM.turn h1 h2 h5 h6, Fr.turn h2 h5 (by simp only [Eff.run, lower_eq]; omega) h3 (Nat.le_refl _)⟩
      have hs : x.cells.size = i.size := by
        have := rels_length (rel_cells rv)
        rw [Nat.eq_of_beq_eq_true hb] at this
        simpa using this
      simp [Instr.storeAt, Instr.sureAddr, storeVar, run_sizeOf' P hi, hs, h4]
  · cases h
/-- A row made. -/
def mkRow (e : TypeId) (cs : List V) : Eff := .new (.row cs e none .no)
theorem newRow_run (e : TypeId) (c : Array Value) (w : World) : (newRow e c).run P w = .ok ⟨w.heap.size, 0, none⟩ (w.alloc (.cells c e)) := by
  simp [newRow]
theorem rel_newptr {g : Gh} {id k c off : Nat} : V.rel (g.add id k c).ν (.ptr id off) (.pointer (some ⟨k, off, none⟩)) := by
  simp only [V.rel]
  exact ⟨k, c, Gh.add_same, rfl⟩
theorem rel_newslc {g : Gh} {id k c off len n : Nat} : V.rel (g.add id k c).ν (.slc id off len (some n)) (.slice (some ⟨k, off, none⟩) len n) := by
  simp only [V.rel]
  exact ⟨k, c, Gh.add_same, rfl⟩
theorem blk_row {ν : Val} {c : Nat} {cs : List V} {xs : List Value} (e : TypeId) (h : V.rels ν cs xs) : BlkOk ν c (.row cs e none .no) (.cells xs.toArray e (0, 0)) :=
  ⟨xs, [], (0, 0), h, by simp, rfl, rfl⟩
/-- What ends in a new row of one variable. -/
theorem good_box {w0 : Bs} {g : Gh} {S : St} {w : World} (hM : M w0 g S.heap w) (hn : g.ν S.next = none) (e : TypeId) {v : V} {u : Value} (r : V.rel g.ν v u) :
    Good P w0 g S w (Instr.box e u) (.ptr S.next 0) (mkRow e (cellsV v)) := by
  refine Good.new P hM hn 0 (o := .cells u.cells e) (u := .pointer (some ⟨w.heap.size, 0, none⟩)) ?_ ?_ rel_newptr
  · simp [Instr.box, newVar, newRow_run]
  · have := blk_row (c := 0) e (V.rels_mono (Gh.add_ext (k := w.heap.size) (c := 0) hn) _ _ (rel_cells r))
    simpa using this
end
end Go.Proofs.YtmpmbnmldmpmiaaGreatDoor.Sim
set_option linter.unusedVariables false
set_option linter.unusedSimpArgs false
namespace Go.Proofs.YtmpmbnmldmpmiaaGreatDoor.Sim
open Go Go.RowKit
section
variable (P : Program) (T : Nat → Option (List Value))
/-- A fresh variable. -/
def allocX (t : TypeId) : Option Eff := match P.info? t with
  | some i => match i.zero with
    | some z => some (mkRow t (z.cells.toList.map .s))
    | none => none
  | none => none
theorem allocX_good {w0 : Bs} {g : Gh} {S : St} {w : World} (hM : M w0 g S.heap w) (hn : g.ν S.next = none) {t : TypeId} {f : Eff} (h : allocX P t = some f) :
    Good P w0 g S w (Instr.alloc t true (.tuple #[])) (.ptr S.next 0) f := by
  unfold allocX at h
  split at h
  · rename_i i hi
    split at h
    · rename_i z hz
      cases h
      refine Good.new P hM hn 0 (o := .cells z.cells t) (u := .pointer (some ⟨w.heap.size, 0, none⟩)) ?_ ?_ rel_newptr
      · simp [Instr.alloc, run_zeroValue' P hi hz, newVar, newRow_run]
      · have := blk_row (c := 0) (ν := (g.add S.next w.heap.size 0).ν) t (rels_lits z.cells.toList)
        simpa using this
    · cases h
  · cases h
theorem foldl_setRange : ∀ (l : List Value) (off s : Nat) (cs : List Value), off + s + l.length ≤ cs.length →
    (l.zipIdx s).foldl (fun (cs : Array Value) (x : Value × Nat) => cs.setIfInBounds (off + x.2) x.1) cs.toArray = (setRange cs (off + s) l).toArray
  | [], off, s, cs, h => by simp [setRange]
  | v :: l, off, s, cs, h => by
    simp only [List.length_cons] at h
    rw [setRange_cons _ _ _ _ (by omega), List.zipIdx_cons, List.foldl_cons]
    have e : (cs.toArray.setIfInBounds (off + s) v) = (cs.set (off + s) v).toArray := by simp
    simp only [e]
    rw [foldl_setRange l off (s + 1) (cs.set (off + s) v) (by simp; omega)]
    rw [show off + s + 1 = off + (s + 1) by omega]
def fillX (place : Nat → Option (Nat × Nat)) (cells : List V) : List (Nat × V) → Option (List V)
  | [] => some cells
  | (i, v) :: rest => match place i with
    | none => none
    | some (off, size) => bif Nat.beq (cellsV v).length size && Nat.ble (off + (cellsV v).length) cells.length then fillX place (setRange cells off (cellsV v)) rest else none
theorem fillX_spec {ν : Val} (place : Nat → Option (Nat × Nat)) (ev : Operand → V) (ρ : Operand → Value) (hev : ∀ x, V.rel ν (ev x) (ρ x)) :
    ∀ (l : List (Nat × Operand)) (cs : List V) (us : List Value) (r : List V), V.rels ν cs us → fillX place cs (l.map fun p => (p.1, ev p.2)) = some r →
      ∃ xs : List Value, Instr.fill place us.toArray (l.map fun p => (p.1, ρ p.2)) = some xs.toArray ∧ V.rels ν r xs
  | [], cs, us, r, h, k => by
    simp only [List.map_nil, fillX, Option.some.injEq] at k
    subst k
    exact ⟨us, rfl, h⟩
  | (i, x) :: l, cs, us, r, h, k => by
    simp only [List.map_cons, fillX] at k
    split at k
    · cases k
    · rename_i off size hp
      cases hb : (Nat.beq (cellsV (ev x)).length size && Nat.ble (off + (cellsV (ev x)).length) cs.length) with
      | false => rw [hb] at k; cases k
      | true =>
        rw [hb] at k
        simp only [cond_true] at k
        simp only [Bool.and_eq_true] at hb
        have h1 := Nat.eq_of_beq_eq_true hb.1
        have h2 := Nat.le_of_ble_eq_true hb.2
        have hr := rel_cells (hev x)
        have hl := rels_length hr
        have hu := rels_length h
        obtain ⟨xs, h3, h4⟩ := fillX_spec place ev ρ hev l _ _ r (rels_setRange off h hr) k
        refine ⟨xs, ?_, h4⟩
        simp only [List.map_cons, Instr.fill, hp]
        have hs : (ρ x).cells.size = size := by simpa using hl.trans h1
        rw [if_neg (by simp; omega)]
        have := foldl_setRange (ρ x).cells.toList off 0 us (by simp at hl ⊢; omega)
        rw [Nat.add_zero] at this
        rw [← Array.foldl_toList, Array.toList_zipIdx, this]
        exact h3
/-- A struct or an array out of its parts. -/
def buildX (ev : Operand → V) (t : TypeId) (parts : Array (Nat × Operand)) : Option V :=
  match P.info? t, P.underlying t with
  | some i, some d => match i.zero with
    | some z => match d with
      | .struct fields => match purely P (fields.mapM fun f => do pure (f.offset, ← sizeOf f.type)) with
        | some places => match fillX (fun i => places[i]?) (z.cells.toList.map .s) (parts.toList.map fun p => (p.1, ev p.2)) with
          | some l => some (mkAgg l)
          | none => none
        | none => none
      | .array _ elem => match P.info? elem with
        | some ie => match fillX (fun i => some (i * ie.size, ie.size)) (z.cells.toList.map .s) (parts.toList.map fun p => (p.1, ev p.2)) with
          | some l => some (mkAgg l)
          | none => none
        | none => none
      | _ => none
    | none => none
  | _, _ => none
theorem map_parts (ρ : Operand → Value) (parts : Array (Nat × Operand)) : (parts.map fun (x : Nat × Operand) => match x with | (i, x) => (i, ρ x)).toList = parts.toList.map fun p => (p.1, ρ p.2) := by
  simp
theorem buildX_good {w0 : Bs} {g : Gh} {S : St} {w : World} (hM : M w0 g S.heap w) {ev : Operand → V} {ρ : Operand → Value} (hev : ∀ x, V.rel g.ν (ev x) (ρ x)) {t : TypeId} {parts : Array (Nat × Operand)} {v : V} (h : buildX P ev t parts = some v) :
    Good P w0 g S w (Instr.build t (parts.map fun (i, x) => (i, ρ x))) v .no := by
  unfold buildX at h
  split at h
  · rename_i i d hi hd
    split at h
    · rename_i z hz
      split at h
      · rename_i fields
        split at h
        · rename_i places hp
          split at h
          · rename_i l hl
            cases h
            obtain ⟨xs, h1, h2⟩ := fillX_spec _ ev ρ hev _ _ _ _ (rels_lits z.cells.toList) hl
            refine Good.no P hM (u := .agg xs.toArray) ?_ (mkAgg_rel h2)
            have h1' : Instr.fill (fun i => places[i]?) z.cells (List.map (fun p => (p.1, ρ p.2)) parts.toList) = some xs.toArray := by simpa using h1
            have hp' := purely_run hp w
            simp only [Instr.build, Sem.run_bind, run_zeroValue' P hi hz, Result.andThen_ok, run_underlying hd, hp', map_parts, h1', Sem.run_pure]
          · cases h
        · cases h
      · rename_i n elem
        split at h
        · rename_i ie hie
          split at h
          · rename_i l hl
            cases h
            obtain ⟨xs, h1, h2⟩ := fillX_spec _ ev ρ hev _ _ _ _ (rels_lits z.cells.toList) hl
            refine Good.no P hM (u := .agg xs.toArray) ?_ (mkAgg_rel h2)
            have h1' : Instr.fill (fun i => some (i * ie.size, ie.size)) z.cells (List.map (fun p => (p.1, ρ p.2)) parts.toList) = some xs.toArray := by simpa using h1
            simp only [Instr.build, Sem.run_bind, run_zeroValue' P hi hz, Result.andThen_ok, run_underlying hd, run_sizeOf' P hie, map_parts, h1', Sem.run_pure]
          · cases h
        · cases h
      · cases h
    · cases h
  · cases h
/-- So many cells of zeros. -/
def zeros (z : Array Value) (n : Nat) : List V := (List.range n).map fun i => .s (z[i % z.size]!)
theorem zeros_rels {ν : Val} (z : Array Value) (n : Nat) : V.rels ν (zeros z n) ((Array.range n).map (fun i => z[i % z.size]!)).toList := by
  have := rels_lits (ν := ν) ((List.range n).map (fun i => z[i % z.size]!))
  rw [List.map_map] at this
  simpa [zeros, Function.comp_def] using this
def buildSliceX (ev : Operand → V) (t : TypeId) (len : Nat) (parts : Array (Nat × Operand)) : Option Eff :=
  match P.underlying t with
  | some (.slice elem) => match P.info? elem with
    | some ie => match ie.zero with
      | some z => bif Nat.ble (len * ie.size) 16777216 then
          match fillX (fun i => some (i * ie.size, ie.size)) (zeros z.cells (len * ie.size)) (parts.toList.map fun p => (p.1, ev p.2)) with
          | some l => some (mkRow elem l)
          | none => none
        else none
      | none => none
    | none => none
  | _ => none
theorem buildSliceX_good {w0 : Bs} {g : Gh} {S : St} {w : World} (hM : M w0 g S.heap w) (hn : g.ν S.next = none) {ev : Operand → V} {ρ : Operand → Value} (hev : ∀ x, V.rel g.ν (ev x) (ρ x)) {t : TypeId} {len : Nat} {parts : Array (Nat × Operand)} {f : Eff} (h : buildSliceX P ev t len parts = some f) :
    Good P w0 g S w (Instr.buildSlice t len (parts.map fun (i, x) => (i, ρ x))) (.slc S.next 0 len (some len)) f := by
  unfold buildSliceX at h
  split at h
  · rename_i elem hd
    split at h
    · rename_i ie hie
      split at h
      · rename_i z hz
        cases hb : Nat.ble (len * ie.size) 16777216 with
        | false => rw [hb] at h; cases h
        | true =>
          rw [hb] at h
          simp only [cond_true] at h
          split at h
          · rename_i l hl
            cases h
            have hb' := Nat.le_of_ble_eq_true hb
            obtain ⟨xs, h1, h2⟩ := fillX_spec _ ev ρ hev _ _ _ _ (zeros_rels z.cells _) hl
            refine Good.new P hM hn 0 (o := .cells xs.toArray elem) (u := .slice (some ⟨w.heap.size, 0, none⟩) len len) ?_ (blk_row (c := 0) elem (V.rels_mono (Gh.add_ext hn) _ _ h2)) rel_newslc
            have hz0 : ∀ n, n = 0 → (Array.range n).map (fun i => (#[] : Array Value)[i % (#[] : Array Value).size]!) = (Array.range n).map (fun i => z.cells[i % z.cells.size]!) := fun n hn => by subst hn; simp
            have h1' : Instr.fill (fun i => some (i * ie.size, ie.size)) ((Array.range (len * ie.size)).map (fun i => z.cells[i % z.cells.size]!)) (List.map (fun p => (p.1, ρ p.2)) parts.toList) = some xs.toArray := by rw [Array.toArray_toList] at h1; exact h1
            simp only [Instr.buildSlice, Sem.run_bind, run_underlying hd, Result.andThen_ok, run_sizeOf' P hie, map_parts]
            rw [if_neg (by omega)]
            by_cases h0 : len * ie.size = 0
            · simp only [h0, if_true, Sem.run_bind, Sem.run_pure, Result.andThen_ok]
              rw [h0] at h1'
              have e := hz0 0 rfl
              rw [e, h1']
              simp [newRow_run]
            · simp only [h0, if_false, Sem.run_bind, run_zeroValue' P hie hz, Sem.run_pure, Result.andThen_ok, h1', newRow_run]
          · cases h
      · cases h
    · cases h
  · cases h
def makeSliceX (t : TypeId) (l c : V) : Option (Eff × Nat × Nat) :=
  match P.underlying t, l, c with
  | some (.slice elem), .s (.int .i64 l), .s (.int .i64 c) => match P.info? elem with
    | some ie => match ie.zero with
      | some z => bif decide (0 ≤ l) && decide (l ≤ c) && decide (c ≤ 281474976710656) && Nat.ble (ie.bytes * c.toNat) 281474976710656 then some (mkRow elem (zeros z.cells (c.toNat * ie.size)), l.toNat, c.toNat) else none
      | none => none
    | none => none
  | _, _, _ => none
theorem wrap_small (n : Int) (h0 : 0 ≤ n) (h1 : n ≤ 281474976710656) : IntKind.i64.wrap n = n := by
  have e : n % (2 : Int) ^ 64 = n := Int.emod_eq_of_lt h0 (by omega)
  simp only [IntKind.wrap, show IntKind.i64.bits = 64 from rfl, show IntKind.i64.signed = true from rfl, e]
  rw [if_neg (by simp; omega)]
theorem makeSliceX_good {w0 : Bs} {g : Gh} {S : St} {w : World} (hM : M w0 g S.heap w) (hn : g.ν S.next = none) {t : TypeId} {l c : V} {x y : Value} (rl : V.rel g.ν l x) (rc : V.rel g.ν c y) {f : Eff} {m n : Nat} (h : makeSliceX P t l c = some (f, m, n)) :
    Good P w0 g S w (Instr.makeSlice t x y) (.slc S.next 0 m (some n)) f := by
  unfold makeSliceX at h
  split at h
  · rename_i elem l c hd
    simp only [V.rel] at rl rc
    subst rl
    subst rc
    split at h
    · rename_i ie hie
      split at h
      · rename_i z hz
        cases hb : (decide (0 ≤ l) && decide (l ≤ c) && decide (c ≤ 281474976710656) && Nat.ble (ie.bytes * c.toNat) 281474976710656) with
        | false => rw [hb] at h; cases h
        | true =>
          rw [hb] at h
          simp only [cond_true, Option.some.injEq, Prod.mk.injEq] at h
          obtain ⟨rfl, rfl, rfl⟩ := h
          simp only [Bool.and_eq_true, decide_eq_true_eq] at hb
          obtain ⟨⟨⟨h0, h1⟩, h2⟩, h3⟩ := hb
          have h3 := Nat.le_of_ble_eq_true h3
          have hw1 := wrap_small l h0 (by omega)
          have hw2 := wrap_small c (by omega) h2
          refine Good.new P hM hn 0 (o := .cells ((Array.range (c.toNat * ie.size)).map (fun i => z.cells[i % z.cells.size]!)) elem) (u := .slice (some ⟨w.heap.size, 0, none⟩) l.toNat c.toNat) ?_ ?_ rel_newslc
          · have hbig : ¬ ((ie.bytes : Int) * c > 2 ^ 48) := by
              have hc : c = (c.toNat : Int) := by omega
              rw [hc, ← Int.natCast_mul]
              omega
            have hbig' : ¬ (281474976710656 < (ie.bytes : Int) * c) := by simpa using hbig
            simp only [Instr.makeSlice, Sem.run_bind, run_underlying hd, Result.andThen_ok, asInt, asIntOf, Sem.run_pure, typeInfo, run_program, hie, hw1, hw2]
            simp only [show ¬ (l < 0) by omega, show ¬ (c < 0) by omega, hbig', show ¬ (l > c) by omega, decide_false, Bool.or_false, Bool.false_or, Int.reducePow, gt_iff_lt, Bool.false_eq_true, if_false, run_askRoom, Result.andThen_ok, Sem.run_pure, Sem.run_bind, run_sizeOf' P hie, show ¬ (c < l) by omega, or_self, or_false, false_or]
            by_cases h00 : c.toNat * ie.size = 0
            · simp only [h00, if_true, Sem.run_pure, Result.andThen_ok]
              have : (Array.range 0).map (fun i => (#[] : Array Value)[i % (#[] : Array Value).size]!) = (Array.range 0).map (fun i => z.cells[i % z.cells.size]!) := by simp
              simp only [Sem.run_bind, newRow_run, Result.andThen_ok, Sem.run_pure, this]
            · simp only [h00, if_false, Sem.run_bind, run_zeroValue' P hie hz, Sem.run_pure, Result.andThen_ok, newRow_run]
          · have := blk_row (c := 0) (ν := (g.add S.next w.heap.size 0).ν) elem (zeros_rels z.cells (c.toNat * ie.size))
            rw [Array.toArray_toList] at this
            exact this
      · cases h
    · cases h
  · cases h
/-- The head of a slice whose room is not known. -/
def headX (t : TypeId) (id : Nat) (lo hi mx : Option Value) (H : Heap) : Option V := match P.underlying t, lo, hi, mx with
  | some (.slice elem), none, some (.int .i64 h), none => match P.info? elem, find id H with
    | some ie, some (.row cs _ (some k) _) => bif Nat.beq k ie.size && Nat.blt 0 k && decide (0 ≤ h) && Nat.ble (h.toNat * k) cs.length then some (.slc id 0 h.toNat none) else none
    | _, _ => none
  | _, _, _, _ => none
def lowO : Option Value → Option Nat
  | none => some 0
  | some (.int _ n) => bif decide (0 ≤ n) then some n.toNat else none
  | _ => none
def highO (len : Nat) : Option Value → Option Nat
  | none => some len
  | some (.int _ n) => bif decide (0 ≤ n) then some n.toNat else none
  | _ => none
/-- A part that lies within the length. -/
def cutX (t : TypeId) (id off len : Nat) (lo hi mx : Option Value) (H : Heap) (ok : Bool) : Option V := match P.underlying t, mx with
  | some (.slice elem), none => match P.info? elem, lowO lo, highO len hi with
    | some ie, some l, some h => bif ok && Nat.ble l h && Nat.ble h len && Nat.blt l len then some (.slu id (off + l * ie.size) (h - l)) else none
    | _, _, _ => none
  | _, _ => none
/-- A part of a slice. -/
def sliceX (t : TypeId) (x : V) (lo hi mx : Option Value) (H : Heap) : Option V :=
  match x with
  | .s x => match purely P (Instr.sliceAt t x lo hi mx) with
    | some v => some (.s v)
    | none => none
  | .slc id off len (some c) => match P.underlying t with
    | some (.slice elem) => match P.info? elem, purely P (Instr.sliceBounds true len c lo hi mx) with
      | some ie, some (l, h, m) => some (.slc id (bif Nat.beq m l then off else off + l * ie.size) (h - l) (some (m - l)))
      | _, _ => none
    | _ => none
  | .slc id 0 len none => match headX P t id lo hi mx H with
    | some v => some v
    | none => cutX P t id 0 len lo hi mx H (match P.underlying t with
    | some (.slice elem) => match P.info? elem, find id H with
      | some ie, some (.row cs _ (some k) _) => Nat.beq k ie.size && Nat.blt 0 k && Nat.ble (len * k) cs.length
      | _, _ => false
    | _ => false)
  | .slu id off len => cutX P t id off len lo hi mx H true
  | .ptr id off => match P.underlying t with
    | some (.array n elem) => match P.info? elem, purely P (Instr.sliceBounds false n n lo hi mx) with
      | some ie, some (l, h, m) => some (.slc id (bif Nat.beq m l then off else off + l * ie.size) (h - l) (some (m - l)))
      | _, _ => none
    | _ => none
  | _ => none
theorem beq_ite {α : Type} (m l : Nat) (a b : α) : (bif Nat.beq m l then a else b) = if m = l then a else b := by
  cases h : Nat.beq m l with
  | true => simp [Nat.eq_of_beq_eq_true h]
  | false =>
    have : m ≠ l := fun e => by subst e; simp at h
    simp [this]
theorem headX_good {w0 : Bs} {g : Gh} {S : St} {w : World} (hM : M w0 g S.heap w) {t : TypeId} {id len : Nat} {v : V} {u : Value} (r : V.rel g.ν (.slc id 0 len none) u) {lo hi mx : Option Value} (h : headX P t id lo hi mx S.heap = some v) :
    Good P w0 g S w (Instr.sliceAt t u lo hi mx) v .no := by
  unfold headX at h
  simp only [V.rel] at r
  obtain ⟨k, c', hk, rfl⟩ := r
  split at h
  · rename_i elem hh hd
    split at h
    · rename_i ie cs e q fz hie hf
      cases hb : (Nat.beq q ie.size && Nat.blt 0 q && decide (0 ≤ hh) && Nat.ble (hh.toNat * q) cs.length) with
      | false => rw [hb] at h; cases h
      | true =>
        rw [hb] at h
        simp only [cond_true, Option.some.injEq] at h
        subst h
        simp only [Bool.and_eq_true, decide_eq_true_eq] at hb
        obtain ⟨⟨⟨h1, h2⟩, h3⟩, h4⟩ := hb
        have h1 := Nat.eq_of_beq_eq_true h1
        have h2 : 0 < q := by unfold Nat.blt at h2; exact Nat.le_of_ble_eq_true h2
        have h4 := Nat.le_of_ble_eq_true h4
        obtain ⟨k2, c2, o, e1, e2, e3, xs, ys, fr, e4, rfl, _, e5⟩ := hM.blk _ _ hf
        rw [hk] at e1
        cases e1
        have hle : hh.toNat ≤ c' := by
          have hx := rels_length e4
          have : hh.toNat * q ≤ c' * q := by simp only [] at e5; omega
          exact Nat.le_of_mul_le_mul_right this h2
        refine Good.no P hM (u := .slice (some ⟨k, 0, none⟩) hh.toNat c') ?_ ⟨k, c', hk, rfl⟩
        have hle' : 0 ≤ hh ∧ hh ≤ (c' : Int) := ⟨h3, by omega⟩
        simp only [Instr.sliceAt, Sem.run_bind, run_underlying hd, Result.andThen_ok, Instr.slice, Option.getD_none, Instr.sliceBounds, Instr.sliceBound, asIntOf, Sem.run_pure, if_pos hle', Option.isSome_none, Bool.false_eq_true, if_true, run_sizeOf' P hie, Option.map_some, Nat.sub_zero]
        by_cases e0 : c' = 0
        · simp [e0]
        · simp [e0, add_eq]
    · cases h
  · cases h
theorem bound_run {v : Value} {n y : Nat} (h : lowO (some v) = some n) (hle : n ≤ y) (code : BoundsCode) (w : World) : (Instr.sliceBound v y code).run P w = .ok n w := by
  cases v with
  | int kk m =>
    have h : (bif decide (0 ≤ m) then some m.toNat else none) = some n := h
    cases hb : decide (0 ≤ m) with
    | false => rw [hb] at h; cases h
    | true =>
      rw [hb] at h
      cases h
      have h0 : 0 ≤ m := of_decide_eq_true hb
      have hc : 0 ≤ m ∧ m ≤ (y : Int) := ⟨h0, by omega⟩
      simp only [Instr.sliceBound, asIntOf, Sem.run_bind, Sem.run_pure, Result.andThen_ok, if_pos hc]
  | _ => cases h
theorem cutX_run {ie : TypeInfo} {elem t : TypeId} {lo hi : Option Value} {l h len cp : Nat} (hd : P.underlying t = some (.slice elem)) (hie : P.info? elem = some ie) (hl : lowO lo = some l) (hh : highO len hi = some h) (h1 : l ≤ h) (h2 : h ≤ len) (h3 : l < len) (h4 : len ≤ cp) (k off : Nat) (w : World) :
    (Instr.sliceAt t (.slice (some ⟨k, off, none⟩) len cp) lo hi none).run P w = .ok (.slice (some ⟨k, off + l * ie.size, none⟩) (h - l) (cp - l)) w := by
  have hne : ¬ cp = l := by omega
  have hsb : (Instr.sliceBounds true len cp lo hi none).run P w = .ok (l, h, cp) w := by
    cases hi with
    | none =>
      cases hh
      cases lo with
      | none => cases hl; rfl
      | some v => simp only [Instr.sliceBounds, Sem.run_bind, Sem.run_pure, Result.andThen_ok, Option.isSome_none, Bool.false_eq_true, if_false, bound_run P hl h1]
    | some x =>
      have hx : lowO (some x) = some h := by
        cases x <;> exact hh
      cases lo with
      | none => cases hl; simp only [Instr.sliceBounds, Sem.run_bind, Sem.run_pure, Result.andThen_ok, if_true, bound_run P hx (Nat.le_trans h2 h4)]
      | some v => simp only [Instr.sliceBounds, Sem.run_bind, Sem.run_pure, Result.andThen_ok, Option.isSome_none, Bool.false_eq_true, if_false, if_true, bound_run P hl h1, bound_run P hx (Nat.le_trans h2 h4)]
  simp only [Instr.sliceAt, Sem.run_bind, run_underlying hd, Result.andThen_ok, Instr.slice, hsb, run_sizeOf' P hie, Sem.run_pure, if_neg hne, Option.map_some, add_eq]
theorem cutX_good {w0 : Bs} {g : Gh} {S : St} {w : World} (hM : M w0 g S.heap w) {t : TypeId} {id off len : Nat} {v : V} {lo hi mx : Option Value} {ok : Bool} (h : cutX P t id off len lo hi mx S.heap ok = some v) {k c cp : Nat} (hk : g.ν id = some (k, c)) (hcp : ok = true → len ≤ cp) :
    Good P w0 g S w (Instr.sliceAt t (.slice (some ⟨k, off, none⟩) len cp) lo hi mx) v .no := by
  unfold cutX at h
  split at h
  rotate_left
  · cases h
  rename_i elem hd
  split at h
  rotate_left
  · cases h
  rename_i ie l hh hie hl hhi
  cases hb : (ok && Nat.ble l hh && Nat.ble hh len && Nat.blt l len) with
  | false => rw [hb] at h; cases h
  | true =>
    rw [hb] at h
    cases h
    simp only [Bool.and_eq_true] at hb
    obtain ⟨⟨⟨b0, b1⟩, b2⟩, b3⟩ := hb
    have b1 := Nat.le_of_ble_eq_true b1
    have b2 := Nat.le_of_ble_eq_true b2
    have b3 : l < len := by unfold Nat.blt at b3; exact Nat.le_of_ble_eq_true b3
    refine Good.no P hM (cutX_run P hd hie hl hhi b1 b2 b3 (hcp b0) k off w) ?_
    simp only [V.rel]
    exact ⟨k, c, cp - l, hk, by have := hcp b0; omega, rfl⟩
theorem sliceX_good {w0 : Bs} {g : Gh} {S : St} {w : World} (hM : M w0 g S.heap w) {t : TypeId} {x v : V} {u : Value} (r : V.rel g.ν x u) {lo hi mx : Option Value} (h : sliceX P t x lo hi mx S.heap = some v) :
    Good P w0 g S w (Instr.sliceAt t u lo hi mx) v .no := by
  unfold sliceX at h
  split at h
  · split at h
    · rename_i y hy
      cases h
      simp only [V.rel] at r
      subst r
      exact Good.no P hM (purely_run hy w) (by simp only [V.rel])
    · cases h
  · rename_i id off len c
    simp only [V.rel] at r
    obtain ⟨k, c', hk, rfl⟩ := r
    split at h
    · rename_i elem hd
      split at h
      · rename_i ie l hh m hie hp
        cases h
        refine Good.no P hM (u := .slice (if m = l then some ⟨k, off, none⟩ else some (Addr.add ⟨k, off, none⟩ (l * ie.size))) (hh - l) (m - l)) ?_ ?_
        · simp only [Instr.sliceAt, Sem.run_bind, run_underlying hd, Result.andThen_ok, Instr.slice, Option.getD_some, purely_run hp w, run_sizeOf' P hie, Sem.run_pure, Option.map_some]
        · simp only [V.rel, beq_ite]
          refine ⟨k, c', hk, ?_⟩
          by_cases e : m = l
          · simp [e]
          · simp [e, add_eq]
      · cases h
    · cases h
  · rename_i id len
    have r0 := r
    split at h
    · rename_i y hy
      cases h
      exact headX_good P hM r0 hy
    · simp only [V.rel] at r
      obtain ⟨k, c', hk, rfl⟩ := r
      refine cutX_good P hM h hk fun hok => ?_
      split at hok
      · rename_i elem hd
        split at hok
        · rename_i ie cs e q fz hie hf
          simp only [Bool.and_eq_true] at hok
          obtain ⟨⟨h1, h2⟩, h4⟩ := hok
          have h2 : 0 < q := by unfold Nat.blt at h2; exact Nat.le_of_ble_eq_true h2
          have h4 := Nat.le_of_ble_eq_true h4
          obtain ⟨k2, c2, o, e1, e2, e3, xs, ys, fr, e4, rfl, _, e5⟩ := hM.blk _ _ hf
          rw [hk] at e1
          cases e1
          have hx := rels_length e4
          have : len * q ≤ c' * q := by simp only [] at e5; omega
          exact Nat.le_of_mul_le_mul_right this h2
        · cases hok
      · cases hok
  · rename_i id off len
    simp only [V.rel] at r
    obtain ⟨k, c', cp, hk, hcp, rfl⟩ := r
    exact cutX_good P hM h hk fun _ => hcp
  · rename_i id off
    simp only [V.rel] at r
    obtain ⟨k, c', hk, rfl⟩ := r
    split at h
    · rename_i n elem hd
      split at h
      · rename_i ie l hh m hie hp
        cases h
        refine Good.no P hM (u := .slice (some (if m = l then ⟨k, off, none⟩ else Addr.add ⟨k, off, none⟩ (l * ie.size))) (hh - l) (m - l)) ?_ ?_
        · simp only [Instr.sliceAt, Sem.run_bind, run_underlying hd, Result.andThen_ok, Instr.sureAddr, purely_run hp w, run_sizeOf' P hie, Sem.run_pure]
        · simp only [V.rel, beq_ite]
          refine ⟨k, c', hk, ?_⟩
          by_cases e : m = l
          · simp [e]
          · simp [e, add_eq]
      · cases h
    · cases h
  · cases h
end
end Go.Proofs.YtmpmbnmldmpmiaaGreatDoor.Sim
set_option linter.unusedVariables false
set_option linter.unusedSimpArgs false
namespace Go.Proofs.YtmpmbnmldmpmiaaGreatDoor.Sim
open Go Go.RowKit
section
variable (P : Program) (T : Nat → Option (List Value))
/-- So many elements of a slice or a string. -/
def srcX (size : Nat) (x : V) (H : Heap) : Option (Nat × List V) := match x with
  | .slc id off n _ => match find id H with
    | some (.row cs _ _ _) => bif Nat.beq ((cs.drop off).take (n * size)).length (n * size) then some (n, (cs.drop off).take (n * size)) else none
    | _ => none
  | .slu id off n => match find id H with
    | some (.row cs _ _ _) => bif Nat.beq ((cs.drop off).take (n * size)).length (n * size) then some (n, (cs.drop off).take (n * size)) else none
    | _ => none
  | .s (.string b) => some (b.size, b.data.toList.map fun c => .s (.int .u8 c.toNat))
  | .s (.slice a n _) => bif Nat.beq n 0 then some (0, []) else match a with
    | some ⟨k, off, none⟩ => match T k with
      | some cs => bif Nat.beq ((cs.drop off).take (n * size)).length (n * size) then some (n, ((cs.drop off).take (n * size)).map .s) else none
      | none => none
    | _ => none
  | _ => none
theorem srcX_spec {w0 : Bs} (hT : Tab T w0) {g : Gh} {H : Heap} {w : World} (hM : M w0 g H w) {size n : Nat} {x : V} {u : Value} {l : List V} (h : srcX T size x H = some (n, l)) (r : V.rel g.ν x u) :
    (∀ w', (Builtin.lenOf u).run P w' = .ok n w') ∧ ∃ xs, (∀ d, (Builtin.firstCells size n u).run P { w with drawn := d } = .ok xs.toArray { w with drawn := d }) ∧ V.rels g.ν l xs := by
  unfold srcX at h
  split at h
  · rename_i id off m cap
    split at h
    · rename_i cs e tl fz hf
      cases hb : Nat.beq ((cs.drop off).take (m * size)).length (m * size) with
      | false => rw [hb] at h; cases h
      | true =>
        rw [hb] at h
        simp only [cond_true, Option.some.injEq, Prod.mk.injEq] at h
        obtain ⟨rfl, rfl⟩ := h
        have hb := Nat.eq_of_beq_eq_true hb
        simp only [V.rel] at r
        obtain ⟨k, c, hk, rfl⟩ := r
        refine ⟨fun w' => rfl, ?_⟩
        obtain ⟨k', c', o, h1, h2, h3, xs, ys, fr, h4, rfl, _⟩ := hM.blk _ _ hf
        rw [hk] at h1
        cases h1
        have hr := rels_take (m * size) (rels_drop off h4)
        refine ⟨_, fun d => ?_, hr⟩
        have hl := rels_length hr
        have := run_loadCells_list (P := P) (w := { w with drawn := d }) ⟨k, off, none⟩ ((xs.drop off).take (m * size)) (fun j x hj => by
          have hj' := (List.getElem?_eq_some_iff.1 hj).1
          rw [List.getElem?_take_of_lt (by omega), List.getElem?_drop] at hj
          have hlt := (List.getElem?_eq_some_iff.1 hj).1
          rw [add_eq]
          simp only [World.cell?, h3]
          simpa [List.getElem?_append_left hlt] using hj)
        rw [hl, hb] at this
        exact this
    · cases h
  · rename_i id off m
    split at h
    · rename_i cs e tl fz hf
      cases hb : Nat.beq ((cs.drop off).take (m * size)).length (m * size) with
      | false => rw [hb] at h; cases h
      | true =>
        rw [hb] at h
        simp only [cond_true, Option.some.injEq, Prod.mk.injEq] at h
        obtain ⟨rfl, rfl⟩ := h
        have hb := Nat.eq_of_beq_eq_true hb
        simp only [V.rel] at r
        obtain ⟨k, c, cp, hk, _, rfl⟩ := r
        refine ⟨fun w' => rfl, ?_⟩
        obtain ⟨k', c', o, h1, h2, h3, xs, ys, fr, h4, rfl, _⟩ := hM.blk _ _ hf
        rw [hk] at h1
        cases h1
        have hr := rels_take (m * size) (rels_drop off h4)
        refine ⟨_, fun d => ?_, hr⟩
        have hl := rels_length hr
        have := run_loadCells_list (P := P) (w := { w with drawn := d }) ⟨k, off, none⟩ ((xs.drop off).take (m * size)) (fun j x hj => by
          have hj' := (List.getElem?_eq_some_iff.1 hj).1
          rw [List.getElem?_take_of_lt (by omega), List.getElem?_drop] at hj
          have hlt := (List.getElem?_eq_some_iff.1 hj).1
          rw [add_eq]
          simp only [World.cell?, h3]
          simpa [List.getElem?_append_left hlt] using hj)
        rw [hl, hb] at this
        exact this
    · cases h
  · rename_i b
    cases h
    simp only [V.rel] at r
    subst r
    refine ⟨fun w' => rfl, b.data.toList.map fun c => .int .u8 c.toNat, fun d => ?_, ?_⟩
    · simp only [Builtin.firstCells, ByteArray.extract_zero_size, Sem.run_pure]
      rw [← Array.toList_map, Array.toArray_toList]
    · have := rels_lits (ν := g.ν) (b.data.toList.map fun c => Value.int .u8 c.toNat)
      rw [List.map_map] at this
      simpa [Function.comp_def] using this
  · rename_i ad m cp
    simp only [V.rel] at r
    subst r
    cases hm0 : Nat.beq m 0 with
    | true =>
      rw [hm0] at h
      simp only [cond_true, Option.some.injEq, Prod.mk.injEq] at h
      obtain ⟨rfl, rfl⟩ := h
      have := Nat.eq_of_beq_eq_true hm0
      subst this
      refine ⟨fun w' => rfl, [], fun d => ?_, rels_nil⟩
      cases ad with
      | none => rfl
      | some a =>
        have := run_loadCells_list (P := P) (w := { w with drawn := d }) a [] (fun j x hj => by simp at hj)
        simp only [Builtin.firstCells, Nat.zero_mul]
        simpa using this
    | false =>
    rw [hm0] at h
    simp only [cond_false] at h
    split at h
    rotate_left
    · cases h
    rename_i k off
    split at h
    · rename_i cs hk
      cases hb : Nat.beq ((cs.drop off).take (m * size)).length (m * size) with
      | false => rw [hb] at h; cases h
      | true =>
        rw [hb] at h
        simp only [cond_true, Option.some.injEq, Prod.mk.injEq] at h
        obtain ⟨rfl, rfl⟩ := h
        have hb := Nat.eq_of_beq_eq_true hb
        obtain ⟨hne, e, fr, hcell⟩ := hT _ _ hk
        have hcell := hM.base.fast k _ e fr hcell (by simpa using hne)
        refine ⟨fun w' => rfl, (cs.drop off).take (m * size), fun d => ?_, rels_lits _⟩
        have := run_loadCells_list (P := P) (w := { w with drawn := d }) ⟨k, off, none⟩ ((cs.drop off).take (m * size)) (fun j x hj => by
          have hj' := (List.getElem?_eq_some_iff.1 hj).1
          rw [List.getElem?_take_of_lt (by omega), List.getElem?_drop] at hj
          rw [add_eq]
          simp only [World.cell?, hcell]
          simpa using hj)
        rw [hb] at this
        exact this
    · cases h
  · cases h
theorem nsc_le (need c : Nat) (h : c ≤ need) : Builtin.nextslicecap need c ≤ need + need / 4 + 600 := by
  unfold Builtin.nextslicecap
  split
  · omega
  · split
    · omega
    · simp only [Builtin.growBy]
      repeat' split
      all_goals omega
/-- Is there room for a row of so many? -/
def roomOk (bytes need : Nat) : Bool := Nat.ble ((need + need / 4 + 600) * bytes) 281474976710656 && Nat.ble need 4611686018427387904
theorem roomOk_spec {bytes need : Nat} (h : roomOk bytes need = true) : (need + need / 4 + 600) * bytes ≤ 281474976710656 ∧ need ≤ 4611686018427387904 := by
  simp only [roomOk, Bool.and_eq_true] at h
  exact ⟨Nat.le_of_ble_eq_true h.1, Nat.le_of_ble_eq_true h.2⟩
section runs
variable {P} {w : World} {ats : Array TypeId} {ty sT xT elem : TypeId} {ie : TypeInfo} {d : TypeDesc} (hs : ats[0]? = some sT) (hx : ats[1]? = some xT) (hd : P.underlying sT = some (.slice elem)) (hi : P.info? elem = some ie) (hxd : P.underlying xT = some d)
  (hz : ∀ k, d ≠ .int k) {args : Array Value} {base : Option Addr} {l c n : Nat} {y : Value} (ha : args[0]? = some (.slice base l c)) (hb : args[1]? = some y) (hn : ∀ w', (Builtin.lenOf y).run P w' = .ok n w')
include hs hx hd hi hxd hz ha hb hn
theorem append_room {xs : List Value} (h : l + n ≤ c) (hf : (Builtin.firstCells ie.size n y).run P w = .ok xs.toArray w) {w' : World} (hst : match base with
    | some a => (storeCells (a.add (l * ie.size)) xs).run P w = .ok () w'
    | none => w' = w) : (Builtin.append_ ats ty args).run P w = .ok (.slice base (l + n) c) w' := by
  cases d with
  | int k => exact absurd rfl (hz k)
  | _ =>
    simp only [Builtin.append_, hs, hx, ha, hb, Sem.run_bind, run_underlying hd, Result.andThen_ok, run_sizeOf' P hi, run_underlying hxd, Sem.run_pure, Bool.false_eq_true, if_false, hn, if_pos h, Bool.not_false, if_true, hf]
    cases base with
    | none => simp only at hst; subst hst; rfl
    | some a => simp only at hst ⊢; simp only [Sem.run_bind, hst, Result.andThen_ok, Sem.run_pure]
theorem append_grow {os xs : List Value} {z : Value} (hzv : ie.zero = some z) (h : ¬ l + n ≤ c) (hlc : l ≤ l + n) (h2 : roomOk ie.bytes (l + n) = true) (ho : (Builtin.firstCells ie.size l (.slice base l c)).run P { w with drawn := w.drawn + 1 } = .ok os.toArray { w with drawn := w.drawn + 1 }) (hf : (Builtin.firstCells ie.size n y).run P { w with drawn := w.drawn + 1 } = .ok xs.toArray { w with drawn := w.drawn + 1 }) :
    ∃ nc, l + n ≤ nc ∧ (Builtin.append_ ats ty args).run P w = .ok (.slice (some ⟨w.heap.size, 0, none⟩) (l + n) nc) (({ w with drawn := w.drawn + 1 } : World).alloc (.cells (os.toArray ++ xs.toArray ++ Builtin.zeroCells z.cells (nc - (l + n))) elem)) := by
  refine ⟨(l + n) + w.tape w.drawn (.appendCap (l + n) c elem) % (2 ^ 63 - (l + n)), by omega, ?_⟩
  obtain ⟨hr1, h1⟩ := roomOk_spec h2
  have hbig : ¬ (((l + n : Nat) : Int) > IntKind.i64.max ∧ ((false = true) ∨ ie.bytes = 0)) := by
    rintro ⟨e, _⟩
    have : IntKind.i64.max = 9223372036854775807 := by decide
    omega
  have hcap : ¬ Builtin.nextslicecap (l + n) c * ie.bytes > 2 ^ 48 := by
    have h3 := nsc_le (l + n) c (by omega)
    have : Builtin.nextslicecap (l + n) c * ie.bytes ≤ (l + n + (l + n) / 4 + 600) * ie.bytes := Nat.mul_le_mul_right _ h3
    omega
  have hzv' := run_zeroValue' P hi hzv
  cases d with
  | int k => exact absurd rfl (hz k)
  | _ =>
    simp only [Builtin.append_, hs, hx, ha, hb, Sem.run_bind, run_underlying hd, Result.andThen_ok, run_sizeOf' P hi, run_underlying hxd, Sem.run_pure, Bool.false_eq_true, if_false, hn, if_neg h, Bool.not_false, if_true, run_typeInfo' P hi]
    rw [if_neg (by simpa using hbig)]
    simp only [Sem.run_bind, Sem.run_pure, Result.andThen_ok, run_typeInfo' P hi]
    rw [if_neg hcap]
    simp only [Sem.run_bind, Sem.run_pure, Result.andThen_ok, run_typeInfo' P hi, run_choose, Question.forced, Bool.false_eq_true, if_false, Question.cut, run_askRoom, ho, hf, hzv', newRow_run]
end runs
theorem rows_join (os xs : List Value) (z : Array Value) : os.toArray ++ xs.toArray ++ z = ((os ++ xs) ++ z.toList).toArray := by
  apply Array.ext'
  simp
theorem zeroCells_size (z : Array Value) (n : Nat) : (Builtin.zeroCells z n).toList.length = n * z.size := by simp [Builtin.zeroCells]
def isIntD : TypeDesc → Bool
  | .int _ => true
  | _ => false
/-- append: what is appended. -/
def appendHead (ats : Array TypeId) (x : V) (S : St) : Option (TypeId × TypeInfo × Nat × List V) :=
  match ats[0]?, ats[1]? with
  | some sT, some xT => match P.underlying sT, P.underlying xT with
    | some (.slice elem), some d => match P.info? elem with
      | some ie => match ie.zero, srcX T ie.size x S.heap with
        | some z, some (n, l) => bif !isIntD d && Nat.beq z.cells.size ie.size && Nat.beq l.length (n * ie.size) then some (elem, ie, n, l) else none
        | _, _ => none
      | none => none
    | _, _ => none
  | _, _ => none
/-- append: what it answers. -/
def appendIn (elem : TypeId) (ie : TypeInfo) (n : Nat) (l : List V) (s : V) (S : St) : Option (V × Eff) := match s with
  | .s (.slice none 0 0) => bif Nat.beq n 0 then some (.s (.slice none 0 0), .no) else bif roomOk ie.bytes n then some (.slc S.next 0 n none, .new (.row l elem (some ie.size) .no)) else none
  | .slc id off m (some c) => bif Nat.ble (m + n) c then (match putX id (off + m * ie.size) l S with
      | some f => some (.slc id off (m + n) (some c), f)
      | none => none) else (bif roomOk ie.bytes (m + n) then (match srcX T ie.size s S.heap with
      | some (_, o) => some (.slc S.next 0 (m + n) none, .new (.row (o ++ l) elem (some ie.size) .no))
      | none => none) else none)
  | .slc id 0 m none => match find id S.heap with
    | some (.row cs e (some q) fz) => bif (fz.ok || Nat.beq (m * q) cs.length) && (Nat.beq q ie.size && Nat.blt 0 q && Nat.ble (m * q) cs.length && Nat.beq e elem && roomOk ie.bytes (m + n) && l.all one && Nat.blt id S.next) then some (.slc S.next 0 (m + n) none, .eat id (.row (cs.take (m * q) ++ l) elem (some q) fz)) else none
    | _ => none
  | _ => none
def appendX (ats : Array TypeId) (s x : V) (S : St) : Option (V × Eff) := match appendHead P T ats x S with
  | some (elem, ie, n, l) => appendIn T elem ie n l s S
  | none => none
theorem M.pass {w0 : Bs} {g : Gh} {H : Heap} {w w' : World} (h : M w0 g H w) {id nx k c : Nat} (hn : g.ν nx = none) (ho : g.own k = some id) {o : Obj} (ht : Turned k o w w') {b : Blk} (hb : BlkOk g.ν c b o) :
    M w0 (g.add nx k c) ((nx, b) :: del id H) w' := by
  obtain ⟨hk1, hk2, ck, hk3⟩ := h.mine k id ho
  refine ⟨fun i b' hi => ?_, fun j i hj => ?_, ht.below h.base hk1⟩
  · simp only [find] at hi
    by_cases e : Nat.beq nx i = true
    · rw [if_pos e] at hi
      have e' := Nat.eq_of_beq_eq_true e
      subst e'
      cases hi
      exact ⟨k, c, o, Gh.add_same, by simp [Gh.add], ht.at_, hb.mono (Gh.add_ext hn)⟩
    · rw [if_neg e] at hi
      obtain ⟨hne, hi⟩ := find_del H hi
      obtain ⟨k', c', o', h1, h2, h3, h4⟩ := h.blk i b' hi
      have hkk : k' ≠ k := fun e' => hne (by rw [e', ho] at h2; cases h2; rfl)
      refine ⟨k', c', o', Gh.add_ext hn _ _ h1, ?_, ?_, h4.mono (Gh.add_ext hn)⟩
      · show (if k' = k then some nx else g.own k') = some i
        rw [if_neg hkk, h2]
      · rw [ht.rest k' hkk, h3]
  · have hj' : (if j = k then some nx else g.own j) = some i := hj
    rw [ht.size]
    by_cases e : j = k
    · rw [if_pos e] at hj'
      cases hj'
      subst e
      exact ⟨hk1, hk2, c, Gh.add_same⟩
    · rw [if_neg e] at hj'
      obtain ⟨h1, h2, c', h3⟩ := h.mine j i hj'
      exact ⟨h1, h2, c', Gh.add_ext hn _ _ h3⟩
theorem Fr.pass {g : Gh} {w w' : World} {id nx k c lo : Nat} (hn : g.ν nx = none) (ho : g.own k = some id) {o : Obj} (ht : Turned k o w w') (hl : lo ≤ id) (hh : id < nx) : Fr nx lo (nx + 1) g w (g.add nx k c) w' := by
  refine ⟨Gh.add_ext hn, fun i hi => ?_, by rw [ht.size]; exact Nat.le_refl _, fun j hj hd => ?_⟩
  · show (if i = nx then some (k, c) else g.ν i) = g.ν i
    rw [if_neg (by omega)]
  · have hjk : j ≠ k := fun e => by
      subst e
      have := hd id ho
      omega
    refine ⟨ht.rest j hjk, ?_⟩
    show (if j = k then some nx else g.own j) = g.own j
    rw [if_neg hjk]
theorem appendX_good {w0 : Bs} (hT : Tab T w0) {g : Gh} {S : St} {w : World} (hM : M w0 g S.heap w) (hn : g.ν S.next = none) {ats : Array TypeId} {ty : TypeId} {args : Array Value} {s x v : V} {us ux : Value} {f : Eff} (h : appendX P T ats s x S = some (v, f)) (ha : args[0]? = some us) (hb : args[1]? = some ux) (rs : V.rel g.ν s us) (rx : V.rel g.ν x ux) :
    Good P w0 g S w (Builtin.append_ ats ty args) v f := by
  unfold appendX at h
  split at h
  rotate_left
  · cases h
  rename_i elem ie n l hh
  unfold appendHead at hh
  split at hh
  rotate_left
  · cases hh
  rename_i sT xT hsT hxT
  split at hh
  rotate_left
  · cases hh
  rename_i elem' d hd hxd
  split at hh
  rotate_left
  · cases hh
  rename_i ie' hie
  split at hh
  rotate_left
  · cases hh
  rename_i z n' l' hzv hl
  cases hbb : (!isIntD d && Nat.beq z.cells.size ie'.size && Nat.beq l'.length (n' * ie'.size)) with
  | false => rw [hbb] at hh; cases hh
  | true =>
  rw [hbb] at hh
  simp only [cond_true, Option.some.injEq, Prod.mk.injEq] at hh
  obtain ⟨rfl, rfl, rfl, rfl⟩ := hh
  simp only [Bool.and_eq_true, Bool.not_eq_true'] at hbb
  obtain ⟨⟨hb0, hb1⟩, hb3⟩ := hbb
  have hz : ∀ k, d ≠ .int k := fun k e => by subst e; cases hb0
  have hzs := Nat.eq_of_beq_eq_true hb1
  have hll := Nat.eq_of_beq_eq_true hb3
  obtain ⟨hlen, xs, hfc, hxs⟩ := srcX_spec P T hT hM hl rx
  have hfw : (Builtin.firstCells ie'.size n' ux).run P w = .ok xs.toArray w := hfc w.drawn
  have hfd := hfc (w.drawn + 1)
  have hxl : xs.length = n' * ie'.size := (rels_length hxs).trans hll
  -- what a row that has grown is
  have grown : ∀ (fz : Fz) (m c : Nat) (os : List Value) (ol : List V) (base : Option Addr), us = .slice base m c → ¬ m + n' ≤ c → roomOk ie'.bytes (m + n') = true → V.rels g.ν ol os → os.length = m * ie'.size →
      (Builtin.firstCells ie'.size m (.slice base m c)).run P { w with drawn := w.drawn + 1 } = .ok os.toArray { w with drawn := w.drawn + 1 } →
      Good P w0 g S w (Builtin.append_ ats ty args) (.slc S.next 0 (m + n') none) (.new (.row (ol ++ l') elem' (some ie'.size) fz)) := by
    intro fz m c os ol base hus hc hm ro hol ho
    subst hus
    obtain ⟨nc, hnc, hrun⟩ := append_grow (ty := ty) hsT hxT hd hie hxd hz ha hb hlen hzv hc (Nat.le_add_right _ _) hm ho hfd
    rw [rows_join] at hrun
    have hM1 := (hM.drew (w.drawn + 1))
    refine ⟨_, _, g.add S.next w.heap.size nc, hrun, hM1.alloc (c := nc) (b := .row (ol ++ l') elem' (some ie'.size) fz) hn ?_, (Fr.alloc (w := { w with drawn := w.drawn + 1 }) (c := nc) hn _).drew_left, ?_⟩
    · refine ⟨os ++ xs, (Builtin.zeroCells z.cells (nc - (m + n'))).toList, (0, 0), V.rels_mono (Gh.add_ext hn) _ _ (rels_append ro hxs), rfl, FzOk.zero _ _ _, ?_⟩
      simp only [List.length_append, hol, hxl, zeroCells_size, hzs]
      rw [← Nat.add_mul, ← Nat.add_mul]
      congr 1
      omega
    · simp only [V.rel]
      exact ⟨w.heap.size, nc, Gh.add_same, rfl⟩
  unfold appendIn at h
  split at h
  · -- nothing ahead
    simp only [V.rel] at rs
    subst rs
    cases hn0 : Nat.beq n' 0 with
    | true =>
      rw [hn0] at h
      simp only [cond_true, Option.some.injEq, Prod.mk.injEq] at h
      obtain ⟨rfl, rfl⟩ := h
      have := Nat.eq_of_beq_eq_true hn0
      subst this
      exact Good.no P hM (append_room hsT hxT hd hie hxd hz ha hb hlen (Nat.le_refl _) hfw rfl) (by simp only [V.rel])
    | false =>
      rw [hn0] at h
      simp only [cond_false] at h
      cases hn1 : roomOk ie'.bytes n' with
      | false => rw [hn1] at h; cases h
      | true =>
        rw [hn1] at h
        simp only [cond_true, Option.some.injEq, Prod.mk.injEq] at h
        obtain ⟨rfl, rfl⟩ := h
        have h0 : n' ≠ 0 := fun e => by subst e; cases hn0
        have := grown .no 0 0 [] [] none rfl (by omega) (by rw [Nat.zero_add]; exact hn1) rels_nil (by simp) rfl
        simpa using this
  · -- the room is known
    rename_i id off m c
    have rs0 := rs
    simp only [V.rel] at rs
    obtain ⟨k, c', hk, rfl⟩ := rs
    simp only [Option.getD_some] at ha grown
    cases hr : Nat.ble (m + n') c with
    | true =>
      rw [hr] at h
      simp only [cond_true] at h
      split at h
      · rename_i f' hf
        cases h
        obtain ⟨b, k2, c2, o, w', rfl, h1, h2, h3, h4, h5, h6⟩ := putX_spec P hM hf hxs
        rw [hk] at h1
        cases h1
        refine Good.put P hM hk h2 h3 (append_room hsT hxT hd hie hxd hz ha hb hlen (Nat.le_of_ble_eq_true hr) hfw (by simp only [add_eq]; exact h4)) h5 h6 ?_
        simp only [V.rel]
        exact ⟨k, c', hk, rfl⟩
      · cases h
    | false =>
      rw [hr] at h
      simp only [cond_false] at h
      cases hn1 : roomOk ie'.bytes (m + n') with
      | false => rw [hn1] at h; cases h
      | true =>
        rw [hn1] at h
        simp only [cond_true] at h
        split at h
        · rename_i m' o ho
          cases h
          have hnr : ¬ m + n' ≤ c := fun e => by rw [Nat.ble_eq_true_of_le e] at hr; cases hr
          obtain ⟨_, os, ho1, ho2⟩ := srcX_spec P T hT hM ho rs0
          have hmm : m' = m ∧ o.length = m * ie'.size := by
            simp only [srcX] at ho
            split at ho
            · cases hq : Nat.beq _ _ with
              | false => rw [hq] at ho; cases ho
              | true =>
                rw [hq] at ho
                simp only [cond_true, Option.some.injEq, Prod.mk.injEq] at ho
                obtain ⟨rfl, rfl⟩ := ho
                exact ⟨rfl, Nat.eq_of_beq_eq_true hq⟩
            · cases ho
          obtain ⟨rfl, hol⟩ := hmm
          simp only [Option.getD_some] at ho1
          exact grown .no m' c os o _ rfl hnr hn1 ho2 ((rels_length ho2).trans hol) (ho1 _)
        · cases h
  · -- the room is not known
    rename_i id m
    simp only [V.rel] at rs
    obtain ⟨k, c', hk, rfl⟩ := rs
    simp only [Option.getD_none] at ha grown
    split at h
    · rename_i cs e q fz hf
      cases hq : ((fz.ok || Nat.beq (m * q) cs.length) && (Nat.beq q ie'.size && Nat.blt 0 q && Nat.ble (m * q) cs.length && Nat.beq e elem' && roomOk ie'.bytes (m + n') && l'.all one && Nat.blt id S.next)) with
      | false => rw [hq] at h; cases h
      | true =>
        rw [hq] at h
        simp only [cond_true, Option.some.injEq, Prod.mk.injEq] at h
        obtain ⟨rfl, rfl⟩ := h
        simp only [Bool.and_eq_true, Bool.or_eq_true] at hq
        obtain ⟨q0, ⟨⟨⟨⟨⟨q1, q2⟩, q3⟩, q4⟩, q5⟩, q6⟩, q7⟩ := hq
        have q0 : fz.ok = true ∨ m * q = cs.length := q0.imp (fun h => h) Nat.eq_of_beq_eq_true
        have q1 := Nat.eq_of_beq_eq_true q1
        subst q1
        have q2 : 0 < ie'.size := by unfold Nat.blt at q2; exact Nat.le_of_ble_eq_true q2
        have q3 := Nat.le_of_ble_eq_true q3
        have q4 := Nat.eq_of_beq_eq_true q4
        subst q4
        have q7 : id < S.next := by unfold Nat.blt at q7; exact Nat.le_of_ble_eq_true q7
        obtain ⟨k2, c2, o, h1, h2, h3, us, ys, fr, h4, rfl, h6, h7⟩ := hM.blk _ _ hf
        rw [hk] at h1
        cases h1
        have hul := rels_length h4
        by_cases hroom : m + n' ≤ c'
        · have hb1 : (m + n') * ie'.size ≤ c' * ie'.size := Nat.mul_le_mul_right _ hroom
          rw [Nat.add_mul] at hb1
          simp only at h7
          obtain ⟨w', s1, s2⟩ := storeCells_run P xs (m * ie'.size) 0 (us ++ ys) w (fun o ho1 ho2 => h6.behind o (q0.imp (fun h => h) fun e => by omega) (by simpa using ho2)) h3 (by simp; omega) (rels_all_one hxs q6)
          rw [Nat.add_zero] at s2
          have hset : setRange (us ++ ys) (m * ie'.size) xs = (us.take (m * ie'.size) ++ xs) ++ (us ++ ys).drop (m * ie'.size + xs.length) := by
            unfold setRange
            rw [List.take_append_of_le_length (by omega)]
          rw [hset] at s2
          have s3 : (storeCells (Addr.add ⟨k, 0, none⟩ (m * ie'.size)) xs).run P w = .ok () w' := by
            rw [add_eq, Nat.zero_add]
            exact s1
          refine ⟨_, w', g.add S.next k c', append_room hsT hxT hd hie hxd hz ha hb hlen hroom hfw s3, hM.pass hn h2 s2 ⟨_, _, fr, rels_append (rels_take _ h4) hxs, rfl, h6.more ?_ (q0.imp (fun h => h) fun e => ?_), ?_⟩, Fr.pass hn h2 s2 (by simp only [Eff.run, lower_eq]; omega) q7, ?_⟩
          · simp; omega
          · simp; omega
          · simp only [List.length_append, List.length_take, List.length_drop]
            omega
          · simp only [V.rel]
            exact ⟨k, c', Gh.add_same, rfl⟩
        · obtain ⟨u, w', g', r1, r2, r3, r4⟩ := grown fz m c' (us.take (m * ie'.size)) (cs.take (m * ie'.size)) _ rfl hroom q5 (rels_take _ h4) (by rw [List.length_take]; omega) (by
            have := run_loadCells_list (P := P) (w := { w with drawn := w.drawn + 1 }) ⟨k, 0, none⟩ (us.take (m * ie'.size)) (fun j x hj => by
              have hj' := (List.getElem?_eq_some_iff.1 hj).1
              rw [List.getElem?_take_of_lt (by simp at hj'; omega)] at hj
              have hlt := (List.getElem?_eq_some_iff.1 hj).1
              rw [add_eq, Nat.zero_add]
              simp only [World.cell?, h3]
              simpa [List.getElem?_append_left hlt] using hj)
            rw [List.length_take, show min (m * ie'.size) us.length = m * ie'.size by omega] at this
            exact this)
          refine ⟨u, w', g', r1, ?_, ?_, r4⟩
          · refine r2.sub fun i b hi => ?_
            simp only [Eff.run, find] at hi ⊢
            by_cases e : Nat.beq S.next i = true
            · rw [if_pos e] at hi ⊢; exact hi
            · rw [if_neg e] at hi ⊢; exact (find_del _ hi).2
          · exact r3.weaken (by simp only [Eff.run, lower_eq]; omega) (Nat.le_refl _)
    · cases h
  · cases h
end
end Go.Proofs.YtmpmbnmldmpmiaaGreatDoor.Sim
set_option linter.unusedVariables false
set_option linter.unusedSimpArgs false
namespace Go.Proofs.YtmpmbnmldmpmiaaGreatDoor.Sim
open Go Go.RowKit
section
variable (P : Program) (T : Nat → Option (List Value))
/-- Bytes out of cells. -/
def bytesX : List V → Option (List UInt8)
  | [] => some []
  | .s (.int .u8 b) :: r => match bytesX r with
    | some l => some (b.toNat.toUInt8 :: l)
    | none => none
  | _ :: _ => none
theorem freeze_turned {w : World} {k off n : Nat} {c : Array Value} {e : TypeId} {lo hi : Nat} (h : w.heap[k]? = some (.cells c e (lo, hi))) (hn : n ≠ 0) :
    Turned k (.cells c e (if lo == hi then (off, off + n) else (min lo off, max hi (off + n)))) w (w.freeze ⟨k, off, none⟩ n) := by
  unfold World.freeze
  rw [if_neg hn]
  refine ⟨rfl, rfl, rfl, by simp, by simp [Array.getElem?_modify, h], fun j hj => ?_⟩
  simp only [Array.getElem?_modify]
  rw [if_neg (Ne.symm hj)]
theorem bytes_ints {ν : Val} : ∀ {l : List V} {bs : List UInt8} {xs : List Value}, bytesX l = some bs → V.rels ν l xs → ∃ ns : List Int, xs = ns.map (Value.int .u8) ∧ bs = ns.map fun n => UInt8.ofNat n.toNat
  | [], bs, xs, h, r => by
    simp only [V.rels] at r
    subst r
    cases h
    exact ⟨[], rfl, rfl⟩
  | v :: l, bs, xs, h, r => by
    simp only [V.rels] at r
    obtain ⟨x, xs', r1, r2, rfl⟩ := r
    unfold bytesX at h
    split at h
    · rename_i e
      cases e
    · rename_i b r' e
      cases e
      split at h
      · rename_i l' hl
        cases h
        obtain ⟨ns, h1, h2⟩ := bytes_ints hl r2
        simp only [V.rel] at r1
        subst r1
        subst h1
        subst h2
        exact ⟨b :: ns, rfl, rfl⟩
      · cases h
    · cases h
theorem foldl_push : ∀ (ns : List Int) (s : ByteArray), (ns.foldl (fun r n => r.push (UInt8.ofNat n.toNat)) s) = ⟨(s.data.toList ++ ns.map fun n => UInt8.ofNat n.toNat).toArray⟩
  | [], s => by simp
  | n :: ns, s => by
    rw [List.foldl_cons, foldl_push ns]
    simp [ByteArray.push]
/-- The string of a slice's bytes. -/
def toStrX (src dst : TypeId) (id off len : Nat) (S : St) : Option (V × Eff) := match P.underlying src, P.underlying dst, find id S.heap with
  | some (.slice e), some .string, some (.row cs _ _ _) => match P.underlying e with
    | some (.int .u8) => bif Nat.beq ((cs.drop off).take len).length len then (match bytesX ((cs.drop off).take len) with
      | some bs => some (.s (.string ⟨bs.toArray⟩), .no)
      | none => none) else none
    | _ => none
  | _, _, _ => none
theorem toStrX_good {w0 : Bs} {g : Gh} {S : St} {w : World} (hM : M w0 g S.heap w) {s d : TypeId} {id off len cp k c : Nat} {v : V} {f : Eff} (h : toStrX P s d id off len S = some (v, f)) (hk : g.ν id = some (k, c)) : Good P w0 g S w (convert s d (.slice (some ⟨k, off, none⟩) len cp)) v f := by
  unfold toStrX at h
  split at h
  rotate_left
  · cases h
  rename_i e cs e' tl fz hs hd hf
  split at h
  rotate_left
  · cases h
  rename_i he
  cases hb : Nat.beq ((cs.drop off).take len).length len with
  | false => rw [hb] at h; cases h
  | true =>
  rw [hb] at h
  simp only [cond_true] at h
  have hb := Nat.eq_of_beq_eq_true hb
  split at h
  rotate_left
  · cases h
  rename_i bs hbs
  cases h
  obtain ⟨k', c', o, h1, h2, h3, xs, ys, fr, h4, rfl, _⟩ := hM.blk _ _ hf
  rw [hk] at h1
  cases h1
  have hr := rels_take len (rels_drop off h4)
  obtain ⟨ns, e1, e2⟩ := bytes_ints hbs hr
  have hl := rels_length hr
  have := run_loadCells_list (P := P) (w := w) ⟨k, off, none⟩ ((xs.drop off).take len) (fun j x hj => by
    have hj' := (List.getElem?_eq_some_iff.1 hj).1
    rw [List.getElem?_take_of_lt (by omega), List.getElem?_drop] at hj
    have hlt := (List.getElem?_eq_some_iff.1 hj).1
    rw [add_eq]
    simp only [World.cell?, h3]
    simpa [List.getElem?_append_left hlt] using hj)
  rw [hl, hb, e1] at this
  refine Good.no P hM (u := .string ⟨bs.toArray⟩) ?_ rel_s
  rw [run_convert_bytes_string w s d e _ _ _ hs he hd, run_bytesToString w _ _ _ ns this, foldl_push, e2]
  simp
/-- The bytes of a string, in new memory. -/
def ofStrX (src dst : TypeId) (s : ByteArray) (S : St) : Option (V × Eff) := match P.underlying src, P.underlying dst with
  | some _, some (.slice e) => match P.underlying e with
    | some (.int .u8) => some (.slc S.next 0 s.size none, .new (.row (s.data.toList.map fun (b : UInt8) => V.s (.int .u8 b.toNat)) e (some 1) .soft))
    | _ => none
  | _, _ => none
theorem ofStrX_good {w0 : Bs} {g : Gh} {S : St} {w : World} (hM : M w0 g S.heap w) (hn : g.ν S.next = none) {s d : TypeId} {b : ByteArray} {v : V} {f : Eff} (h : ofStrX P s d b S = some (v, f)) : Good P w0 g S w (convert s d (.string b)) v f := by
  unfold ofStrX at h
  split at h
  rotate_left
  · cases h
  rename_i u e hs hd
  split at h
  rotate_left
  · cases h
  rename_i he
  cases h
  have hrun := Lib.run_convert_string_bytes w s d e b hs hd he
  have hcap : b.size ≤ grownCap w b.size 0 e := by unfold grownCap; simp only [Question.cut]; omega
  have hcells : Lib.bytesCells w e b = ((b.data.toList.map fun (c : UInt8) => Value.int .u8 c.toNat) ++ List.replicate (grownCap w b.size 0 e - b.size) (Value.int .u8 0)).toArray := by
    apply Array.ext'
    simp [Lib.bytesCells]
  have hb0 : ∀ fr, Soft fr (b.size + (grownCap w b.size 0 e - b.size)) → BlkOk (g.add S.next w.heap.size (grownCap w b.size 0 e)).ν (grownCap w b.size 0 e) (.row (b.data.toList.map fun (c : UInt8) => V.s (.int .u8 c.toNat)) e (some 1) .soft) (.cells (Lib.bytesCells w e b) e fr) := by
    intro fr hfr
    refine ⟨b.data.toList.map fun (c : UInt8) => Value.int .u8 c.toNat, List.replicate (grownCap w b.size 0 e - b.size) (.int .u8 0), fr, ?_, by rw [hcells], ?_, ?_⟩
    · have := rels_lits (ν := (g.add S.next w.heap.size (grownCap w b.size 0 e)).ν) (b.data.toList.map fun (c : UInt8) => Value.int .u8 c.toNat)
      rw [List.map_map] at this
      simpa [Function.comp_def] using this
    · simpa [FzOk] using hfr
    · simp
      omega
  have hM1 := (hM.drew (w.drawn + 1)).alloc (id := S.next) (c := grownCap w b.size 0 e) hn (o := .cells (Lib.bytesCells w e b) e) (hb0 (0, 0) (soft0 _))
  have hnew : ((w.drew).alloc (.cells (Lib.bytesCells w e b) e)).heap[w.heap.size]? = some (.cells (Lib.bytesCells w e b) e (0, 0)) := by
    show (w.heap.push _)[w.heap.size]? = _
    simp
  have ht := freeze_turned (off := (Lib.bytesCells w e b).size) hnew (show (1 : Nat) ≠ 0 by decide)
  rw [if_pos (by rfl)] at ht
  have hown : (g.add S.next w.heap.size (grownCap w b.size 0 e)).own w.heap.size = some S.next := by simp [Gh.add]
  have hsz : (Lib.bytesCells w e b).size = b.size + (grownCap w b.size 0 e - b.size) := by rw [hcells]; simp
  have hM2 := hM1.turn Gh.add_same hown ht (b := .row (b.data.toList.map fun (c : UInt8) => V.s (.int .u8 c.toNat)) e (some 1) .soft) (hb0 _ (by
    intro off ho
    rw [hsz]
    simp
    omega))
  have hup : upd S.next (Blk.row (b.data.toList.map fun (c : UInt8) => V.s (.int .u8 c.toNat)) e (some 1) .soft) ((S.next, .row (b.data.toList.map fun (c : UInt8) => V.s (.int .u8 c.toNat)) e (some 1) .soft) :: S.heap) = (S.next, .row (b.data.toList.map fun (c : UInt8) => V.s (.int .u8 c.toNat)) e (some 1) .soft) :: S.heap := by
    simp [upd]
  rw [hup] at hM2
  have hfr1 := (Fr.alloc (w := w.drew) (lo := S.low) (c := grownCap w b.size 0 e) hn (.cells (Lib.bytesCells w e b) e)).drew_left
  refine ⟨_, _, _, hrun, hM2, ?_, ?_⟩
  · -- only the new block has turned
    refine ⟨hfr1.ext, hfr1.rng, ?_, fun k hk hd => ?_⟩
    · have := hfr1.size
      rw [show (Lib.bytesWorld w e b).heap.size = _ from ht.size]
      exact this
    · obtain ⟨e1, e2⟩ := hfr1.old k hk hd
      exact ⟨(ht.rest k (by omega)).trans e1, e2⟩
  · simp only [V.rel]
    exact ⟨_, _, Gh.add_same, rfl⟩
end
end Go.Proofs.YtmpmbnmldmpmiaaGreatDoor.Sim
set_option linter.unusedVariables false
set_option linter.unusedSimpArgs false
namespace Go.Proofs.YtmpmbnmldmpmiaaGreatDoor.Sim
open Go Go.RowKit
section
variable (P : Program) (T : Nat → Option (List Value))
def pureV (e : Sem Value) : Option (V × Eff) := match purely P e with
  | some v => some (.s v, .no)
  | none => none
theorem pureV_good {w0 : Bs} {g : Gh} {S : St} {w : World} (hM : M w0 g S.heap w) {e : Sem Value} {v : V} {f : Eff} (h : pureV P e = some (v, f)) : Good P w0 g S w e v f := by
  unfold pureV at h
  split at h
  · rename_i x hx
    cases h
    exact Good.no P hM (purely_run hx w) (by simp only [V.rel])
  · cases h
/-- Whether two are equal, where one is a reference. -/
def eqX (t : TypeId) (x y : V) : Option Bool := match P.underlying t, x, y with
  | some (.pointer e), .ptr i o, .ptr j p => match P.info? e with
    | some ie => bif Nat.beq i j && !Nat.beq ie.size 0 then some (Nat.beq o p) else none
    | none => none
  | some (.pointer _), .ptr _ _, .s (.pointer none) => some false
  | some (.pointer _), .s (.pointer none), .ptr _ _ => some false
  | some (.slice _), .slc _ _ _ _, .s (.slice none _ _) => some false
  | some (.slice _), .s (.slice none _ _), .slc _ _ _ _ => some false
  | some (.slice _), .slu _ _ _, .s (.slice none _ _) => some false
  | some (.map _ _), .map _, .s (.map none) => some false
  | some (.func _ _ _), .fn _ _ _, .s .nilFunc => some false
  | some (.interface _), .ifc _ _, .s .nilIface => some false
  | _, _, _ => none
theorem sameAddr_same (a : Addr) (b : Nat) (w : World) : (sameAddr a { a with off := b }).run P w = .ok (a == { a with off := b }) w := by
  simp [sameAddr]
theorem eqX_run {g : Gh} {t : TypeId} {x y : V} {u v : Value} {b : Bool} (h : eqX P t x y = some b) (rx : V.rel g.ν x u) (ry : V.rel g.ν y v) (w : World) :
    (∀ n, (Op.equalIn (n + 1) t u v).run P w = .ok b w) ∧ (∀ op p q, (eqGuard op t p q u v).run P w = .ok () w) := by
  unfold eqX at h
  split at h
  · rename_i e i o j p hd
    split at h
    · rename_i ie hie
      cases hb : (Nat.beq i j && !Nat.beq ie.size 0) with
      | false => rw [hb] at h; cases h
      | true =>
        rw [hb] at h
        simp only [cond_true, Option.some.injEq] at h
        subst h
        simp only [Bool.and_eq_true, Bool.not_eq_true'] at hb
        have hij := Nat.eq_of_beq_eq_true hb.1
        subst hij
        simp only [V.rel] at rx ry
        obtain ⟨k, c, h1, rfl⟩ := rx
        obtain ⟨k', c', h2, rfl⟩ := ry
        rw [h1] at h2
        cases h2
        have hne : ie.size ≠ 0 := fun e => by rw [e] at hb; cases hb.2
        refine ⟨?_, fun op p' q => by simp only [eqGuard]; split <;> rfl⟩
        intro n
        simp only [Op.equalIn, Sem.run_bind, run_underlying hd, Result.andThen_ok, run_sizeOf' P hie, hne, ne_eq, not_false_eq_true, if_true]
        have := sameAddr_same P ⟨k, o, none⟩ p w
        simp only at this
        rw [this]
        congr 1
        cases ho : Nat.beq o p with
        | true =>
          have := Nat.eq_of_beq_eq_true ho
          subst this
          simp
        | false =>
          have : o ≠ p := fun e => by subst e; simp at ho
          simp [this]
    · cases h
  · rename_i hd
    cases h
    simp only [V.rel] at rx ry
    obtain ⟨k, c, h1, rfl⟩ := rx
    subst ry
    exact ⟨fun n => by simp [Op.equalIn, run_underlying hd], fun op p' q => by simp only [eqGuard]; split <;> rfl⟩
  · rename_i hd
    cases h
    simp only [V.rel] at rx ry
    obtain ⟨k, c, h1, rfl⟩ := ry
    subst rx
    exact ⟨fun n => by simp [Op.equalIn, run_underlying hd], fun op p' q => by simp only [eqGuard]; split <;> rfl⟩
  · rename_i hd
    cases h
    simp only [V.rel] at rx ry
    obtain ⟨k, c, h1, rfl⟩ := rx
    subst ry
    exact ⟨fun n => by simp [Op.equalIn, run_underlying hd], fun op p' q => by simp only [eqGuard]; split <;> rfl⟩
  · rename_i hd
    cases h
    simp only [V.rel] at rx ry
    obtain ⟨k, c, h1, rfl⟩ := ry
    subst rx
    exact ⟨fun n => by simp [Op.equalIn, run_underlying hd], fun op p' q => by simp only [eqGuard]; split <;> rfl⟩
  · rename_i hd
    cases h
    simp only [V.rel] at rx ry
    obtain ⟨k, c, cp, h1, _, rfl⟩ := rx
    subst ry
    exact ⟨fun n => by simp [Op.equalIn, run_underlying hd], fun op p' q => by simp only [eqGuard]; split <;> rfl⟩
  · rename_i hd
    cases h
    simp only [V.rel] at rx ry
    obtain ⟨k, c, h1, rfl⟩ := rx
    subst ry
    exact ⟨fun n => by simp [Op.equalIn, run_underlying hd], fun op p' q => by simp only [eqGuard]; split <;> rfl⟩
  · rename_i hd
    cases h
    simp only [V.rel] at rx ry
    obtain ⟨xs, ys, _, _, rfl⟩ := rx
    subst ry
    exact ⟨fun n => by simp [Op.equalIn, run_underlying hd], fun op p' q => by simp only [eqGuard]; split <;> rfl⟩
  · rename_i hd
    cases h
    simp only [V.rel] at rx ry
    obtain ⟨x, _, rfl⟩ := rx
    subst ry
    exact ⟨fun n => by simp [Op.equalIn, run_underlying hd], fun op p' q => by simp only [eqGuard]; split <;> rfl⟩
  · cases h
def binX (op : BinOp) (t : TypeId) (p q : Operand) (x y : V) : Option (V × Eff) :=
  match x, y with
  | .s a, .s b => pureV P (do eqGuard op t p q a b; binOp op t a b)
  | x, y => match op with
    | .eql => match eqX P t x y with
      | some b => some (.s (.bool b), .no)
      | none => none
    | .neq => match eqX P t x y with
      | some b => some (.s (.bool !b), .no)
      | none => none
    | _ => none
def isRef : Value → Bool
  | .pointer _ => true
  | .slice _ _ _ => true
  | .map _ => true
  | .func _ _ _ => true
  | .nilFunc => true
  | .iface _ _ => true
  | .nilIface => true
  | _ => false
theorem bin_eq {t : TypeId} {u v : Value} {b : Bool} {w : World} (hu : isRef u = true) (h : (Op.equal t u v).run P w = .ok b w) : (binOp .eql t u v).run P w = .ok (.bool b) w ∧ (binOp .neq t u v).run P w = .ok (.bool !b) w := by
  cases u <;> first | cases hu; done | (cases v <;> simp [binOp, h])
theorem eqX_ref {g : Gh} {t : TypeId} {x y : V} {u v : Value} {b : Bool} (h : eqX P t x y = some b) (rx : V.rel g.ν x u) : isRef u = true := by
  unfold eqX at h
  split at h <;> first | (cases h; done) | (simp only [V.rel] at rx; first | (obtain ⟨_, _, _, rfl⟩ := rx; rfl) | (obtain ⟨_, _, _, _, _, rfl⟩ := rx; rfl) | (subst rx; rfl) | (obtain ⟨_, _, _, _, rfl⟩ := rx; rfl) | (obtain ⟨_, _, rfl⟩ := rx; rfl))
theorem binX_good {w0 : Bs} {g : Gh} {S : St} {w : World} (hM : M w0 g S.heap w) {op : BinOp} {t : TypeId} {p q : Operand} {x y v : V} {f : Eff} {a b : Value} (h : binX P op t p q x y = some (v, f)) (rx : V.rel g.ν x a) (ry : V.rel g.ν y b) :
    Good P w0 g S w (do eqGuard op t p q a b; binOp op t a b) v f := by
  unfold binX at h
  split at h
  · simp only [V.rel] at rx ry
    subst rx
    subst ry
    exact pureV_good P hM h
  · split at h
    · split at h
      · rename_i r hr
        cases h
        obtain ⟨h1, h2⟩ := eqX_run P hr rx ry w
        refine Good.no P hM (u := .bool r) ?_ (by simp only [V.rel])
        simp only [Sem.run_bind, h2, Result.andThen_ok, (bin_eq P (eqX_ref (b := r) (y := y) (v := b) P hr rx) (h1 9999)).1]
      · cases h
    · split at h
      · rename_i r hr
        cases h
        obtain ⟨h1, h2⟩ := eqX_run P hr rx ry w
        refine Good.no P hM (u := .bool !r) ?_ (by simp only [V.rel])
        simp only [Sem.run_bind, h2, Result.andThen_ok, (bin_eq P (eqX_ref (b := r) (y := y) (v := b) P hr rx) (h1 9999)).2]
      · cases h
    · cases h
/-- A field's address. -/
def fieldAddrX (s : TypeId) (x : V) (f : Nat) : Option (V × Eff) := match x with
  | .s v => pureV P (Instr.fieldAt s v f)
  | .ptr id off => match P.underlying s with
    | some (.struct fields) => match fields[f]? with
      | some fd => match P.info? fd.type with
        | some i => bif Nat.beq i.size 0 then none else some (.ptr id (off + fd.offset), .no)
        | none => none
      | none => none
    | _ => none
  | _ => none
theorem fieldAddrX_good {w0 : Bs} {g : Gh} {S : St} {w : World} (hM : M w0 g S.heap w) {s : TypeId} {x v : V} {n : Nat} {f : Eff} {a : Value} (h : fieldAddrX P s x n = some (v, f)) (rx : V.rel g.ν x a) : Good P w0 g S w (Instr.fieldAt s a n) v f := by
  unfold fieldAddrX at h
  split at h
  · simp only [V.rel] at rx
    subst rx
    exact pureV_good P hM h
  · rename_i id off
    simp only [V.rel] at rx
    obtain ⟨k, c, hk, rfl⟩ := rx
    split at h
    · rename_i fields hd
      split at h
      · rename_i fd hf
        split at h
        · rename_i i hi
          cases hb : Nat.beq i.size 0 with
          | true => rw [hb] at h; cases h
          | false =>
            rw [hb] at h
            cases h
            have hne : i.size ≠ 0 := fun e => by rw [e] at hb; cases hb
            refine Good.no P hM (u := .pointer (some ⟨k, off + fd.offset, none⟩)) ?_ ?_
            · simp only [Instr.fieldAt, Sem.run_bind, run_underlying hd, Result.andThen_ok, hf, Instr.sureAddr, Sem.run_pure, fieldPlace, run_sizeOf' P hi, hne, if_false, add_eq]
            · simp only [V.rel]
              exact ⟨k, c, hk, rfl⟩
        · cases h
      · cases h
    · cases h
  · cases h
def indexAddrX (t : TypeId) (x i : V) : Option (V × Eff) := match x, i with
  | .s v, .s i => pureV P (Instr.indexAt t v i)
  | .slc id off len cap, .s (.int _ i) => match P.underlying t with
    | some (.slice elem) => match P.info? elem with
      | some ie => bif decide (0 ≤ i) && decide (i < (len : Int)) then some (.ptr id (off + i.toNat * ie.size), .no) else none
      | none => none
    | _ => none
  | .slu id off len, .s (.int _ i) => match P.underlying t with
    | some (.slice elem) => match P.info? elem with
      | some ie => bif decide (0 ≤ i) && decide (i < (len : Int)) then some (.ptr id (off + i.toNat * ie.size), .no) else none
      | none => none
    | _ => none
  | .ptr id off, .s (.int _ i) => match P.underlying t with
    | some (.array len elem) => match P.info? elem with
      | some ie => bif decide (0 ≤ i) && decide (i < (len : Int)) then some (.ptr id (off + i.toNat * ie.size), .no) else none
      | none => none
    | _ => none
  | _, _ => none
theorem indexAddrX_good {w0 : Bs} {g : Gh} {S : St} {w : World} (hM : M w0 g S.heap w) {t : TypeId} {x y v : V} {f : Eff} {a b : Value} (h : indexAddrX P t x y = some (v, f)) (rx : V.rel g.ν x a) (ry : V.rel g.ν y b) : Good P w0 g S w (Instr.indexAt t a b) v f := by
  unfold indexAddrX at h
  split at h
  · simp only [V.rel] at rx ry
    subst rx
    subst ry
    exact pureV_good P hM h
  · rename_i id off len cap kk i
    simp only [V.rel] at rx ry
    obtain ⟨k, c, hk, rfl⟩ := rx
    subst ry
    split at h
    · rename_i elem hd
      split at h
      · rename_i ie hie
        cases hb : (decide (0 ≤ i) && decide (i < (len : Int))) with
        | false => rw [hb] at h; cases h
        | true =>
          rw [hb] at h
          cases h
          simp only [Bool.and_eq_true, decide_eq_true_eq] at hb
          refine Good.no P hM (u := .pointer (some ⟨k, off + i.toNat * ie.size, none⟩)) ?_ ?_
          · simp only [Instr.indexAt, asIntOf, Sem.run_bind, run_underlying hd, Result.andThen_ok, Sem.run_pure, if_pos hb, run_sizeOf' P hie, add_eq]
          · simp only [V.rel]
            exact ⟨k, c, hk, rfl⟩
      · cases h
    · cases h
  · rename_i id off len kk i
    simp only [V.rel] at rx ry
    obtain ⟨k, c, cp, hk, _, rfl⟩ := rx
    subst ry
    split at h
    · rename_i elem hd
      split at h
      · rename_i ie hie
        cases hb : (decide (0 ≤ i) && decide (i < (len : Int))) with
        | false => rw [hb] at h; cases h
        | true =>
          rw [hb] at h
          cases h
          simp only [Bool.and_eq_true, decide_eq_true_eq] at hb
          refine Good.no P hM (u := .pointer (some ⟨k, off + i.toNat * ie.size, none⟩)) ?_ ?_
          · simp only [Instr.indexAt, asIntOf, Sem.run_bind, run_underlying hd, Result.andThen_ok, Sem.run_pure, if_pos hb, run_sizeOf' P hie, add_eq]
          · simp only [V.rel]
            exact ⟨k, c, hk, rfl⟩
      · cases h
    · cases h
  · rename_i id off kk i
    simp only [V.rel] at rx ry
    obtain ⟨k, c, hk, rfl⟩ := rx
    subst ry
    split at h
    · rename_i len elem hd
      split at h
      · rename_i ie hie
        cases hb : (decide (0 ≤ i) && decide (i < (len : Int))) with
        | false => rw [hb] at h; cases h
        | true =>
          rw [hb] at h
          cases h
          simp only [Bool.and_eq_true, decide_eq_true_eq] at hb
          refine Good.no P hM (u := .pointer (some ⟨k, off + i.toNat * ie.size, none⟩)) ?_ ?_
          · simp only [Instr.indexAt, asIntOf, Sem.run_bind, run_underlying hd, Result.andThen_ok, Sem.run_pure, if_pos hb, run_sizeOf' P hie, add_eq, Instr.sureAddr]
          · simp only [V.rel]
            exact ⟨k, c, hk, rfl⟩
      · cases h
    · cases h
  · cases h
/-- A part of a struct. -/
def partX (t : TypeId) (cs : List V) (off : Nat) : Option V := match P.info? t, P.underlying t with
  | some i, some d => bif isAggD d then some (mkAgg ((cs.drop off).take i.size)) else cs[off]?
  | _, _ => none
theorem partX_run {g : Gh} {t : TypeId} {cs : List V} {off : Nat} {v : V} {xs : List Value} (h : partX P t cs off = some v) (r : V.rels g.ν cs xs) (w : World) : ∃ u, (part t xs.toArray off).run P w = .ok u w ∧ V.rel g.ν v u := by
  unfold partX at h
  split at h
  · rename_i i d hi hd
    cases ha : isAggD d with
    | true =>
      rw [ha] at h
      cases h
      refine ⟨.agg ((xs.drop off).take i.size).toArray, ?_, mkAgg_rel (rels_take _ (rels_drop _ r))⟩
      simp [part, run_isAgg P hd, ha, run_sizeOf' P hi, List.extract_toArray, List.extract_eq_take_drop]
    | false =>
      rw [ha] at h
      simp only [cond_false] at h
      obtain ⟨x, h1, h2⟩ := rels_get r h
      refine ⟨x, ?_, h2⟩
      simp [part, run_isAgg P hd, ha, h1]
  · cases h
def fieldX (t : TypeId) (x : V) (f : Nat) : Option (V × Eff) := match x with
  | .s v => pureV P (Instr.field t v f)
  | .agg cs => match P.underlying t with
    | some (.struct fields) => match fields[f]? with
      | some fd => match partX P fd.type cs fd.offset with
        | some v => some (v, .no)
        | none => none
      | none => none
    | _ => none
  | _ => none
theorem fieldX_good {w0 : Bs} {g : Gh} {S : St} {w : World} (hM : M w0 g S.heap w) {s : TypeId} {x v : V} {n : Nat} {f : Eff} {a : Value} (h : fieldX P s x n = some (v, f)) (rx : V.rel g.ν x a) : Good P w0 g S w (Instr.field s a n) v f := by
  unfold fieldX at h
  split at h
  · simp only [V.rel] at rx
    subst rx
    exact pureV_good P hM h
  · rename_i cs
    simp only [V.rel] at rx
    obtain ⟨xs, hx, rfl⟩ := rx
    split at h
    · rename_i fields hd
      split at h
      · rename_i fd hf
        split at h
        · rename_i y hy
          cases h
          obtain ⟨u, h1, h2⟩ := partX_run P hy hx w
          refine Good.no P hM (u := u) ?_ h2
          simp only [Instr.field, Sem.run_bind, run_underlying hd, Result.andThen_ok, hf, asAgg, Sem.run_pure, h1]
        · cases h
      · cases h
    · cases h
  · cases h
def indexX (t : TypeId) (x i : V) : Option (V × Eff) := match x, i with
  | .s v, .s i => pureV P (Instr.index t v i)
  | .agg cs, .s (.int _ i) => match P.underlying t with
    | some (.array len elem) => match P.info? elem with
      | some ie => bif decide (0 ≤ i) && decide (i < (len : Int)) then (match partX P elem cs (i.toNat * ie.size) with
        | some v => some (v, .no)
        | none => none) else none
      | none => none
    | _ => none
  | _, _ => none
theorem indexX_good {w0 : Bs} {g : Gh} {S : St} {w : World} (hM : M w0 g S.heap w) {t : TypeId} {x y v : V} {f : Eff} {a b : Value} (h : indexX P t x y = some (v, f)) (rx : V.rel g.ν x a) (ry : V.rel g.ν y b) : Good P w0 g S w (Instr.index t a b) v f := by
  unfold indexX at h
  split at h
  · simp only [V.rel] at rx ry
    subst rx
    subst ry
    exact pureV_good P hM h
  · rename_i cs kk i
    simp only [V.rel] at rx ry
    obtain ⟨xs, hx, rfl⟩ := rx
    subst ry
    split at h
    · rename_i len elem hd
      split at h
      · rename_i ie hie
        cases hb : (decide (0 ≤ i) && decide (i < (len : Int))) with
        | false => rw [hb] at h; cases h
        | true =>
          rw [hb] at h
          simp only [cond_true] at h
          split at h
          · rename_i y hy
            cases h
            obtain ⟨u, h1, h2⟩ := partX_run P hy hx w
            simp only [Bool.and_eq_true, decide_eq_true_eq] at hb
            refine Good.no P hM (u := u) ?_ h2
            simp only [Instr.index, asIntOf, Sem.run_bind, run_underlying hd, Result.andThen_ok, Sem.run_pure, if_pos hb, run_sizeOf' P hie, h1]
          · cases h
      · cases h
    · cases h
  · cases h
def extractX (x : V) (i : Nat) : Option (V × Eff) := match x with
  | .s v => pureV P (Instr.extract v i)
  | .tup cs => match cs[i]? with
    | some v => some (v, .no)
    | none => none
  | _ => none
theorem extractX_good {w0 : Bs} {g : Gh} {S : St} {w : World} (hM : M w0 g S.heap w) {x v : V} {n : Nat} {f : Eff} {a : Value} (h : extractX P x n = some (v, f)) (rx : V.rel g.ν x a) : Good P w0 g S w (Instr.extract a n) v f := by
  unfold extractX at h
  split at h
  · simp only [V.rel] at rx
    subst rx
    exact pureV_good P hM h
  · rename_i cs
    simp only [V.rel] at rx
    obtain ⟨xs, hx, rfl⟩ := rx
    split at h
    · rename_i y hy
      cases h
      obtain ⟨u, h1, h2⟩ := rels_get hx hy
      refine Good.no P hM (u := u) ?_ h2
      simp [Instr.extract, h1]
    · cases h
  · cases h
/-- Turned into another type. -/
def convX (src dst : TypeId) (x : V) (S : St) : Option (V × Eff) := match x with
  | .s (.string s) => match pureV P (convert src dst (.string s)) with
    | some r => some r
    | none => ofStrX P src dst s S
  | .s v => pureV P (convert src dst v)
  | .slc id off len _ => toStrX P src dst id off len S
  | .slu id off len => toStrX P src dst id off len S
  | .ptr id off => match P.underlying src, P.underlying dst, find id S.heap with
    | some (.pointer t), some .unsafePointer, some (.row cs _ _ _) => match P.info? t with
      | some i => bif !Nat.beq i.size 0 && Nat.blt off cs.length then some (.ptr id off, .no) else none
      | none => none
    | some .unsafePointer, some (.pointer u), some (.row cs e none _) => bif (P.info? u).isSome && liesAt P P.depth e (cs.length / P.cellsOf e) off u 1 then some (.ptr id off, .no) else none
    | _, _, _ => none
  | _ => none
theorem convX_good {w0 : Bs} {g : Gh} {S : St} {w : World} (hM : M w0 g S.heap w) (hn : g.ν S.next = none) {s d : TypeId} {x v : V} {f : Eff} {a : Value} (h : convX P s d x S = some (v, f)) (rx : V.rel g.ν x a) : Good P w0 g S w (convert s d a) v f := by
  unfold convX at h
  split at h
  · rename_i b
    simp only [V.rel] at rx
    subst rx
    split at h
    · rename_i r hr
      cases h
      exact pureV_good P hM hr
    · exact ofStrX_good P hM hn h
  · simp only [V.rel] at rx
    subst rx
    exact pureV_good P hM h
  · simp only [V.rel] at rx
    obtain ⟨k, c, hk, rfl⟩ := rx
    exact toStrX_good P hM h hk
  · simp only [V.rel] at rx
    obtain ⟨k, c, cp, hk, _, rfl⟩ := rx
    exact toStrX_good P hM h hk
  · rename_i id off
    have rx0 := rx
    simp only [V.rel] at rx
    obtain ⟨k, c, hk, rfl⟩ := rx
    split at h
    · rename_i t cs e tl fz hs hd hf
      obtain ⟨k', c', o, h1, h2, h3, xs, ys, fr, h4, rfl, _⟩ := hM.blk _ _ hf
      rw [hk] at h1
      cases h1
      have hl := rels_length h4
      split at h
      · rename_i i hi
        cases hb : (!Nat.beq i.size 0 && Nat.blt off cs.length) with
        | false => rw [hb] at h; cases h
        | true =>
          rw [hb] at h
          cases h
          simp only [Bool.and_eq_true, Bool.not_eq_true'] at hb
          have hne : i.size ≠ 0 := fun e => by rw [e] at hb; cases hb.1
          have hlt : off < cs.length := by have := hb.2; unfold Nat.blt at this; exact Nat.le_of_ble_eq_true this
          refine Good.no P hM (u := .pointer (some ⟨k, off, none⟩)) ?_ rx0
          have hoff : ¬ (off ≥ xs.length + ys.length) := by omega
          simp [convert, run_underlying hs, run_underlying hd, Conv.unsafePointer, Conv.seenAt, viewAt, World.shape?, h3, cellsIn, run_sizeOf' P hi, hne, hoff]
      · cases h
    · rename_i u cs e fz hs hd hf
      obtain ⟨k', c', o, h1, h2, h3, xs, ys, fr, h4, rfl, _, h5⟩ := hM.blk _ _ hf
      rw [hk] at h1
      cases h1
      have hl := rels_length h4
      simp only at h5
      subst h5
      cases hb : ((P.info? u).isSome && liesAt P P.depth e (cs.length / P.cellsOf e) off u 1) with
      | false => rw [hb] at h; cases h
      | true =>
        rw [hb] at h
        cases h
        simp only [Bool.and_eq_true, Option.isSome_iff_exists] at hb
        obtain ⟨⟨i, hi⟩, hb⟩ := hb
        refine Good.no P hM (u := .pointer (some ⟨k, off, none⟩)) ?_ rx0
        rw [← hl] at hb
        simp [convert, run_underlying hs, run_underlying hd, Conv.unsafePointer, Conv.seenAt, viewAt, World.shape?, h3, run_sizeOf' P hi, variablesAt, hb]
    · cases h
  · cases h
end
end Go.Proofs.YtmpmbnmldmpmiaaGreatDoor.Sim
set_option linter.unusedVariables false
set_option linter.unusedSimpArgs false
namespace Go.Proofs.YtmpmbnmldmpmiaaGreatDoor.Sim
open Go Go.RowKit
section
variable (P : Program) (T : Nat → Option (List Value))
theorem getObj_map' {w : World} {r : Nat} {es : Array MapEntry} {c : Nat} (h : w.heap[r]? = some (.map es c)) : (getObj r).run P w = .ok (.map es c) w := by
  simp [getObj, Sem.run, h]
def lenX (ats : Array TypeId) (ty : TypeId) (x : V) (S : St) : Option (V × Eff) := match x with
  | .s v => pureV P (Builtin.len_ ats ty #[v])
  | .slc _ _ len _ => match ats[0]? with
    | some t => match P.underlying t with
      | some (.slice _) => some (.s (.int .i64 len), .no)
      | _ => none
    | none => none
  | .slu _ _ len => match ats[0]? with
    | some t => match P.underlying t with
      | some (.slice _) => some (.s (.int .i64 len), .no)
      | _ => none
    | none => none
  | .map id => match ats[0]?, find id S.heap with
    | some t, some (.map es) => match P.underlying t with
      | some (.map _ _) => some (.s (.int .i64 es.length), .no)
      | _ => none
    | _, _ => none
  | _ => none
theorem entries_length : ∀ (ks vs : List Value) (i : Nat), vs.length = ks.length → (entries ks vs i).length = ks.length
  | [], [], i, _ => rfl
  | k :: ks, v :: vs, i, h => by
    simp only [List.length_cons, Nat.add_right_cancel_iff] at h
    simp [entries, entries_length ks vs (i + 1) h]
theorem lenX_good {w0 : Bs} {g : Gh} {S : St} {w : World} (hM : M w0 g S.heap w) {ats : Array TypeId} {ty : TypeId} {x v : V} {f : Eff} {a : Value} (h : lenX P ats ty x S = some (v, f)) (rx : V.rel g.ν x a) : Good P w0 g S w (Builtin.len_ ats ty #[a]) v f := by
  unfold lenX at h
  split at h
  · simp only [V.rel] at rx
    subst rx
    exact pureV_good P hM h
  · simp only [V.rel] at rx
    obtain ⟨k, c, hk, rfl⟩ := rx
    split at h
    · rename_i t ht
      split at h
      · rename_i e hd
        cases h
        refine Good.no P hM (u := .int .i64 _) ?_ (by simp only [V.rel]; rfl)
        simp [Builtin.len_, ht, run_underlying hd, goInt]
      · cases h
    · cases h
  · simp only [V.rel] at rx
    obtain ⟨k, c, cp, hk, _, rfl⟩ := rx
    split at h
    · rename_i t ht
      split at h
      · rename_i e hd
        cases h
        refine Good.no P hM (u := .int .i64 _) ?_ (by simp only [V.rel]; rfl)
        simp [Builtin.len_, ht, run_underlying hd, goInt]
      · cases h
    · cases h
  · simp only [V.rel] at rx
    obtain ⟨k, c, hk, rfl⟩ := rx
    split at h
    · rename_i t es ht hf
      split at h
      · rename_i kt et hd
        cases h
        obtain ⟨k', c', o, h1, h2, h3, vs, h4, rfl⟩ := hM.blk _ _ hf
        rw [hk] at h1
        cases h1
        refine Good.no P hM (u := .int .i64 es.length) ?_ (by simp only [V.rel])
        have hl := rels_length h4
        have := entries_length (es.map (·.1)) vs 0 (by simpa using hl)
        simp [Builtin.len_, ht, run_underlying hd, goInt, getObj_map' P h3]
        rw [this]
        simp
      · cases h
    · cases h
  · cases h
def capX (ats : Array TypeId) (ty : TypeId) (x : V) : Option (V × Eff) := match x with
  | .s v => pureV P (Builtin.cap_ ats ty #[v])
  | .slc _ _ _ (some c) => match ats[0]? with
    | some t => match P.underlying t with
      | some (.slice _) => some (.s (.int .i64 c), .no)
      | _ => none
    | none => none
  | _ => none
theorem capX_good {w0 : Bs} {g : Gh} {S : St} {w : World} (hM : M w0 g S.heap w) {ats : Array TypeId} {ty : TypeId} {x v : V} {f : Eff} {a : Value} (h : capX P ats ty x = some (v, f)) (rx : V.rel g.ν x a) : Good P w0 g S w (Builtin.cap_ ats ty #[a]) v f := by
  unfold capX at h
  split at h
  · simp only [V.rel] at rx
    subst rx
    exact pureV_good P hM h
  · simp only [V.rel] at rx
    obtain ⟨k, c, hk, rfl⟩ := rx
    split at h
    · rename_i t ht
      split at h
      · rename_i e hd
        cases h
        refine Good.no P hM (u := .int .i64 _) ?_ (by simp only [V.rel]; rfl)
        simp [Builtin.cap_, ht, run_underlying hd, goInt]
      · cases h
    · cases h
  · cases h
def copyX (ats : Array TypeId) (d s : V) (S : St) : Option (V × Eff) := match ats[0]?, d with
  | some t, .slc id off m _ => match P.underlying t with
    | some (.slice elem) => match P.info? elem with
      | some ie => match srcX T ie.size s S.heap with
        | some (n, l) => bif Nat.ble n m then (match putX id off l S with
          | some f => some (.s (.int .i64 n), f)
          | none => none) else none
        | none => none
      | none => none
    | _ => none
  | _, _ => none
theorem copyX_good {w0 : Bs} (hT : Tab T w0) {g : Gh} {S : St} {w : World} (hM : M w0 g S.heap w) {ats : Array TypeId} {ty : TypeId} {d s v : V} {f : Eff} {a b : Value} (h : copyX P T ats d s S = some (v, f)) (rd : V.rel g.ν d a) (rs : V.rel g.ν s b) : Good P w0 g S w (Builtin.copy_ ats ty #[a, b]) v f := by
  unfold copyX at h
  split at h
  rotate_left
  · cases h
  rename_i t id off m cap ht
  simp only [V.rel] at rd
  obtain ⟨k, c, hk, rfl⟩ := rd
  split at h
  rotate_left
  · cases h
  rename_i elem hd
  split at h
  rotate_left
  · cases h
  rename_i ie hie
  split at h
  rotate_left
  · cases h
  rename_i n l hl
  obtain ⟨h1, xs, h2, h3⟩ := srcX_spec P T hT hM hl rs
  cases hb : Nat.ble n m with
  | false => rw [hb] at h; cases h
  | true =>
  rw [hb] at h
  simp only [cond_true] at h
  split at h
  rotate_left
  · cases h
  rename_i f' hf
  cases h
  obtain ⟨bb, k2, c2, o, w', rfl, e1, e2, e3, e4, e5, e6⟩ := putX_spec P hM hf h3
  rw [hk] at e1
  cases e1
  have hmin : Nat.min n m = n := Nat.min_eq_left (Nat.le_of_ble_eq_true hb)
  refine Good.put P hM hk e2 e3 (u := .int .i64 n) (w' := w') ?_ e5 e6 (by simp only [V.rel])
  have h2' : (Builtin.firstCells ie.size n b).run P w = .ok xs.toArray w := h2 w.drawn
  simp only [Builtin.copy_, ht, List.getElem?_toArray, List.getElem?_cons_zero, List.getElem?_cons_succ, Sem.run_bind, run_underlying hd, Result.andThen_ok, h1, hmin, run_sizeOf' P hie, h2', e4, Sem.run_pure, goInt]
def sliceDataX (ats : Array TypeId) (ty : TypeId) (x : V) (S : St) : Option (V × Eff) := match x with
  | .s v => pureV P (Builtin.unsafeSliceData_ ats ty #[v])
  | .slc id off _ (some (_ + 1)) => some (.ptr id off, .no)
  | .slc id off _ none => match find id S.heap with
    | some (.row cs _ (some _) _) => bif Nat.ble 1 cs.length then some (.ptr id off, .no) else none
    | _ => none
  | _ => none
theorem sliceData_run {ats : Array TypeId} {ty : TypeId} {a : Addr} {len c : Nat} (hc : c ≠ 0) (w : World) : (Builtin.unsafeSliceData_ ats ty #[.slice (some a) len c]).run P w = .ok (.pointer (some a)) w := by
  have e : Builtin.unsafeSliceData_ ats ty #[.slice (some a) len c] = (if c ≠ 0 then pure (.pointer (some a)) else do
    if (← viewAt a.block).isSome then pure (.pointer (some a)) else pure (.pointer (some ⟨← newObj (.view a (← elemOf ty)), 0, none⟩))) := rfl
  rw [e, if_pos hc]
  rfl
theorem sliceDataX_good {w0 : Bs} {g : Gh} {S : St} {w : World} (hM : M w0 g S.heap w) {ats : Array TypeId} {ty : TypeId} {x v : V} {f : Eff} {a : Value} (h : sliceDataX P ats ty x S = some (v, f)) (rx : V.rel g.ν x a) : Good P w0 g S w (Builtin.unsafeSliceData_ ats ty #[a]) v f := by
  unfold sliceDataX at h
  split at h
  · simp only [V.rel] at rx
    subst rx
    exact pureV_good P hM h
  · simp only [V.rel] at rx
    obtain ⟨k, c, hk, rfl⟩ := rx
    cases h
    refine Good.no P hM (u := .pointer (some ⟨k, _, none⟩)) ?_ (by simp only [V.rel]; exact ⟨k, c, hk, rfl⟩)
    exact sliceData_run P (Nat.succ_ne_zero _) w
  · simp only [V.rel] at rx
    obtain ⟨k, c, hk, rfl⟩ := rx
    split at h
    · rename_i cs e q fz hf
      cases hb : Nat.ble 1 cs.length with
      | false => rw [hb] at h; cases h
      | true =>
        rw [hb] at h
        cases h
        obtain ⟨k', c', o, h1, h2, h3, xs, ys, fr, h4, rfl, _, h5⟩ := hM.blk _ _ hf
        rw [hk] at h1
        cases h1
        have hc : c ≠ 0 := fun e => by
          subst e
          simp only [Nat.zero_mul] at h5
          have := rels_length h4
          have := Nat.le_of_ble_eq_true hb
          omega
        refine Good.no P hM (u := .pointer (some ⟨k, _, none⟩)) ?_ (by simp only [V.rel]; exact ⟨k, c, hk, rfl⟩)
        exact sliceData_run P hc w
    · cases h
  · cases h
theorem loadBytes_run {k : Nat} {w : World} {ν : Val} : ∀ (l : List V) (off : Nat) (bs : List UInt8) (xs : List Value) (acc : ByteArray), bytesX l = some bs → V.rels ν l xs → (∀ j x, xs[j]? = some x → w.cell? ⟨k, off + j, none⟩ = some x) →
    (loadBytes ⟨k, off, none⟩ acc l.length).run P w = .ok ⟨acc.data ++ bs.toArray⟩ w
  | [], off, bs, xs, acc, h, r, hc => by
    simp only [bytesX, Option.some.injEq] at h
    subst h
    simp [loadBytes]
  | .s (.int .u8 b) :: l, off, bs, xs, acc, h, r, hc => by
    simp only [V.rels, V.rel] at r
    obtain ⟨x, xs', rfl, r2, rfl⟩ := r
    simp only [bytesX] at h
    split at h
    · rename_i l' hl
      cases h
      have h0 := hc 0 _ rfl
      rw [Nat.add_zero] at h0
      have := loadBytes_run l (off + 1) l' xs' (acc.push b.toNat.toUInt8) hl r2 (fun j x hj => by
        have := hc (j + 1) x (by simpa using hj)
        rw [show off + 1 + j = off + (j + 1) by omega]
        exact this)
      simp only [List.length_cons, loadBytes, Sem.run_bind, run_load, h0, Result.andThen_ok, add_eq, this]
      congr 1
      simp [ByteArray.push]
    · cases h
  | .s (.bool _) :: _, _, _, _, _, h, _, _ => by cases h
  | .s (.int .i8 _) :: _, _, _, _, _, h, _, _ => by cases h
  | .s (.int .i16 _) :: _, _, _, _, _, h, _, _ => by cases h
  | .s (.int .i32 _) :: _, _, _, _, _, h, _, _ => by cases h
  | .s (.int .i64 _) :: _, _, _, _, _, h, _, _ => by cases h
  | .s (.int .u16 _) :: _, _, _, _, _, h, _, _ => by cases h
  | .s (.int .u32 _) :: _, _, _, _, _, h, _, _ => by cases h
  | .s (.int .u64 _) :: _, _, _, _, _, h, _, _ => by cases h
  | .s (.float _ _) :: _, _, _, _, _, h, _, _ => by cases h
  | .s (.complex _ _ _) :: _, _, _, _, _, h, _, _ => by cases h
  | .s (.string _) :: _, _, _, _, _, h, _, _ => by cases h
  | .s (.pointer _) :: _, _, _, _, _, h, _, _ => by cases h
  | .s (.slice _ _ _) :: _, _, _, _, _, h, _, _ => by cases h
  | .s (.map _) :: _, _, _, _, _, h, _, _ => by cases h
  | .s (.chan _) :: _, _, _, _, _, h, _, _ => by cases h
  | .s (.func _ _ _) :: _, _, _, _, _, h, _, _ => by cases h
  | .s .nilFunc :: _, _, _, _, _, h, _, _ => by cases h
  | .s (.iface _ _) :: _, _, _, _, _, h, _, _ => by cases h
  | .s .nilIface :: _, _, _, _, _, h, _, _ => by cases h
  | .s (.agg _) :: _, _, _, _, _, h, _, _ => by cases h
  | .s (.tuple _) :: _, _, _, _, _, h, _, _ => by cases h
  | .ptr _ _ :: _, _, _, _, _, h, _, _ => by cases h
  | .slc _ _ _ _ :: _, _, _, _, _, h, _, _ => by cases h
  | .slu _ _ _ :: _, _, _, _, _, h, _, _ => by cases h
  | .map _ :: _, _, _, _, _, h, _, _ => by cases h
  | .fn _ _ _ :: _, _, _, _, _, h, _, _ => by cases h
  | .ifc _ _ :: _, _, _, _, _, h, _, _ => by cases h
  | .agg _ :: _, _, _, _, _, h, _, _ => by cases h
  | .tup _ :: _, _, _, _, _, h, _, _ => by cases h
def unsafeStrX (ats : Array TypeId) (ty : TypeId) (p n : V) (S : St) : Option (V × Eff) := match p, n with
  | .s p, .s n => pureV P (Builtin.unsafeString_ ats ty #[p, n])
  | .ptr id off, .s (.int .i64 n) => match ats[0]?, find id S.heap with
    | some pt, some (.row cs e tl fz) => match P.underlying pt with
      | some (.pointer u) => bif decide (n = 0) then some (.s (.string .empty), .no) else
        bif fz.firm && (decide (0 < n) && decide (n ≤ 1000000) && Nat.beq e u && Nat.beq (P.cellsOf e) 1 && Nat.ble (off + n.toNat) cs.length && Nat.blt id S.next) then (match bytesX ((cs.drop off).take n.toNat) with
          | some bs => some (.s (.string ⟨bs.toArray⟩), .put id (.row cs e tl .view))
          | none => none) else none
      | _ => none
    | _, _ => none
  | _, _ => none
theorem liesAt_same (e count off n : Nat) (hc : P.cellsOf e = 1) (h : off + n ≤ count) : liesAt P P.depth e count off e n = true := by
  have hd : P.depth = (2 * (P.types.size + Made.depth) + 1) + 1 := rfl
  rw [hd]
  simp only [liesAt, rowAt, hc, ← hd]
  rw [hd]
  simp only [rowAt, hc, Nat.div_one, Nat.mod_one, sameLayout]
  simp [h]
theorem frozen_view {fz : Fz} {lo hi a b off n : Nat} (h : FzOk fz (lo, hi) a b) (k : fz.firm = true) (hn : off + n ≤ a) : FzOk .view (if lo == hi then (off, off + n) else (min lo off, max hi (off + n))) a b := by
  cases fz with
  | no =>
    have h : lo = hi := h
    rw [if_pos (by simpa using h)]
    exact hn
  | soft => cases k
  | view =>
    have h : hi ≤ a := h
    show (if lo == hi then (off, off + n) else (min lo off, max hi (off + n))).2 ≤ a
    split
    · exact hn
    · show max hi (off + n) ≤ a
      omega
theorem unsafeString_eq {ats : Array TypeId} {ty : TypeId} {a : Addr} {n : Int} : Builtin.unsafeString_ ats ty #[.pointer (some a), .int .i64 n] = (do
    let some pt := ats[0]? | stuck "unsafe.String: no argument types"
    if n < 0 then runtimePanic (.error "unsafe.String: len out of range")
    if n > IntKind.i64.max then unsupported (.unsafePointer "String: a length above the largest int")
    if n = 0 then pure (.string .empty)
    else if ← variablesAt a (← elemOf pt) n.toNat then do
      let s ← loadBytes a .empty n.toNat
      freeze a n.toNat
      pure (.string s)
    else unsupported (.unsafePointer "String: not so many bytes at ptr")) := rfl
theorem unsafeStrX_good {w0 : Bs} {g : Gh} {S : St} {w : World} (hM : M w0 g S.heap w) {ats : Array TypeId} {ty : TypeId} {p n v : V} {f : Eff} {a b : Value} (h : unsafeStrX P ats ty p n S = some (v, f)) (rp : V.rel g.ν p a) (rn : V.rel g.ν n b) :
    Good P w0 g S w (Builtin.unsafeString_ ats ty #[a, b]) v f := by
  unfold unsafeStrX at h
  split at h
  · simp only [V.rel] at rp rn
    subst rp
    subst rn
    exact pureV_good P hM h
  · rename_i id off n
    simp only [V.rel] at rp rn
    obtain ⟨k, c, hk, rfl⟩ := rp
    subst rn
    split at h
    · rename_i pt cs e tl fz hpt hf
      split at h
      · rename_i u hu
        by_cases h0 : n = 0
        · subst h0
          simp only [decide_true, cond_true, Option.some.injEq, Prod.mk.injEq] at h
          obtain ⟨rfl, rfl⟩ := h
          refine Good.no P hM (u := .string .empty) ?_ (by simp only [V.rel])
          rw [unsafeString_eq]
          simp [hpt, IntKind.max, IntKind.signed, IntKind.bits]
        · rw [decide_eq_false h0] at h
          simp only [cond_false] at h
          cases hb : (fz.firm && (decide (0 < n) && decide (n ≤ 1000000) && Nat.beq e u && Nat.beq (P.cellsOf e) 1 && Nat.ble (off + n.toNat) cs.length && Nat.blt id S.next)) with
          | false => rw [hb] at h; cases h
          | true =>
            rw [hb] at h
            simp only [cond_true] at h
            split at h
            · rename_i bs hbs
              cases h
              simp only [Bool.and_eq_true, decide_eq_true_eq] at hb
              obtain ⟨b0, ⟨⟨⟨⟨b1, b2⟩, b3⟩, b4⟩, b5⟩, b6⟩ := hb
              have b3 := Nat.eq_of_beq_eq_true b3
              subst b3
              have b4 := Nat.eq_of_beq_eq_true b4
              have b5 := Nat.le_of_ble_eq_true b5
              have b6 : id < S.next := by unfold Nat.blt at b6; exact Nat.le_of_ble_eq_true b6
              obtain ⟨k', c', o, h1, h2, h3, xs, ys, ⟨lo, hi⟩, h4, rfl, h5, h6⟩ := hM.blk _ _ hf
              rw [hk] at h1
              cases h1
              have hl := rels_length h4
              have hlen : ((cs.drop off).take n.toNat).length = n.toNat := by simp; omega
              have hrun := loadBytes_run P (k := k) (w := w) ((cs.drop off).take n.toNat) off bs _ .empty hbs (rels_take n.toNat (rels_drop off h4)) (fun j x hj => by
                have hj' := (List.getElem?_eq_some_iff.1 hj).1
                rw [List.getElem?_take_of_lt (by simp at hj'; omega), List.getElem?_drop] at hj
                have hlt := (List.getElem?_eq_some_iff.1 hj).1
                simp only [World.cell?, h3]
                simpa [List.getElem?_append_left hlt] using hj)
              rw [hlen] at hrun
              refine Good.put P hM hk h2 b6 (u := .string ⟨bs.toArray⟩) (w' := w.freeze ⟨k, off, none⟩ n.toNat) ?_ (freeze_turned h3 (by omega)) ⟨xs, ys, _, h4, rfl, (frozen_view h5 b0 (by omega)), h6⟩ (by simp only [V.rel])
              have hva : (variablesAt ⟨k, off, none⟩ e n.toNat).run P w = .ok true w := by
                have := liesAt_same P e (xs.length + ys.length) off n.toNat b4 (by omega)
                simp [variablesAt, World.shape?, h3, b4, this]
              have hel : (elemOf pt).run P w = .ok e w := by simp [elemOf, run_underlying hu]
              have hmx : ¬ n > IntKind.i64.max := by
                have : IntKind.i64.max = 9223372036854775807 := by decide
                omega
              rw [unsafeString_eq]
              simp only [Sem.run_bind, Sem.run_pure, Result.andThen_ok, hpt, if_neg (show ¬ n < 0 by omega), if_neg hmx, if_neg h0, hel, hva, if_true, hrun, run_freeze]
              simp
            · cases h
      · cases h
    · cases h
  · cases h
end
end Go.Proofs.YtmpmbnmldmpmiaaGreatDoor.Sim
set_option linter.unusedVariables false
set_option linter.unusedSimpArgs false
namespace Go.Proofs.YtmpmbnmldmpmiaaGreatDoor.Sim
open Go Go.RowKit
section
variable (P : Program) (T : Nat → Option (List Value))
def isIntO : Option V → Bool
  | none => true
  | some (.s (.int _ _)) => true
  | _ => false
def makeMapX (t : TypeId) (r : Option V) (S : St) : Option (V × Eff) := match P.underlying t with
  | some (.map _ _) => bif isIntO r then some (.map S.next, .new (.map [])) else none
  | _ => none
theorem makeMapX_good {w0 : Bs} {g : Gh} {S : St} {w : World} (hM : M w0 g S.heap w) (hn : g.ν S.next = none) {t : TypeId} {r : Option Operand} {ev : Operand → V} {ρ : Operand → Value} (hev : ∀ x, V.rel g.ν (ev x) (ρ x)) {v : V} {f : Eff} (h : makeMapX P t (r.map ev) S = some (v, f)) :
    Good P w0 g S w (Instr.makeMap t (r.map ρ)) v f := by
  unfold makeMapX at h
  split at h
  rotate_left
  · cases h
  rename_i kt et hd
  have hrun : ∀ b, isIntO (r.map ev) = b → b = true → (Instr.makeMap t (r.map ρ)).run P w = .ok (.map (some w.heap.size)) (w.alloc (.map #[] 0)) := by
    intro b hb e
    subst e
    cases r with
    | none => rfl
    | some x =>
      have hx := hev x
      simp only [Option.map_some] at hb ⊢
      unfold isIntO at hb
      split at hb
      · rename_i e; cases e
      · rename_i kk n e
        simp only [Option.some.injEq] at e
        rw [e] at hx
        simp only [V.rel] at hx
        rw [hx]
        simp [Instr.makeMap, run_underlying hd, asInt, asIntOf]
      · cases hb
  cases hb : isIntO (r.map ev) with
  | false => rw [hb] at h; cases h
  | true =>
    rw [hb] at h
    cases h
    refine Good.new P hM hn 0 (o := .map #[] 0) (u := .map (some w.heap.size)) (hrun true hb rfl) ⟨[], rels_nil, rfl⟩ ?_
    simp only [V.rel]
    exact ⟨_, _, Gh.add_same, rfl⟩
/-- A key's place among entries. -/
def findX (d : TypeDesc) (k : Value) : List (Value × V) → Option (Option V)
  | [] => some none
  | (q, v) :: r => match Instr.sameNow d k q with
    | some true => some (some v)
    | some false => findX d k r
    | none => none
theorem findX_run {ν : Val} {d : TypeDesc} {k : Value} : ∀ (es : List (Value × V)) (vs : List Value) (i j : Nat) (r : Option V), V.rels ν (es.map (·.2)) vs → findX d k es = some r →
    match r with
    | none => Instr.findNow d k (entries (es.map (·.1)) vs i) j = some none
    | some v => ∃ n u, Instr.findNow d k (entries (es.map (·.1)) vs i) j = some (some (n, u)) ∧ V.rel ν v u
  | [], vs, i, j, r, h, e => by
    simp only [findX, Option.some.injEq] at e
    subst e
    rfl
  | (q, v) :: es, vs, i, j, r, h, e => by
    simp only [List.map_cons, V.rels] at h
    obtain ⟨x, xs, h1, h2, rfl⟩ := h
    simp only [findX] at e
    simp only [List.map_cons, entries, Instr.findNow]
    split at e
    · rename_i hs
      cases e
      simp only [hs]
      exact ⟨j, x, rfl, h1⟩
    · rename_i hs
      have := findX_run es xs (i + 1) (j + 1) r h2 e
      simp only [hs]
      exact this
    · cases e
def keyOk : TypeDesc → Value → Bool
  | .int _, .int _ _ => true
  | .string, .string _ => true
  | _, _ => false
theorem checkKey_run {kt : TypeId} {d : TypeDesc} {k : Value} (hd : P.underlying kt = some d) (hk : keyOk d k = true) (e : Bool) (n : Nat) (w : World) : (Instr.checkKey e (n + 1) kt k).run P w = .ok () w := by
  unfold Instr.checkKey
  simp only [Sem.run_bind, run_underlying hd, Result.andThen_ok]
  cases d <;> cases k <;> first | (cases hk; done) | simp
theorem findKey_run {kt : TypeId} {d : TypeDesc} {k : Value} {l : List MapEntry} {a : Option (Nat × Value)} (hd : P.underlying kt = some d) (h : Instr.findNow d k l 0 = some a) (w : World) : (Instr.findKey kt k l).run P w = .ok a w := by
  simp [Instr.findKey, run_underlying hd, h]
def lookupX (t : TypeId) (x i : V) (ok : Bool) (S : St) : Option (V × Eff) := match P.underlying t, x, i with
  | some (.map kt et), .map id, .s k => match P.underlying kt, find id S.heap with
    | some d, some (.map es) => bif keyOk d k then (match findX d k es with
      | some (some v) => some (bif ok then mkTup [v, .s (.bool true)] else v, .no)
      | some none => match P.info? et with
        | some i => match i.zero with
          | some z => some (bif ok then mkTup [.s z, .s (.bool false)] else .s z, .no)
          | none => none
        | none => none
      | none => none) else none
    | _, _ => none
  | _, _, _ => none
theorem lookupX_good {w0 : Bs} {g : Gh} {S : St} {w : World} (hM : M w0 g S.heap w) {t : TypeId} {x i v : V} {ok : Bool} {f : Eff} {a b : Value} (h : lookupX P t x i ok S = some (v, f)) (rx : V.rel g.ν x a) (ri : V.rel g.ν i b) :
    Good P w0 g S w (Instr.lookup t a b ok) v f := by
  unfold lookupX at h
  split at h
  rotate_left
  · cases h
  rename_i kt et id k hd
  simp only [V.rel] at rx ri
  obtain ⟨kk, c, hk, rfl⟩ := rx
  rw [ri]
  clear ri
  split at h
  rotate_left
  · cases h
  rename_i d es hkd hf
  obtain ⟨k', c', o, h1, h2, h3, vs, h4, rfl⟩ := hM.blk _ _ hf
  rw [hk] at h1
  cases h1
  cases hko : keyOk d k with
  | false => rw [hko] at h; cases h
  | true =>
  rw [hko] at h
  simp only [cond_true] at h
  have hck : ∀ e, (Instr.checkKey e 10000 kt k).run P w = .ok () w := fun e => checkKey_run P hkd hko e 9999 w
  split at h
  · rename_i y hy
    cases h
    obtain ⟨n, u, h5, h6⟩ := findX_run es vs 0 0 (some y) h4 hy
    have hfk := findKey_run P hkd h5 w
    refine Good.no P hM (u := if ok then .tuple #[u, .bool true] else u) ?_ ?_
    · simp only [Instr.lookup, Sem.run_bind, run_underlying hd, Result.andThen_ok, getObj_map' P h3, Sem.run_pure, hck, hfk]
    · cases ok with
      | true => exact mkTup_rel (rels_cons h6 (rels_singleton (by simp only [V.rel])))
      | false => exact h6
  · rename_i hy
    split at h
    · rename_i i hi
      split at h
      · rename_i z hz
        cases h
        have h5 := findX_run es vs 0 0 none h4 hy
        have hfk := findKey_run P hkd h5 w
        refine Good.no P hM (u := if ok then .tuple #[z, .bool false] else z) ?_ ?_
        · simp only [Instr.lookup, Sem.run_bind, run_underlying hd, Result.andThen_ok, getObj_map' P h3, Sem.run_pure, hck, hfk, run_zeroValue' P hi hz]
        · cases ok with
          | true => exact mkTup_rel (xs := [z, .bool false]) (rels_cons rel_s (rels_singleton rel_s))
          | false => simp only [cond_false, V.rel]; rfl
      · cases h
    · cases h
  · cases h
theorem entries_push : ∀ (ks vs : List Value) (i : Nat) (k v : Value), vs.length = ks.length → entries ks vs i ++ [⟨k, v, i + ks.length⟩] = entries (ks ++ [k]) (vs ++ [v]) i
  | [], [], i, k, v, _ => rfl
  | q :: ks, u :: vs, i, k, v, h => by
    simp only [List.length_cons, Nat.add_right_cancel_iff] at h
    simp only [entries, List.cons_append, List.length_cons]
    rw [← entries_push ks vs (i + 1) k v h, show i + (ks.length + 1) = i + 1 + ks.length by omega]
def mapUpdateX (t : TypeId) (x k v : V) (S : St) : Option Eff := match P.underlying t, x, k with
  | some (.map kt _), .map id, .s k => match P.underlying kt, find id S.heap with
    | some d, some (.map es) => bif keyOk d k && Nat.blt id S.next then (match findX d k es with
      | some none => some (.put id (.map (es ++ [(k, v)])))
      | _ => none) else none
    | _, _ => none
  | _, _, _ => none
theorem heap_set_turned {w : World} {k : Nat} {o o' : Obj} (h : w.heap[k]? = some o) : Turned k o' w { w with heap := w.heap.setIfInBounds k o' } := by
  have hlt : k < w.heap.size := (Array.getElem?_eq_some_iff.1 h).1
  refine ⟨rfl, rfl, rfl, by simp, by simp [hlt], fun j hj => by simp [Ne.symm hj]⟩
theorem mapUpdateX_good {w0 : Bs} {g : Gh} {S : St} {w : World} (hM : M w0 g S.heap w) {t : TypeId} {x k v : V} {f : Eff} {a b c : Value} (h : mapUpdateX P t x k v S = some f) (rx : V.rel g.ν x a) (rk : V.rel g.ν k b) (rv : V.rel g.ν v c) :
    GoodU P w0 g S w (Instr.mapUpdate t a b c) f := by
  unfold mapUpdateX at h
  split at h
  rotate_left
  · cases h
  rename_i kt et id k hd
  simp only [V.rel] at rx rk
  obtain ⟨kk, cc, hk, rfl⟩ := rx
  rw [rk]
  clear rk
  split at h
  rotate_left
  · cases h
  rename_i d es hkd hf
  obtain ⟨k', c', o, h1, h2, h3, vs, h4, rfl⟩ := hM.blk _ _ hf
  rw [hk] at h1
  cases h1
  cases hko : (keyOk d k && Nat.blt id S.next) with
  | false => rw [hko] at h; cases h
  | true =>
  rw [hko] at h
  simp only [cond_true] at h
  simp only [Bool.and_eq_true] at hko
  have hlt : id < S.next := by have := hko.2; unfold Nat.blt at this; exact Nat.le_of_ble_eq_true this
  have hck : ∀ e, (Instr.checkKey e 10000 kt k).run P w = .ok () w := fun e => checkKey_run P hkd hko.1 e 9999 w
  split at h
  · rename_i hy
    cases h
    have h5 := findX_run es vs 0 0 none h4 hy
    have hfk := findKey_run P hkd h5 w
    have hl := rels_length h4
    have ht := heap_set_turned (o' := .map (entries ((es ++ [(k, v)]).map (·.1)) (vs ++ [c]) 0).toArray (es ++ [(k, v)]).length) h3
    refine ⟨_, g, ?_, hM.turn hk h2 ht ⟨vs ++ [c], ?_, rfl⟩, Fr.turn h2 ht (by simp only [Eff.run, lower_eq]; omega) hlt (Nat.le_refl _)⟩
    · have he := entries_push (es.map (·.1)) vs 0 k c (by simpa using hl)
      simp only [Instr.mapUpdate, Sem.run_bind, run_underlying hd, Result.andThen_ok, getObj_map' P h3, hck, hfk]
      have hset : ∀ o', (setObj kk o').run P w = .ok () { w with heap := w.heap.setIfInBounds kk o' } := fun o' => by simp [setObj, Sem.run, h3]
      rw [hset]
      simp only [List.map_append, List.map_cons, List.map_nil, ← he]
      simp
    · rw [List.map_append]
      exact rels_append h4 (rels_singleton rv)
  · cases h
def rangeX (t : TypeId) (x : V) (S : St) : Option (V × Eff) := match P.underlying t, x with
  | some .string, .s (.string s) => some (.ptr S.next 0, .new (.iter s 0))
  | _, _ => none
theorem rangeX_good {w0 : Bs} {g : Gh} {S : St} {w : World} (hM : M w0 g S.heap w) (hn : g.ν S.next = none) {t : TypeId} {x v : V} {f : Eff} {a : Value} (h : rangeX P t x S = some (v, f)) (rx : V.rel g.ν x a) : Good P w0 g S w (Instr.range t a) v f := by
  unfold rangeX at h
  split at h
  · rename_i s hd
    cases h
    simp only [V.rel] at rx
    subst rx
    refine Good.new P hM hn 0 (o := .stringIter s 0) (u := .pointer (some ⟨w.heap.size, 0, none⟩)) ?_ rfl rel_newptr
    simp [Instr.range, run_underlying hd]
  · cases h
def nextX (x : V) (isS : Bool) (S : St) : Option (V × Eff) := match x, isS with
  | .ptr id 0, true => match find id S.heap with
    | some (.iter s pos) => bif Nat.blt pos s.size then (bif Nat.blt id S.next then some (.s (.tuple #[.bool true, .int .i64 pos, .int .i32 (Utf8.decode s pos).1]), .put id (.iter s (pos + (Utf8.decode s pos).2))) else none) else some (.s (.tuple #[.bool false]), .no)
    | _ => none
  | _, _ => none
theorem nextX_good {w0 : Bs} {g : Gh} {S : St} {w : World} (hM : M w0 g S.heap w) {x v : V} {b : Bool} {ty : TypeId} {f : Eff} {a : Value} (h : nextX x b S = some (v, f)) (rx : V.rel g.ν x a) : Good P w0 g S w (Instr.next a b ty) v f := by
  unfold nextX at h
  split at h
  · rename_i id
    simp only [V.rel] at rx
    obtain ⟨k, c, hk, rfl⟩ := rx
    split at h
    · rename_i s pos hf
      obtain ⟨k', c', o, h1, h2, h3, h4⟩ := hM.blk _ _ hf
      rw [hk] at h1
      cases h1
      have h4 : o = .stringIter s pos := h4
      subst h4
      have hget : (getObj k).run P w = .ok (.stringIter s pos) w := by simp [getObj, Sem.run, h3]
      have hset : ∀ o', (setObj k o').run P w = .ok () { w with heap := w.heap.setIfInBounds k o' } := fun o' => by simp [setObj, Sem.run, h3]
      cases hb : Nat.blt pos s.size with
      | true =>
        rw [hb] at h
        simp only [cond_true] at h
        have hlt : pos < s.size := by unfold Nat.blt at hb; exact Nat.le_of_ble_eq_true hb
        cases hb2 : Nat.blt id S.next with
        | false => rw [hb2] at h; cases h
        | true =>
          rw [hb2] at h
          cases h
          have hlt2 : id < S.next := by unfold Nat.blt at hb2; exact Nat.le_of_ble_eq_true hb2
          refine Good.put P hM hk h2 hlt2 (u := .tuple #[.bool true, .int .i64 pos, .int .i32 (Utf8.decode s pos).1]) ?_ (heap_set_turned (o' := .stringIter s (pos + (Utf8.decode s pos).2)) h3) rfl (by simp only [V.rel])
          simp only [Instr.next, Sem.run_bind, hget, Result.andThen_ok, if_pos hlt, hset, Sem.run_pure, goInt]
      | false =>
        rw [hb] at h
        cases h
        have hlt : ¬ pos < s.size := fun e => by rw [show Nat.blt pos s.size = true from Nat.ble_eq_true_of_le e] at hb; cases hb
        refine Good.no P hM (u := .tuple #[.bool false]) ?_ (by simp only [V.rel])
        simp only [Instr.next, Sem.run_bind, hget, Result.andThen_ok, if_neg hlt, Sem.run_pure]
    · cases h
  · cases h
def nilCheckX (x : V) : Option (V × Eff) := match x with
  | .ptr id off => some (.ptr id off, .no)
  | .fn f a c => some (.fn f a c, .no)
  | .s (.pointer (some a)) => some (.s (.pointer (some a)), .no)
  | .s (.func (.func f) a c) => some (.s (.func (.func f) a c), .no)
  | _ => none
def mkIfcX (t : TypeId) (x : V) : Option (V × Eff) := match P.underlying t with
  | some (.interface _) => none
  | some _ => match x with
    | .s v => some (.s (.iface t v), .no)
    | x => some (.ifc t x, .no)
  | none => none
theorem mkIfcX_good {w0 : Bs} {g : Gh} {S : St} {w : World} (hM : M w0 g S.heap w) {t : TypeId} {x v : V} {f : Eff} {a : Value} (h : mkIfcX P t x = some (v, f)) (rx : V.rel g.ν x a) : Good P w0 g S w (Instr.makeInterface t a) v f := by
  unfold mkIfcX at h
  split at h
  · cases h
  · rename_i d hni hd
    have hrun : (Instr.makeInterface t a).run P w = .ok (.iface t a) w := by
      simp only [Instr.makeInterface, Sem.run_bind, run_underlying hd, Result.andThen_ok]
      cases d with
      | interface ms => exact absurd rfl (hni ms)
      | _ => rfl
    split at h
    · cases h
      simp only [V.rel] at rx
      subst rx
      exact Good.no P hM hrun (by simp only [V.rel])
    · cases h
      exact Good.no P hM hrun (by simp only [V.rel]; exact ⟨a, rx, rfl⟩)
  · cases h
def litO : Option V → Option (Option Value)
  | none => some none
  | some (.s v) => some (some v)
  | _ => none
theorem litO_spec {ν : Val} {ev : Operand → V} {ρ : Operand → Value} (hev : ∀ x, V.rel ν (ev x) (ρ x)) {o : Option Operand} {r : Option Value} (h : litO (o.map ev) = some r) : o.map ρ = r := by
  cases o with
  | none => cases h; rfl
  | some x =>
    have hx := hev x
    simp only [Option.map_some] at h ⊢
    unfold litO at h
    split at h
    · rename_i e; cases e
    · rename_i v e
      cases h
      simp only [Option.some.injEq] at e
      rw [e] at hx
      simp only [V.rel] at hx
      rw [hx]
    · cases h
theorem map_rels {ν : Val} {ev : Operand → V} {ρ : Operand → Value} (hev : ∀ x, V.rel ν (ev x) (ρ x)) : ∀ (l : List Operand), V.rels ν (l.map ev) (l.map ρ)
  | [] => rels_nil
  | a :: l => rels_cons (hev a) (map_rels hev l)
end
end Go.Proofs.YtmpmbnmldmpmiaaGreatDoor.Sim
