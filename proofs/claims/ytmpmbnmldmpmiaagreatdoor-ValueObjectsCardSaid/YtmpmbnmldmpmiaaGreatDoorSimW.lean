/- A machine over closed values: a new row of a call's gets a name; contracts from one form into the other. -/
import Derived.Test.YtmpmbnmldmpmiaaGreatDoorSimV
set_option linter.unusedVariables false
set_option linter.unusedSimpArgs false
namespace Go.Proofs.YtmpmbnmldmpmiaaGreatDoor.Sim
open Go Go.RowKit
theorem lits_s : ∀ (l : List Value), lits (l.map V.s) = some l
  | [] => rfl
  | x :: r => by simp only [List.map_cons, lits, lits_s r]
theorem M.adopt {b : Bs} {g : Gh} {H : Heap} {w w' : World} (h : M b g H w) (hb : Below w.heap.size w w') {id k c : Nat} (hn : g.ν id = none) (h1 : w.heap.size ≤ k) (h2 : k < w'.heap.size) {o : Obj} (ho : w'.heap[k]? = some o) {bl : Blk} (hbl : BlkOk (g.add id k c).ν c bl o) : M b (g.add id k c) ((id, bl) :: H) w' := by
  refine ⟨fun i b' hi => ?_, fun j i hj => ?_, h.base.under hb⟩
  · rw [find_cons] at hi
    by_cases e : id = i
    · rw [if_pos e] at hi
      cases hi
      subst e
      exact ⟨k, c, o, Gh.add_same, by simp [Gh.add], ho, hbl⟩
    · rw [if_neg e] at hi
      obtain ⟨k', c', o', q1, q2, q3, q4⟩ := h.blk i b' hi
      have hlt := (h.mine k' i q2).2.1
      refine ⟨k', c', o', Gh.add_ext hn _ _ q1, ?_, by rw [hb.block k' hlt]; exact q3, q4.mono (Gh.add_ext hn)⟩
      show (if k' = k then some id else g.own k') = some i
      rw [if_neg (by omega), q2]
  · have hj' : (if j = k then some id else g.own j) = some i := hj
    split at hj'
    · rename_i e
      cases hj'
      subst e
      exact ⟨⟨Nat.le_trans h.base.bel.size h1, fun ⟨cs, e, fr, f1, f2⟩ => by have := (Array.getElem?_eq_some_iff.1 (h.base.fast _ _ _ _ f1 f2)).1; omega⟩, h2, c, Gh.add_same⟩
    · obtain ⟨q1, q2, c', q3⟩ := h.mine j i hj'
      exact ⟨q1, Nat.lt_of_lt_of_le q2 hb.size, c', Gh.add_ext hn _ _ q3⟩
theorem Fr.adopt {g : Gh} {w w' : World} {id lo k c : Nat} (hb : Below w.heap.size w w') (hn : g.ν id = none) (h1 : w.heap.size ≤ k) : Fr id lo (id + 1) g w (g.add id k c) w' := by
  refine ⟨Gh.add_ext hn, fun i hi => ?_, hb.size, fun j hj _ => ⟨hb.block j hj, ?_⟩⟩
  · show (if i = id then some (k, c) else g.ν i) = g.ν i
    rw [if_neg (by omega)]
  · show (if j = k then some id else g.own j) = g.own j
    rw [if_neg (by omega)]
section
variable {P : Program}
/-- A call that answers one new row, whatever the blocks. -/
theorem Ok.rowC {v : World} {f : FuncId} {us : List Value} {n : Nat} {cs : List Value} {e : TypeId} (h : ∀ b : Bs, b.v = v → Ok P b f (us.map .s) ⟨[], 0, 0⟩ fun x S' => ∃ id, x = .slc id 0 n (some n) ∧ find id S'.heap = some (.row (cs.map .s) e none .no))
    {b : Bs} (hb : b.v = v) (S : St) : ∀ g w us', M b g S.heap w → V.rels g.ν (us.map .s) us' → Free g S.next (S.next + 1) → CallSem P f us'.toArray w (After b g S w (.slc S.next 0 n (some n)) ⟨(S.next, .row (cs.map .s) e none .no) :: S.heap, S.next + 1, S.low⟩) := by
  intro g w us' hM hr hf
  rw [rels_ground hr]
  have hM0 : M ⟨w, v⟩ ⟨fun _ => none, fun _ => none⟩ [] w := ⟨fun id b hb => (by cases hb), fun k id hk => (by cases hk), Below.refl _ _, hb ▸ hM.base.fast, hb ▸ hM.base.top⟩
  refine (h ⟨w, v⟩ rfl _ w us hM0 (rels_lits us) (fun _ _ => rfl)).mono ?_
  rintro u w' ⟨x, S', ⟨id, rfl, hfd⟩, m1, m2, g', e1, e2, e3⟩
  obtain ⟨k, c, o, q1, q2, q3, q4⟩ := e1.blk _ _ hfd
  simp only [V.rel] at e3
  obtain ⟨k', c', r1, r2⟩ := e3
  rw [q1] at r1
  cases r1
  obtain ⟨w1, w2, w3⟩ := e1.mine k id q2
  have hn : g.ν S.next = none := hf S.next (Nat.le_refl _) (Nat.le_succ _)
  obtain ⟨xs, ys, fr, q5, q6, q7, q8⟩ := q4
  refine ⟨g.add S.next k c, hM.adopt e1.base.bel hn w1.new w2 q3 ⟨xs, ys, fr, ?_, q6, q7, q8⟩, Fr.adopt e1.base.bel hn w1.new, ?_⟩
  · rw [lits_rels (lits_s cs) q5]
    exact rels_lits cs
  · simp only [V.rel]
    exact ⟨k, c, Gh.add_same, r2⟩
/-- What a quiet contract of what is known says to the executor. -/
theorem Gv.quiet {f : FuncId} {us : List Value} {b : Bs} {x : Value} (h : Gv P f us b.v fun u _ => u = x) (S : St) : ∀ g w us', M b g S.heap w → V.rels g.ν (us.map .s) us' → CallSem P f us'.toArray w (After b g S w (.s x) S) := by
  intro g w us' hM hr
  rw [rels_ground hr]
  refine (h w hM.base.fast hM.base.top).mono fun u w' ⟨q1, v', q2, q3, q4, q5, q6⟩ => ?_
  subst q6
  exact ⟨g, hM.under q1, Fr.under _ _ q1, rel_s⟩
theorem Gv.okx {f : FuncId} {us : List Value} {b : Bs} {x : Value} (h : Gv P f us b.v fun u _ => u = x) (S : St) : Ok P b f (us.map .s) S fun v S' => v = .s x ∧ S' = S :=
  fun g w us' hM hr hu => (h.quiet S g w us' hM hr).mono fun u w' ha => ⟨.s x, S, ⟨rfl, rfl⟩, Nat.le_refl _, Nat.le_refl _, ha⟩
/-- A caller that knows one call, which turns nothing. -/
noncomputable def callOne (f0 : FuncId) (as0 : List V) (x : V) : Caller := fun f as S => open Classical in if f = f0 ∧ as = as0 then some (x, S) else none
theorem callOne_self (f : FuncId) (as : List V) (x : V) (S : St) : callOne f as x f as S = some (x, S) := by simp [callOne]
theorem newsX_succ {c : Nat} : ∀ {H : Heap}, newsX c H = [] → newsX (c + 1) H = []
  | [], _ => rfl
  | (i, b) :: r, h => by
    simp only [newsX] at h ⊢
    cases h1 : Nat.ble c i with
    | true => rw [h1] at h; simp at h
    | false =>
      rw [h1] at h
      have h2 : Nat.ble (c + 1) i = false := by
        cases h2 : Nat.ble (c + 1) i with
        | false => rfl
        | true => have := Nat.le_of_ble_eq_true h2; have : Nat.ble c i = true := Nat.ble_eq_true_of_le (by omega); rw [h1] at this; cases this
      rw [h2]
      exact newsX_succ h
theorem calleeX_s (f : FuncId) : calleeX (.s (.func (.func f) #[] #[])) = some (f, [], []) := rfl
theorem calleeX_fn (f : FuncId) (a c : List V) : calleeX (.fn f a c) = some (f, a, c) := rfl
theorem ext2_0 (a b : Value) : pureV P (Instr.extract (.tuple #[a, b]) 0) = some (.s a, .no) := rfl
theorem ext2_1 (a b : Value) : pureV P (Instr.extract (.tuple #[a, b]) 1) = some (.s b, .no) := rfl
theorem ext3_0 (a b c : Value) : pureV P (Instr.extract (.tuple #[a, b, c]) 0) = some (.s a, .no) := rfl
theorem ext3_1 (a b c : Value) : pureV P (Instr.extract (.tuple #[a, b, c]) 1) = some (.s b, .no) := rfl
theorem ext3_2 (a b c : Value) : pureV P (Instr.extract (.tuple #[a, b, c]) 2) = some (.s c, .no) := rfl
theorem lt_off {n m k : Nat} (h : n < m) : (n < m + k) = True := eq_true (Nat.lt_add_right k h)
theorem le_off {n m k : Nat} (h : n ≤ m) : (n ≤ m + k) = True := eq_true (Nat.le_add_right_of_le h)
theorem ne_off {n m k : Nat} (h : n < m) : (m + k = n) = False := eq_false (by omega)
theorem ne_off' {n m k : Nat} (h : n < m) : (n = m + k) = False := eq_false (by omega)
theorem gt_off {n m k : Nat} (h : n < m) : (m + k ≤ n) = False := eq_false (by omega)
theorem newsX_off {c : Nat} {H : Heap} (k : Nat) (h : newsX c H = []) : newsX (c + k) H = [] := by
  induction k with
  | zero => exact h
  | succ k ih => exact newsX_succ ih
theorem ad1 (n : Nat) : n + 1 + 1 = n + 2 := rfl
theorem ad2 (n : Nat) : n + 2 + 1 = n + 3 := rfl
theorem ad3 (n : Nat) : n + 3 + 1 = n + 4 := rfl
theorem ad4 (n : Nat) : n + 4 + 1 = n + 5 := rfl
theorem ad5 (n : Nat) : n + 5 + 1 = n + 6 := rfl
theorem ad6 (n : Nat) : n + 6 + 1 = n + 7 := rfl
theorem ad7 (n : Nat) : n + 7 + 1 = n + 8 := rfl
theorem ad8 (n : Nat) : n + 8 + 1 = n + 9 := rfl
theorem ad9 (n : Nat) : n + 9 + 1 = n + 10 := rfl
theorem ad10 (n : Nat) : n + 10 + 1 = n + 11 := rfl
theorem ad11 (n : Nat) : n + 11 + 1 = n + 12 := rfl
theorem ad12 (n : Nat) : n + 12 + 1 = n + 13 := rfl
theorem ad13 (n : Nat) : n + 13 + 1 = n + 14 := rfl
theorem ad14 (n : Nat) : n + 14 + 1 = n + 15 := rfl
theorem ad15 (n : Nat) : n + 15 + 1 = n + 16 := rfl
theorem ad16 (n : Nat) : n + 16 + 1 = n + 17 := rfl
theorem ad17 (n : Nat) : n + 17 + 1 = n + 18 := rfl
theorem ad18 (n : Nat) : n + 18 + 1 = n + 19 := rfl
theorem ad19 (n : Nat) : n + 19 + 1 = n + 20 := rfl
theorem ad20 (n : Nat) : n + 20 + 1 = n + 21 := rfl
theorem ad21 (n : Nat) : n + 21 + 1 = n + 22 := rfl
theorem ad22 (n : Nat) : n + 22 + 1 = n + 23 := rfl
theorem ad23 (n : Nat) : n + 23 + 1 = n + 24 := rfl
theorem ad24 (n : Nat) : n + 24 + 1 = n + 25 := rfl
theorem ad25 (n : Nat) : n + 25 + 1 = n + 26 := rfl
theorem ad26 (n : Nat) : n + 26 + 1 = n + 27 := rfl
theorem ad27 (n : Nat) : n + 27 + 1 = n + 28 := rfl
theorem ad28 (n : Nat) : n + 28 + 1 = n + 29 := rfl
theorem ad29 (n : Nat) : n + 29 + 1 = n + 30 := rfl
theorem ad30 (n : Nat) : n + 30 + 1 = n + 31 := rfl
theorem ad31 (n : Nat) : n + 31 + 1 = n + 32 := rfl
theorem ad32 (n : Nat) : n + 32 + 1 = n + 33 := rfl
theorem ad33 (n : Nat) : n + 33 + 1 = n + 34 := rfl
theorem ad34 (n : Nat) : n + 34 + 1 = n + 35 := rfl
theorem ad35 (n : Nat) : n + 35 + 1 = n + 36 := rfl
theorem ad36 (n : Nat) : n + 36 + 1 = n + 37 := rfl
theorem ad37 (n : Nat) : n + 37 + 1 = n + 38 := rfl
theorem ad38 (n : Nat) : n + 38 + 1 = n + 39 := rfl
theorem ad39 (n : Nat) : n + 39 + 1 = n + 40 := rfl
theorem ad40 (n : Nat) : n + 40 + 1 = n + 41 := rfl
theorem ad41 (n : Nat) : n + 41 + 1 = n + 42 := rfl
theorem ad42 (n : Nat) : n + 42 + 1 = n + 43 := rfl
theorem ad43 (n : Nat) : n + 43 + 1 = n + 44 := rfl
theorem ad44 (n : Nat) : n + 44 + 1 = n + 45 := rfl
theorem ad45 (n : Nat) : n + 45 + 1 = n + 46 := rfl
theorem ad46 (n : Nat) : n + 46 + 1 = n + 47 := rfl
theorem ad47 (n : Nat) : n + 47 + 1 = n + 48 := rfl
theorem ad48 (n : Nat) : n + 48 + 1 = n + 49 := rfl
theorem ad49 (n : Nat) : n + 49 + 1 = n + 50 := rfl
theorem ad50 (n : Nat) : n + 50 + 1 = n + 51 := rfl
theorem ad51 (n : Nat) : n + 51 + 1 = n + 52 := rfl
theorem ad52 (n : Nat) : n + 52 + 1 = n + 53 := rfl
theorem ad53 (n : Nat) : n + 53 + 1 = n + 54 := rfl
theorem ad54 (n : Nat) : n + 54 + 1 = n + 55 := rfl
theorem ad55 (n : Nat) : n + 55 + 1 = n + 56 := rfl
theorem ad56 (n : Nat) : n + 56 + 1 = n + 57 := rfl
theorem ad57 (n : Nat) : n + 57 + 1 = n + 58 := rfl
theorem ad58 (n : Nat) : n + 58 + 1 = n + 59 := rfl
theorem ad59 (n : Nat) : n + 59 + 1 = n + 60 := rfl
theorem ad60 (n : Nat) : n + 60 + 1 = n + 61 := rfl
theorem ad61 (n : Nat) : n + 61 + 1 = n + 62 := rfl
theorem ad62 (n : Nat) : n + 62 + 1 = n + 63 := rfl
theorem ad63 (n : Nat) : n + 63 + 1 = n + 64 := rfl
theorem ad64 (n : Nat) : n + 64 + 1 = n + 65 := rfl
theorem ad65 (n : Nat) : n + 65 + 1 = n + 66 := rfl
theorem ad66 (n : Nat) : n + 66 + 1 = n + 67 := rfl
theorem ad67 (n : Nat) : n + 67 + 1 = n + 68 := rfl
theorem ad68 (n : Nat) : n + 68 + 1 = n + 69 := rfl
theorem ad69 (n : Nat) : n + 69 + 1 = n + 70 := rfl
theorem ad70 (n : Nat) : n + 70 + 1 = n + 71 := rfl
theorem ad71 (n : Nat) : n + 71 + 1 = n + 72 := rfl
theorem ad72 (n : Nat) : n + 72 + 1 = n + 73 := rfl
theorem ad73 (n : Nat) : n + 73 + 1 = n + 74 := rfl
theorem ad74 (n : Nat) : n + 74 + 1 = n + 75 := rfl
theorem ad75 (n : Nat) : n + 75 + 1 = n + 76 := rfl
theorem ad76 (n : Nat) : n + 76 + 1 = n + 77 := rfl
theorem ad77 (n : Nat) : n + 77 + 1 = n + 78 := rfl
theorem ad78 (n : Nat) : n + 78 + 1 = n + 79 := rfl
theorem ad79 (n : Nat) : n + 79 + 1 = n + 80 := rfl
end
end Go.Proofs.YtmpmbnmldmpmiaaGreatDoor.Sim
