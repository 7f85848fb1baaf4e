/- A machine over closed values: the logic of triples where what is known of memory grows: blocks are made fast, calls answer trees of their own. -/
import Derived.Test.YtmpmbnmldmpmiaaGreatDoorSimH
set_option linter.unusedVariables false
set_option linter.unusedSimpArgs false
namespace Go.Proofs.YtmpmbnmldmpmiaaGreatDoor.Sim
open Go Go.RowKit
theorem Known.trans {a b c : World} (h : Known a b) (k : Known b c) : Known a c := fun j cs e fr h1 h2 => k j cs e fr (h j cs e fr h1 h2) h2
theorem Known.fast {a b : World} (h : Known a b) {k : Nat} (f : Fast a k) : Fast b k := let ⟨cs, e, fr, h1, h2⟩ := f; ⟨cs, e, fr, h _ _ _ _ h1 h2, h2⟩
theorem Known.cell {a b : World} (h : Known a b) {p : Addr} {u : Value} (e : a.cell? p = some u) : b.cell? p = some u := by
  unfold World.cell? at e ⊢
  split at e
  · rename_i cs el fr hk
    have hc : cs.size ≠ 0 := by
      intro h0
      have : cs = #[] := Array.size_eq_zero_iff.1 h0
      subst this
      revert e
      simp
    rw [h _ _ _ _ hk hc]
    exact e
  · cases e
theorem Known.whole {a b : World} (h : Known a b) {k : Nat} {cs : List Value} (e : Sim.whole a k = some cs) : Sim.whole b k = some cs := by
  unfold Sim.whole at e
  split at e
  · rename_i cs' el fr hk
    split at e
    · cases e
    · rename_i hc
      cases e
      exact whole_cells (h _ _ _ _ hk hc) hc
  · cases e
/-- What is known grows; nothing of the world at the beginning is made fast. -/
structure BsLe (b b' : Bs) : Prop where
  w : b'.w = b.w
  v : Known b.v b'.v
  sz : b.v.heap.size ≤ b'.v.heap.size
  old : ∀ k, k < b.w.heap.size → Fast b'.v k → Fast b.v k
theorem BsLe.refl (b : Bs) : BsLe b b := ⟨rfl, Known.refl _, Nat.le_refl _, fun _ _ h => h⟩
theorem BsLe.trans {a b c : Bs} (h : BsLe a b) (k : BsLe b c) : BsLe a c := ⟨k.w.trans h.w, h.v.trans k.v, Nat.le_trans h.sz k.sz, fun j hj f => h.old j hj (k.old j (by rw [h.w]; exact hj) f)⟩
mutual
/-- A name's block has become fast. -/
def gV (id k c : Nat) : V → V
  | .s v => .s v
  | .ptr b off => if b = id then .s (.pointer (some ⟨k, off, none⟩)) else .ptr b off
  | .slc b off len cap => if b = id then .s (.slice (some ⟨k, off, none⟩) len (cap.getD c)) else .slc b off len cap
  | .slu b off len => .slu b off len
  | .map b => .map b
  | .fn f a cs => .fn f (gVs id k c a) (gVs id k c cs)
  | .ifc t v => .ifc t (gV id k c v)
  | .agg cs => mkAgg (gVs id k c cs)
  | .tup cs => mkTup (gVs id k c cs)
def gVs (id k c : Nat) : List V → List V
  | [] => []
  | v :: r => gV id k c v :: gVs id k c r
end
mutual
theorem gV_rel {ν : Val} {id k c : Nat} (h : ν id = some (k, c)) : ∀ (v : V) (u : Value), V.rel ν v u → V.rel ν (gV id k c v) u
  | .s v, u, e => by simpa only [gV] using e
  | .ptr b off, u, e => by
    unfold gV
    split
    · rename_i hb
      subst hb
      simp only [V.rel] at e ⊢
      obtain ⟨k', c', e, r⟩ := e
      rw [h] at e
      cases e
      exact r
    · exact e
  | .slc b off len cap, u, e => by
    unfold gV
    split
    · rename_i hb
      subst hb
      simp only [V.rel] at e ⊢
      obtain ⟨k', c', e, r⟩ := e
      rw [h] at e
      cases e
      exact r
    · exact e
  | .slu b off len, u, e => by simpa only [gV] using e
  | .map b, u, e => by simpa only [gV] using e
  | .fn f a cs, u, e => by
    simp only [gV, V.rel] at e ⊢
    obtain ⟨xs, ys, h1, h2, r⟩ := e
    exact ⟨xs, ys, gVs_rel h a xs h1, gVs_rel h cs ys h2, r⟩
  | .ifc t v, u, e => by
    simp only [gV, V.rel] at e ⊢
    obtain ⟨x, h1, r⟩ := e
    exact ⟨x, gV_rel h v x h1, r⟩
  | .agg cs, u, e => by
    simp only [gV, V.rel] at e ⊢
    obtain ⟨x, h1, rfl⟩ := e
    exact mkAgg_rel (gVs_rel h cs x h1)
  | .tup cs, u, e => by
    simp only [gV, V.rel] at e ⊢
    obtain ⟨x, h1, rfl⟩ := e
    exact mkTup_rel (gVs_rel h cs x h1)
theorem gVs_rel {ν : Val} {id k c : Nat} (h : ν id = some (k, c)) : ∀ (l : List V) (us : List Value), V.rels ν l us → V.rels ν (gVs id k c l) us
  | [], us, e => by simpa only [gVs] using e
  | a :: r, us, e => by
    simp only [gVs, V.rels] at e ⊢
    obtain ⟨x, xs, h1, h2, e⟩ := e
    exact ⟨x, xs, gV_rel h a x h1, gVs_rel h r xs h2, e⟩
end
theorem gVs_lits (id k c : Nat) : ∀ (l : List Value), gVs id k c (l.map .s) = l.map .s
  | [] => rfl
  | x :: r => by simp only [List.map_cons, gVs, gV, gVs_lits id k c r]
def gB (id k c : Nat) : Blk → Blk
  | .row cs e tl fz => .row (gVs id k c cs) e tl fz
  | b => b
theorem gB_ok {ν : Val} {id k c : Nat} (h : ν id = some (k, c)) {d : Nat} {b : Blk} {o : Obj} (e : BlkOk ν d b o) : BlkOk ν d (gB id k c b) o := by
  cases b with
  | row cs el tl fz =>
    obtain ⟨xs, ys, fr, h1, r⟩ := e
    exact ⟨xs, ys, fr, gVs_rel h _ _ h1, r⟩
  | _ => exact e
/-- The blocks without one that has become fast. -/
def gH (id k c : Nat) : Heap → Heap
  | [] => []
  | (i, b) :: r => if i = id then gH id k c r else (i, gB id k c b) :: gH id k c r
theorem gH_find {id k c i : Nat} {b : Blk} : ∀ {H : Heap}, find i (gH id k c H) = some b → i ≠ id ∧ ∃ b0, find i H = some b0 ∧ b = gB id k c b0
  | [], h => by cases h
  | (j, d) :: r, h => by
    unfold gH at h
    by_cases hj : j = id
    · rw [if_pos hj] at h
      obtain ⟨h1, b0, h2, h3⟩ := gH_find h
      refine ⟨h1, b0, ?_, h3⟩
      have hne : j ≠ i := fun e => h1 (e ▸ hj)
      rw [find_cons, if_neg hne, h2]
    · rw [if_neg hj, find_cons] at h
      by_cases hi : j = i
      · rw [if_pos hi] at h
        cases h
        refine ⟨hi ▸ hj, d, ?_, rfl⟩
        rw [find_cons, if_pos hi]
      · rw [if_neg hi] at h
        obtain ⟨h1, b0, h2, h3⟩ := gH_find h
        refine ⟨h1, b0, ?_, h3⟩
        rw [find_cons, if_neg hi, h2]
def gS (id k c : Nat) (S : St) : St := ⟨gH id k c S.heap, S.next, S.low⟩
def gF (id k c : Nat) (F : Fm) : Fm := fun t => gV id k c (F t)
/-- What is known, and one block more. -/
def fasten (v : World) (n k : Nat) (o : Obj) : World := { v with heap := (Array.range n).map fun j => if j = k then o else (v.heap[j]?).getD (.cells #[] 0 (0, 0)) }
theorem fasten_get (v : World) (n k : Nat) (o : Obj) (j : Nat) : (fasten v n k o).heap[j]? = if j < n then some (if j = k then o else (v.heap[j]?).getD (.cells #[] 0 (0, 0))) else none := by
  unfold fasten
  by_cases h : j < n
  · rw [if_pos h, Array.getElem?_eq_getElem (by simpa using h)]
    simp
  · rw [if_neg h, Array.getElem?_eq_none (by simpa using h)]
theorem fasten_known {v : World} {n k : Nat} {o : Obj} (hs : v.heap.size ≤ n) (hk : ¬ Fast v k) : Known v (fasten v n k o) := fun j cs e fr h1 h2 => by
  have hj := (Array.getElem?_eq_some_iff.1 h1).1
  have hne : j ≠ k := fun e' => hk (e' ▸ ⟨cs, e, fr, h1, h2⟩)
  rw [fasten_get, if_pos (by omega), if_neg hne, h1]
  rfl
theorem fasten_fast {v : World} {n k : Nat} {o : Obj} {j : Nat} (hj : j ≠ k) (h : Fast (fasten v n k o) j) : Fast v j := by
  obtain ⟨cs, e, fr, h1, h2⟩ := h
  rw [fasten_get] at h1
  simp only [if_neg hj] at h1
  split at h1
  · cases hv : v.heap[j]? with
    | none => rw [hv] at h1; simp at h1; exact absurd (by rw [h1.1]; rfl) h2
    | some o' => rw [hv] at h1; simp at h1; exact ⟨cs, e, fr, by rw [hv, h1], h2⟩
  · cases h1
theorem fasten_into {v w : World} {k : Nat} {o : Obj} (h : Known v w) (ho : w.heap[k]? = some o) (hs : v.heap.size ≤ w.heap.size) : Known (fasten v w.heap.size k o) w := fun j cs e fr h1 h2 => by
  rw [fasten_get] at h1
  split at h1
  · by_cases hj : j = k
    · simp only [if_pos hj] at h1
      rw [hj, ho, h1]
    · simp only [if_neg hj] at h1
      cases hv : v.heap[j]? with
      | none => rw [hv] at h1; simp at h1; exact absurd (by rw [h1.1]; rfl) h2
      | some o' => rw [hv] at h1; simp at h1; exact h j cs e fr (by rw [hv, h1]) h2
  · cases h1
/-- What is left. -/
structure LeftB (b : Bs) (n : Nat) (F : Fm) (S : St) (g : Gh) (a : Act) (w : World) : Prop where
  m : M b g S.heap w
  fm : FmOk g.ν n F a
  df : a.defers = []
  up : Up g S.next
section
variable (P : Program)
def WpB (n : Nat) (c : Code) (b : Bs) (F : Fm) (S : St) (Q : Ex → Bs → Fm → St → Prop) : Prop :=
  ∀ g w a, LeftB b n F S g a w → ∀ R : Exit → Act → World → Prop,
    (∀ ex b' F' S' g' a' w', Q ex b' F' S' → BsLe b b' → LeftB b' n F' S' g' a' w' → R ex.exit' a' w') → c.wp P R a w
def SeqB (n : Nat) (ops : Array Oper) (l : List Oper) (b : Bs) (F : Fm) (S : St) (K : Bs → Fm → St → Prop) : Prop :=
  ∀ g w a, LeftB b n F S g a w → ∀ R : Exit → Act → World → Prop,
    (∀ b' F' S' g' a' w', K b' F' S' → BsLe b b' → LeftB b' n F' S' g' a' w' → R .normal a' w') → wpList P ops R l a w
/-- What a call gives, wherever what is known lies. -/
def Gv (f : FuncId) (us : List Value) (v : World) (R : Value → World → Prop) : Prop :=
  ∀ w, Known v w → v.heap.size ≤ w.heap.size → CallSem P f us.toArray w fun u w' => Below w.heap.size w w' ∧ ∃ v', (Known v v' ∧ v.heap.size ≤ v'.heap.size) ∧ Known v' w' ∧ v'.heap.size ≤ w'.heap.size ∧ (∀ k, k < w.heap.size → Fast v' k → Fast v k) ∧ R u v'
variable {P}
theorem WpB.ofF {n : Nat} {c : Code} {b : Bs} {F : Fm} {S : St} {Q : Ex → Bs → Fm → St → Prop} (h : WpF P b n c F S fun ex F' S' => Q ex b F' S') : WpB P n c b F S Q :=
  fun g w a hl R hR => h g w a hl.m hl.fm hl.df hl.up R fun ex F' S' g' a' w' hq m1 m2 hl' => hR ex b F' S' g' a' w' hq (BsLe.refl b) ⟨hl'.m, hl'.fm, hl'.df, hl.up.fr hl'.fr m1⟩
theorem WpB.skip {n : Nat} {b : Bs} {F : Fm} {S : St} {Q : Ex → Bs → Fm → St → Prop} (h : Q .normal b F S) : WpB P n .skip b F S Q := WpB.ofF (WpF.skip h)
theorem WpB.exit {n i : Nat} {b : Bs} {F : Fm} {S : St} {Q : Ex → Bs → Fm → St → Prop} (h : Q (.exit i) b F S) : WpB P n (.exit i) b F S Q := WpB.ofF (WpF.exit h)
theorem WpB.ret {n : Nat} {b : Bs} {F : Fm} {S : St} {Q : Ex → Bs → Fm → St → Prop} (h : Q .ret b F S) : WpB P n .ret b F S Q := WpB.ofF (WpF.ret h)
def ThenB (P : Program) (n : Nat) (y : Code) (Q : Ex → Bs → Fm → St → Prop) : Ex → Bs → Fm → St → Prop
  | .normal, b, F, S => WpB P n y b F S Q
  | .exit i, b, F, S => Q (.exit i) b F S
  | .ret, b, F, S => Q .ret b F S
theorem WpB.seq {n : Nat} {x y : Code} {b : Bs} {F : Fm} {S : St} {Q : Ex → Bs → Fm → St → Prop} (h : WpB P n x b F S (ThenB P n y Q)) : WpB P n (.seq x y) b F S Q := by
  intro g w a hl R hR
  refine wp_seq (h g w a hl _ fun ex b1 F1 S1 g1 a1 w1 hq hb hl1 => ?_)
  cases ex with
  | normal => exact hq g1 w1 a1 hl1 R fun ex b' F' S' g' a' w' hq' hb' hl' => hR _ _ _ _ _ _ _ hq' (hb.trans hb') hl'
  | exit i => exact hR _ _ _ _ _ _ _ hq hb hl1
  | ret => exact hR _ _ _ _ _ _ _ hq hb hl1
theorem WpB.cond {n : Nat} {c : Operand} {t e : Code} {b : Bs} {F : Fm} {S : St} {Q : Ex → Bs → Fm → St → Prop} {z : Bool} (hi : inO n c = true) (hc : evF F c = .s (.bool z)) (ht : z = true → WpB P n t b F S Q) (he : z = false → WpB P n e b F S Q) : WpB P n (.cond c t e) b F S Q := by
  intro g w a hl R hR
  have hev := evF_rel hl.fm c hi
  rw [hc] at hev
  simp only [V.rel] at hev
  cases z with
  | true => exact wp_cond_true hev (ht rfl g w a hl R hR)
  | false => exact wp_cond_false hev (he rfl g w a hl R hR)
def inBlockB (id : Nat) (Q : Ex → Bs → Fm → St → Prop) : Ex → Bs → Fm → St → Prop
  | .exit i, b, F, S => if i = id then Q .normal b F S else Q (.exit i) b F S
  | .normal, b, F, S => Q .normal b F S
  | .ret, b, F, S => Q .ret b F S
theorem WpB.block {n id : Nat} {c : Code} {b : Bs} {F : Fm} {S : St} {Q : Ex → Bs → Fm → St → Prop} (h : WpB P n c b F S (inBlockB id Q)) : WpB P n (.block id c) b F S Q := by
  intro g w a hl R hR
  refine wp_block (h g w a hl _ fun ex b1 F1 S1 g1 a1 w1 hq hb hl1 => ?_)
  cases ex with
  | normal => exact hR .normal _ _ _ _ _ _ hq hb hl1
  | ret => exact hR .ret _ _ _ _ _ _ hq hb hl1
  | exit i =>
    simp only [Ex.exit', Exit.inBlock]
    by_cases hi : i = id
    · rw [if_pos hi]
      simp only [inBlockB, if_pos hi] at hq
      exact hR .normal _ _ _ _ _ _ hq hb hl1
    · rw [if_neg hi]
      simp only [inBlockB, if_neg hi] at hq
      exact hR (.exit i) _ _ _ _ _ _ hq hb hl1
def againB (I : Nat → Bs → Fm → St → Prop) (m : Nat) (Q : Ex → Bs → Fm → St → Prop) : Ex → Bs → Fm → St → Prop
  | .normal, b, F, S => ∃ j, j < m ∧ I j b F S
  | .exit i, b, F, S => Q (.exit i) b F S
  | .ret, b, F, S => Q .ret b F S
theorem WpB.loop {n : Nat} {c : Code} {Q : Ex → Bs → Fm → St → Prop} (I : Nat → Bs → Fm → St → Prop) (m : Nat) {b : Bs} {F : Fm} {S : St} (h0 : I m b F S) (h : ∀ m b F S, I m b F S → WpB P n c b F S (againB I m Q)) : WpB P n (.loop c) b F S Q := by
  have key : ∀ N m b F S, m < N → I m b F S → ∀ g w a, LeftB b n F S g a w → ∀ R : Exit → Act → World → Prop,
      (∀ ex b' F' S' g' a' w', Q ex b' F' S' → BsLe b b' → LeftB b' n F' S' g' a' w' → R ex.exit' a' w') → Code.rounds P c R N a w := by
    intro N
    induction N with
    | zero => intro m b F S hm; exact absurd hm (Nat.not_lt_zero _)
    | succ N ih =>
      intro m b F S hm hI g w a hl R hR
      rw [rounds_succ]
      refine h m b F S hI g w a hl _ fun ex b1 F1 S1 g1 a1 w1 hq hb hl1 => ?_
      cases ex with
      | normal =>
        obtain ⟨j, hj, hIj⟩ := hq
        exact ih j b1 F1 S1 (by omega) hIj g1 w1 a1 hl1 R fun ex b' F' S' g' a' w' hq' hb' hl' => hR _ _ _ _ _ _ _ hq' (hb.trans hb') hl'
      | exit i => exact hR (.exit i) _ _ _ _ _ _ hq hb hl1
      | ret => exact hR .ret _ _ _ _ _ _ hq hb hl1
  intro g w a hl R hR
  exact wp_loop_rounds (m + 1) (key (m + 1) m b F S (Nat.lt_succ_self _) h0 g w a hl R hR)
theorem WpB.forget {n : Nat} {c : Code} {b : Bs} {F : Fm} {S S2 : St} {Q : Ex → Bs → Fm → St → Prop} (hs : ∀ id b, find id S2.heap = some b → find id S.heap = some b) (hn : S2.next = S.next) (h : WpB P n c b F S2 Q) : WpB P n c b F S Q :=
  fun g w a hl R hR => h g w a ⟨hl.m.sub hs, hl.fm, hl.df, by rw [hn]; exact hl.up⟩ R hR
/-- A block becomes fast. -/
theorem LeftB.freeze {b : Bs} {n : Nat} {F : Fm} {S : St} {g : Gh} {a : Act} {w : World} (hl : LeftB b n F S g a w) {id : Nat} {xs : List Value} {e : TypeId} {tl : Option Nat} {fz : Fz} (hf : find id S.heap = some (.row (xs.map .s) e tl fz)) :
    ∃ b' g' k c ys fr, BsLe b b' ∧ b'.v.heap[k]? = some (.cells (xs ++ ys).toArray e fr) ∧ (match tl with | none => ys = [] | some q => xs.length + ys.length = c * q) ∧ LeftB b' n (gF id k c F) (gS id k c S) g' a w := by
  obtain ⟨k, c, o, h1, h2, h3, xs', ys, fr, h4, ho, _, htl⟩ := hl.m.blk _ _ hf
  have hx : xs' = xs := by
    have : lits (xs.map V.s) = some xs := by
      clear h4 hf
      induction xs with
      | nil => rfl
      | cons x r ih => simp only [List.map_cons, lits, ih]
    exact lits_rels this h4
  subst hx
  obtain ⟨hm1, hm2, _⟩ := hl.m.mine k id h2
  have hkw := (Array.getElem?_eq_some_iff.1 h3).1
  refine ⟨⟨b.w, fasten b.v w.heap.size k o⟩, ⟨g.ν, fun j => if j = k then none else g.own j⟩, k, c, ys, fr, ⟨rfl, fasten_known hl.m.base.top hm1.not, by show _ ≤ (fasten b.v w.heap.size k o).heap.size; simp [fasten]; exact hl.m.base.top, fun j hj f => fasten_fast (fun e' => by have := hm1.new; omega) f⟩, ?_, htl, ⟨?_, ?_, hl.df, fun i hi => hl.up i hi⟩⟩
  · show (fasten b.v w.heap.size k o).heap[k]? = _
    rw [fasten_get, if_pos hkw, if_pos rfl, ho]
  · refine ⟨fun i b0 hb => ?_, fun j i hj => ?_, hl.m.base.bel, fasten_into hl.m.base.fast h3 hl.m.base.top, ?_⟩
    · obtain ⟨hne, b1, hb1, rfl⟩ := gH_find hb
      obtain ⟨k', c', o', q1, q2, q3, q4⟩ := hl.m.blk _ _ hb1
      have hkk : k' ≠ k := fun e' => hne (by rw [e', h2] at q2; cases q2; rfl)
      exact ⟨k', c', o', q1, by show (if k' = k then none else g.own k') = some i; rw [if_neg hkk, q2], q3, gB_ok h1 q4⟩
    · have hj' : (if j = k then none else g.own j) = some i := hj
      split at hj'
      · cases hj'
      · rename_i hjk
        obtain ⟨q1, q2, q3⟩ := hl.m.mine j i hj'
        exact ⟨⟨q1.new, fun f => q1.not (fasten_fast hjk f)⟩, q2, q3⟩
    · show (fasten b.v w.heap.size k o).heap.size ≤ w.heap.size
      simp [fasten]
  · exact ⟨hl.fm.size, fun t ht => let ⟨u, e1, e2⟩ := hl.fm.get t ht; ⟨u, e1, gV_rel h1 _ _ e2⟩⟩
theorem WpB.freeze {n : Nat} {c : Code} {b : Bs} {F : Fm} {S : St} {Q : Ex → Bs → Fm → St → Prop} (id : Nat) {xs : List Value} {e : TypeId} {tl : Option Nat} {fz : Fz} (hf : find id S.heap = some (.row (xs.map .s) e tl fz))
    (h : ∀ b' k cp ys fr, BsLe b b' → b'.v.heap[k]? = some (.cells (xs ++ ys).toArray e fr) → (match tl with | none => ys = [] | some q => xs.length + ys.length = cp * q) → WpB P n c b' (gF id k cp F) (gS id k cp S) Q) : WpB P n c b F S Q := by
  intro g w a hl R hR
  obtain ⟨b', g', k, cp, ys, fr, h1, h2, h2', h3⟩ := hl.freeze hf
  exact h b' k cp ys fr h1 h2 h2' g' w a h3 R fun ex b2 F' S' g2 a' w' hq hb hl' => hR ex b2 F' S' g2 a' w' hq (h1.trans hb) hl'
end
section
variable {P : Program}
theorem SeqB.nil {n : Nat} {ops : Array Oper} {b : Bs} {F : Fm} {S : St} {K : Bs → Fm → St → Prop} (h : K b F S) : SeqB P n ops [] b F S K :=
  fun g w a hl R hR => wpList_nil (hR b _ _ g a w h (BsLe.refl b) hl)
theorem SeqB.op {T : Nat → Option (List Value)} {b : Bs} (hT : Tab T b) {n : Nat} (hn : n ≤ 2000) {ops : Array Oper} {o : Oper} {r : List Oper} {F : Fm} {S S' : St} {v : V} {K : Bs → Fm → St → Prop} (hi : inOp n ops o = true) (h : stepF P T noCall ops F o S = some (v, S')) (k : SeqB P n ops r b (putF F o.dst v) S' K) : SeqB P n ops (o :: r) b F S K := by
  intro g w a hl R hR
  have hag := tmOf_agree hn F
  have hx : stepX P T noCall ops (tmOf n F) o S = some (v, S') := (stepX_eq P T hag hi).trans h
  have hm := stepX_mono P T (w0 := b) noCall_ok hx
  refine wpList_step fun K' hK' => ?_
  refine stepX_good P T hT noCall_ok hx hl.m (hag.ok.2 hl.fm) (hl.up.free _) ?_
  rintro u w' ⟨g', e1, e2, e3⟩
  exact hK' _ _ (k g' w' _ ⟨e1, hag.put.ok.1 (putT_rels ((hag.ok.2 hl.fm).mono e2.ext) o.dst e3), by rw [put_defers]; exact hl.df, hl.up.fr e2 hm.1⟩ R hR)
/-- A call: what it leaves. -/
def Next (b : Bs) (g : Gh) (w' : World) (u : Value) (QQ : Bs → V → St → Prop) : Prop := ∃ b' g' S' v, BsLe b b' ∧ M b' g' S'.heap w' ∧ Ext g.ν g'.ν ∧ Up g' S'.next ∧ V.rel g'.ν v u ∧ QQ b' v S'
theorem SeqB.callG {n : Nat} (hn : n ≤ 2000) {ops : Array Oper} {o : Oper} {r : List Oper} {b : Bs} {F : Fm} {S : St} {K : Bs → Fm → St → Prop} {f : Operand} {args : Array Operand} {ats : Array TypeId} {fid : FuncId} {first captured : List V} {QQ : Bs → V → St → Prop}
    (hi : inOp n ops o = true) (hw : wantF ops F o = some true) (hop : o.op = .call ⟨.value f, args, ats⟩) (hcal : calleeX (evF F f) = some (fid, first, captured))
    (ok : ∀ g w a us, LeftB b n F S g a w → V.rels g.ν (first ++ args.toList.map (evF F) ++ captured) us → CallSem P fid us.toArray w fun u w' => Next b g w' u QQ)
    (k : ∀ b' v S', QQ b' v S' → SeqB P n ops r b' (putF F o.dst v) S' K) : SeqB P n ops (o :: r) b F S K := by
  intro g w a hl R hR
  have ht := hl.fm
  have hag := tmOf_agree hn F
  have hi0 := hi
  simp only [inOp, Bool.and_eq_true] at hi
  obtain ⟨i1, i2⟩ := hi
  have hall : ∀ x ∈ o.op.operands, inO n x = true := fun x hx => List.all_eq_true.1 i1 x (by simpa using hx)
  have hwant : Region.wanted o (yielded ops a.tmps) = true := by
    refine wantX_spec (tm := tmOf n F) ?_ (hag.ok.2 ht)
    rw [← hw]
    unfold wantX wantF
    cases hg : o.guard with
    | none => rfl
    | some p =>
      obtain ⟨j, want⟩ := p
      rw [hg] at i2
      simp only at i2 ⊢
      cases hd : (ops[j]?).bind (·.dst) with
      | none => rfl
      | some t =>
        rw [hd] at i2
        simp only at i2 ⊢
        have ht : t < n := by rw [blt_dec] at i2; exact of_decide_eq_true i2
        rw [Tm.get?_lt (by rw [hag.num]; exact ht), hag.get t ht]
        cases F t with
        | s v => cases v <;> rfl
        | _ => rfl
  refine wpList_step fun K' hK' => ?_
  rw [if_pos hwant]
  obtain ⟨xs, ys, h1, h2, h3⟩ := calleeX_spec hcal (evF_rel ht f (hall f (by rw [hop]; simp [Op.operands, Call.operands])))
  have hmid : V.rels g.ν (args.toList.map (evF F)) (args.toList.map a.eval) := by
    have : ∀ (l : List Operand), (∀ x ∈ l, inO n x = true) → V.rels g.ν (l.map (evF F)) (l.map a.eval) := by
      intro l
      induction l with
      | nil => intro _; exact rels_nil
      | cons x l ih => intro hl; exact rels_cons (evF_rel ht x (hl x List.mem_cons_self)) (ih fun y hy => hl y (List.mem_cons_of_mem _ hy))
    exact this _ fun x hx => hall x (by rw [hop]; simp [Op.operands, Call.operands]; right; simpa using hx)
  have hargs := rels_append (rels_append h2 hmid) h3
  have hgo : ∀ u w', Next b g w' u QQ → K' (a.put o.dst u) w' := by
    rintro u w' ⟨b', g', S', v, hb, hm, hx, hu, hr, hq⟩
    exact hK' _ _ (k b' v S' hq g' w' _ ⟨hm, hag.put.ok.1 (putT_rels ((hag.ok.2 ht).mono hx) o.dst hr), by rw [put_defers]; exact hl.df, hu⟩ R fun b2 F' S2 g2 a2 w2 hk hb2 hl2 => hR b2 F' S2 g2 a2 w2 hk (hb.trans hb2) hl2)
  have hrun : execOp a.eval o = callFunc fid (xs ++ args.toList.map a.eval ++ ys).toArray := by
    obtain ⟨dst, op, ty, pos, after, guard⟩ := o
    simp only at hop
    subst hop
    simp only [execOp, resolve, h1, Deferred.ofValue, pure_bind, invoke]
    congr 1
    apply Array.ext'
    simp
  unfold Oper.wp
  rw [hrun]
  rcases ok g w a _ hl hargs with ⟨u, w', e1, e2⟩ | ⟨e1, e2⟩
  · rw [e1]
    exact hgo u w' e2
  · rw [e1]
    refine Calls.mono e2 ?_
    rintro e w' ⟨u, rfl, hR'⟩
    exact hgo u w' hR'
theorem Gv.mono {f : FuncId} {us : List Value} {v : World} {R R' : Value → World → Prop} (h : Gv P f us v R) (k : ∀ u v', R u v' → Known v v' → R' u v') : Gv P f us v R' :=
  fun w h1 h2 => (h w h1 h2).mono fun u w' ⟨q1, v', q2, q3, q4, q5, q6⟩ => ⟨q1, v', q2, q3, q4, q5, k u v' q6 q2.1⟩
/-- A block's world after a call that leaves all that was and knows more. -/
theorem LeftB.after {b : Bs} {n : Nat} {F : Fm} {S : St} {g : Gh} {a : Act} {w w' v' : World} (hl : LeftB b n F S g a w) (hb : Below w.heap.size w w') (h1 : Known b.v v' ∧ b.v.heap.size ≤ v'.heap.size) (h2 : Known v' w') (h3 : v'.heap.size ≤ w'.heap.size) (h4 : ∀ k, k < w.heap.size → Fast v' k → Fast b.v k) : BsLe b ⟨b.w, v'⟩ ∧ M ⟨b.w, v'⟩ g S.heap w' := by
  refine ⟨⟨rfl, h1.1, h1.2, fun k hk f => h4 k (Nat.lt_of_lt_of_le hk hl.m.base.bel.size) f⟩, ⟨fun id bl hb' => ?_, fun k id hk => ?_, ⟨hl.m.base.bel.trans (hb.mono hl.m.base.bel.size), h2, h3⟩⟩⟩
  · obtain ⟨k, c, o, g1, g2, g3, g4⟩ := hl.m.blk id bl hb'
    exact ⟨k, c, o, g1, g2, by rw [hb.block k (hl.m.mine k id g2).2.1]; exact g3, g4⟩
  · obtain ⟨g1, g2, g3⟩ := hl.m.mine k id hk
    exact ⟨⟨g1.new, fun f => g1.not (h4 k g2 f)⟩, Nat.lt_of_lt_of_le g2 hb.size, g3⟩
theorem Gv.next {f : FuncId} {us : List Value} {b : Bs} {R : Value → World → Prop} (h : Gv P f us b.v R) {n : Nat} {F : Fm} {S : St} {g : Gh} {a : Act} {w : World} (hl : LeftB b n F S g a w) : CallSem P f us.toArray w fun u w' => Next b g w' u fun b' v S' => ∃ x, v = .s x ∧ S' = S ∧ b'.w = b.w ∧ Known b.v b'.v ∧ R x b'.v :=
  (h w hl.m.base.fast hl.m.base.top).mono fun u w' ⟨q1, v', q2, q3, q4, q5, q6⟩ =>
    have := hl.after q1 q2 q3 q4 q5
    ⟨⟨b.w, v'⟩, g, S, .s u, this.1, this.2, Ext.refl _, hl.up, rel_s, u, rfl, rfl, rfl, q2.1, q6⟩
theorem rels_ground {ν : Val} : ∀ {l us : List Value}, V.rels ν (l.map .s) us → us = l
  | [], us, h => by simpa only [List.map_nil, V.rels] using h
  | x :: r, us, h => by
    simp only [List.map_cons, V.rels, V.rel] at h
    obtain ⟨y, ys, rfl, h2, rfl⟩ := h
    rw [rels_ground h2]
theorem Gv.of_calls {f : FuncId} {F : Func} {us : List Value} {v : World} {x : Value} (hf : P.funcs[f]? = some F) (hn : (F.name == "runtime.NumGoroutine") = false) (hb : F.body.isSome = true)
    (h : ∀ w, Known v w → Calls P f us.toArray w fun e w' => e = .returned x ∧ Below w.heap.size w w') : Gv P f us v fun u v' => u = x ∧ v' = v :=
  fun w h1 h2 => callSem_of hf hn hb ((h w h1).mono fun e w' ⟨he, hb⟩ => ⟨x, he, hb, v, ⟨Known.refl v, Nat.le_refl _⟩, h1.below hb, Nat.le_trans h2 hb.size, fun _ _ h => h, rfl, rfl⟩)
theorem Gv.calls {f : FuncId} {us : List Value} {w : World} {R : Value → World → Prop} (h : Gv P f us w R) {F : Func} (hf : P.funcs[f]? = some F) (hn : (F.name == "runtime.NumGoroutine") = false) (hb : F.body.isSome = true) :
    Calls P f us.toArray w fun e w' => ∃ u v', e = .returned u ∧ Below w.heap.size w w' ∧ Known w v' ∧ Known v' w' ∧ R u v' := by
  rcases h w (Known.refl w) (Nat.le_refl _) with ⟨u, w', e1, _⟩ | ⟨_, e2⟩
  · exfalso
    obtain ⟨c, hb⟩ := Option.isSome_iff_exists.1 hb
    unfold callFunc at e1
    simp only [Sem.run_bind, run_program, Result.andThen_ok, hf, hn, hb, Option.isNone_some, Bool.false_eq_true, if_false, Sem.run_pure] at e1
    cases e1
  · refine Calls.mono e2 ?_
    rintro e w' ⟨u, rfl, q1, v', q2, q3, q4, q5, q6⟩
    exact ⟨u, v', rfl, q1, q2.1, q3, q6⟩
/-- Operations one behind the other, up to the next call. -/
def EvB (P : Program) (b : Bs) (n : Nat) (ops : Array Oper) : List Oper → Fm → St → (Bs → Fm → St → Prop) → Prop
  | [], F, S, K => K b F S
  | o :: r, F, S, K => match wantF ops F o with
    | some true => match o.op with
      | .call ⟨.value f, args, ats⟩ => SeqB P n ops (o :: r) b F S K
      | _ => match opX P (whole b.v) (evF F) o S with
        | some (v, f) => EvB P b n ops r (putF F o.dst v) (f.run S) K
        | none => False
    | some false => EvB P b n ops r (putF F o.dst undefV) S K
    | none => False
theorem EvB.seq {b : Bs} {n : Nat} (hn : n ≤ 2000) {ops : Array Oper} : ∀ (l : List Oper) {F : Fm} {S : St} {K : Bs → Fm → St → Prop}, l.all (inOp n ops) = true → EvB P b n ops l F S K → SeqB P n ops l b F S K
  | [], F, S, K, hi, h => SeqB.nil h
  | o :: r, F, S, K, hi, h => by
    simp only [List.all_cons, Bool.and_eq_true] at hi
    simp only [EvB] at h
    split at h
    · rename_i hw
      split at h
      · exact h
      · rename_i hnc
        split at h
        · rename_i v f hop
          refine SeqB.op (whole_tab b) hn hi.1 (v := v) (S' := f.run S) ?_ (EvB.seq hn r hi.2 h)
          unfold stepF
          rw [hw]
          obtain ⟨dst, op, ty, pos, aft, gd⟩ := o
          simp only at hnc hop ⊢
          cases op with
          | call c =>
            obtain ⟨callee, args, ats⟩ := c
            cases callee with
            | value f => exact absurd rfl (hnc _ _ _)
            | builtin b => simp only [hop]
            | invoke r m => simp only [hop]
          | _ => simp only [hop]
        · exact h.elim
    · rename_i hw
      refine SeqB.op (whole_tab b) hn hi.1 (v := undefV) (S' := S) ?_ (EvB.seq hn r hi.2 h)
      unfold stepF
      rw [hw]
    · exact h.elim
theorem WpB.row {n : Nat} (hn : n ≤ 2000) {id : Nat} {ops : Array Oper} {b : Bs} {F : Fm} {S : St} {Q : Ex → Bs → Fm → St → Prop} (hi : ops.toList.all (inOp n ops) = true) (h : EvB P b n ops ops.toList F S (fun b' F' S' => Q .normal b' F' S')) : WpB P n (.region id ops false) b F S Q :=
  fun g w a hl R hR => wp_region_list (EvB.seq hn _ hi h g w a hl R fun b' F' S' g' a' w' hk hb hl' => hR .normal _ _ _ _ _ _ hk hb hl')
/-- A call by a contract of what is known. -/
theorem SeqB.callV {n : Nat} (hn : n ≤ 2000) {ops : Array Oper} {o : Oper} {r : List Oper} {b : Bs} {F : Fm} {S : St} {K : Bs → Fm → St → Prop} {f : Operand} {args : Array Operand} {ats : Array TypeId} {fid : FuncId} {first captured : List V} {us : List Value} {R : Value → World → Prop}
    (hg : Gv P fid us b.v R) (hi : (o :: r).all (inOp n ops) = true) (hw : wantF ops F o = some true) (hop : o.op = .call ⟨.value f, args, ats⟩) (hcal : calleeX (evF F f) = some (fid, first, captured)) (has : first ++ args.toList.map (evF F) ++ captured = us.map .s)
    (k : ∀ x v', R x v' → Known b.v v' → EvB P ⟨b.w, v'⟩ n ops r (putF F o.dst (.s x)) S K) : SeqB P n ops (o :: r) b F S K := by
  simp only [List.all_cons, Bool.and_eq_true] at hi
  refine SeqB.callG hn hi.1 hw hop hcal (fun g w a us' hl hr => ?_) (QQ := fun b' v S' => ∃ x, v = .s x ∧ S' = S ∧ b'.w = b.w ∧ Known b.v b'.v ∧ R x b'.v) ?_
  · rw [has] at hr
    rw [rels_ground hr]
    exact hg.next hl
  · rintro ⟨bw, v'⟩ v S' ⟨x, rfl, rfl, hbw, hk, hr⟩
    have hbw : bw = b.w := hbw
    subst hbw
    exact EvB.seq hn _ hi.2 (k x v' hr hk)
/-- A call that answers without more being known. -/
theorem SeqB.callQ {n : Nat} (hn : n ≤ 2000) {ops : Array Oper} {o : Oper} {r : List Oper} {b : Bs} {F : Fm} {S : St} {K : Bs → Fm → St → Prop} {f : Operand} {args : Array Operand} {ats : Array TypeId} {fid : FuncId} {first captured as : List V} {Q : V → St → Prop}
    (ok : Ok P b fid as S Q) (hi : (o :: r).all (inOp n ops) = true) (hw : wantF ops F o = some true) (hop : o.op = .call ⟨.value f, args, ats⟩) (hcal : calleeX (evF F f) = some (fid, first, captured)) (has : first ++ args.toList.map (evF F) ++ captured = as)
    (k : ∀ v S', Q v S' → S.next ≤ S'.next → EvB P b n ops r (putF F o.dst v) S' K) : SeqB P n ops (o :: r) b F S K := by
  subst has
  simp only [List.all_cons, Bool.and_eq_true] at hi
  refine SeqB.callG hn hi.1 hw hop hcal (fun g w a us' hl hr => ?_) (QQ := fun b' v S' => b' = b ∧ Q v S' ∧ S.next ≤ S'.next) ?_
  · refine (ok g w us' hl.m hr hl.up).mono ?_
    rintro u w' ⟨v, S', hq, m1, m2, g', e1, e2, e3⟩
    exact ⟨b, g', S', v, BsLe.refl b, e1, e2.ext, hl.up.fr e2 m1, e3, rfl, hq, m1⟩
  · rintro b' v S' ⟨rfl, hq, hm⟩
    exact EvB.seq hn _ hi.2 (k v S' hq hm)
/-- What a call's end must give. -/
def FinB (P : Program) (rs : List ResultVar) (b : Bs) (F : Fm) (S : St) (R : Value → World → Prop) : Prop := match resF P (whole b.v) rs F S.heap with
  | some l => match packX l with
    | .s x => R x b.v
    | _ => False
  | none => False
theorem Gv.run {f : FuncId} {Fn : Func} {c : Code} {us : List Value} {v : World} {R : Value → World → Prop} (hf : P.funcs[f]? = some Fn) (hn : (Fn.name == "runtime.NumGoroutine") = false) (hb : Fn.body = some c) (h1 : Nat.ble us.length Fn.ntmps = true) (h2 : Nat.ble Fn.ntmps 2000 = true) (hi : inRes Fn.ntmps Fn.results.toList = true)
    (h : ∀ b : Bs, b.v = v → WpB P Fn.ntmps c b (argF (us.map .s)) ⟨[], 0, 0⟩ fun ex b' F S' => (ex = .normal ∨ ex = .ret) ∧ FinB P Fn.results.toList b' F S' R) : Gv P f us v R := by
  intro w hk hs
  have h1 := Nat.le_of_ble_eq_true h1
  have h2 := Nat.le_of_ble_eq_true h2
  refine callSem_of hf hn (by rw [hb]; rfl) (calls_of_wp hf hb ?_)
  have hM : M ⟨w, v⟩ ⟨fun _ => none, fun _ => none⟩ [] w := ⟨fun id b hb => (by cases hb), fun k id hk => (by cases hk), Below.refl _ _, hk, hs⟩
  refine h ⟨w, v⟩ rfl _ w _ ⟨hM, argF_ok (rels_lits us) (by simpa using h1), rfl, fun _ _ => rfl⟩ _ fun ex b' F' S' g' a' w' ⟨hex, hfin⟩ hble hl => ?_
  unfold FinB at hfin
  split at hfin
  rotate_left
  · exact hfin.elim
  rename_i l hres
  split at hfin
  rotate_left
  · exact hfin.elim
  rename_i x hx
  have hag := tmOf_agree h2 F'
  rw [← resX_eq hag _ hi] at hres
  obtain ⟨u, hu1, hu2⟩ := packX_run P (whole b'.v) (S := S') (whole_tab b') hl.m (hag.ok.2 hl.fm) hres
  rw [hx] at hu2
  simp only [V.rel] at hu2
  subst hu2
  have hbw : b'.w = w := hble.w
  have hA : Below w.heap.size w w' ∧ ∃ v', (Known v v' ∧ v.heap.size ≤ v'.heap.size) ∧ Known v' w' ∧ v'.heap.size ≤ w'.heap.size ∧ (∀ k, k < w.heap.size → Fast v' k → Fast v k) ∧ R u v' :=
    ⟨hbw ▸ hl.m.base.bel, b'.v, ⟨hble.v, hble.sz⟩, hl.m.base.fast, hl.m.base.top, hble.old, hfin⟩
  rcases hex with rfl | rfl
  · exact ⟨hl.df, u, hu1, u, rfl, hA⟩
  · exact ⟨hl.df, u, hu1, u, rfl, hA⟩
end
end Go.Proofs.YtmpmbnmldmpmiaaGreatDoor.Sim
