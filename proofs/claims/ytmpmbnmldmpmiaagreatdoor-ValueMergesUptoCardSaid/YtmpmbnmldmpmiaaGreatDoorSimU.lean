/- Texts of this claim, put together. -/
import Derived.Test.YtmpmbnmldmpmiaaGreatDoorSimH
set_option linter.unusedVariables false
set_option linter.unusedSimpArgs false
namespace Go.Proofs.YtmpmbnmldmpmiaaGreatDoor.Sim
open Go Go.RowKit
theorem Known.trans {a b c : World} (h : Known a b) (k : Known b c) : Known a c := fun j cs e fr h1 h2 => k j cs e fr (h j cs e fr h1 h2) h2
theorem Known.fast {a b : World} (h : Known a b) {k : Nat} (f : Fast a k) : Fast b k := let ⟨cs, e, fr, h1, h2⟩ := f; ⟨cs, e, fr, h _ _ _ _ h1 h2, h2⟩
theorem Known.cell {a b : World} (h : Known a b) {p : Addr} {u : Value} (e : a.cell? p = some u) : b.cell? p = some u := by
  unfold World.cell? at e ⊢
  split at e
  · rename_i cs el fr hk
    have hc : cs.size ≠ 0 := by
      intro h0
      have : cs = #[] := Array.size_eq_zero_iff.1 h0
      subst this
      revert e
      simp
    rw [h _ _ _ _ hk hc]
    exact e
  · cases e
theorem Known.whole {a b : World} (h : Known a b) {k : Nat} {cs : List Value} (e : Sim.whole a k = some cs) : Sim.whole b k = some cs := by
  unfold Sim.whole at e
  split at e
  · rename_i cs' el fr hk
    split at e
    · cases e
    · rename_i hc
      cases e
      exact whole_cells (h _ _ _ _ hk hc) hc
  · cases e
/-- What is known grows; nothing of the world at the beginning is made fast. -/
structure BsLe (b b' : Bs) : Prop where
  w : b'.w = b.w
  v : Known b.v b'.v
  sz : b.v.heap.size ≤ b'.v.heap.size
  old : ∀ k, k < b.w.heap.size → Fast b'.v k → Fast b.v k
theorem BsLe.refl (b : Bs) : BsLe b b := ⟨rfl, Known.refl _, Nat.le_refl _, fun _ _ h => h⟩
theorem BsLe.trans {a b c : Bs} (h : BsLe a b) (k : BsLe b c) : BsLe a c := ⟨k.w.trans h.w, h.v.trans k.v, Nat.le_trans h.sz k.sz, fun j hj f => h.old j hj (k.old j (by rw [h.w]; exact hj) f)⟩
mutual
/-- A name's block has become fast. -/
def gV (id k c : Nat) : V → V
  | .s v => .s v
  | .ptr b off => if b = id then .s (.pointer (some ⟨k, off, none⟩)) else .ptr b off
  | .slc b off len cap => if b = id then .s (.slice (some ⟨k, off, none⟩) len (cap.getD c)) else .slc b off len cap
  | .slu b off len => .slu b off len
  | .map b => .map b
  | .fn f a cs => .fn f (gVs id k c a) (gVs id k c cs)
  | .ifc t v => .ifc t (gV id k c v)
  | .agg cs => mkAgg (gVs id k c cs)
  | .tup cs => mkTup (gVs id k c cs)
def gVs (id k c : Nat) : List V → List V
  | [] => []
  | v :: r => gV id k c v :: gVs id k c r
end
mutual
theorem gV_rel {ν : Val} {id k c : Nat} (h : ν id = some (k, c)) : ∀ (v : V) (u : Value), V.rel ν v u → V.rel ν (gV id k c v) u
  | .s v, u, e => by simpa only [gV] using e
  | .ptr b off, u, e => by
    unfold gV
    split
    · rename_i hb
      subst hb
      simp only [V.rel] at e ⊢
      obtain ⟨k', c', e, r⟩ := e
      rw [h] at e
      cases e
      exact r
    · exact e
  | .slc b off len cap, u, e => by
    unfold gV
    split
    · rename_i hb
      subst hb
      simp only [V.rel] at e ⊢
      obtain ⟨k', c', e, r⟩ := e
      rw [h] at e
      cases e
      exact r
    · exact e
  | .slu b off len, u, e => by simpa only [gV] using e
  | .map b, u, e => by simpa only [gV] using e
  | .fn f a cs, u, e => by
    simp only [gV, V.rel] at e ⊢
    obtain ⟨xs, ys, h1, h2, r⟩ := e
    exact ⟨xs, ys, gVs_rel h a xs h1, gVs_rel h cs ys h2, r⟩
  | .ifc t v, u, e => by
    simp only [gV, V.rel] at e ⊢
    obtain ⟨x, h1, r⟩ := e
    exact ⟨x, gV_rel h v x h1, r⟩
  | .agg cs, u, e => by
    simp only [gV, V.rel] at e ⊢
    obtain ⟨x, h1, rfl⟩ := e
    exact mkAgg_rel (gVs_rel h cs x h1)
  | .tup cs, u, e => by
    simp only [gV, V.rel] at e ⊢
    obtain ⟨x, h1, rfl⟩ := e
    exact mkTup_rel (gVs_rel h cs x h1)
theorem gVs_rel {ν : Val} {id k c : Nat} (h : ν id = some (k, c)) : ∀ (l : List V) (us : List Value), V.rels ν l us → V.rels ν (gVs id k c l) us
  | [], us, e => by simpa only [gVs] using e
  | a :: r, us, e => by
    simp only [gVs, V.rels] at e ⊢
    obtain ⟨x, xs, h1, h2, e⟩ := e
    exact ⟨x, xs, gV_rel h a x h1, gVs_rel h r xs h2, e⟩
end
theorem gVs_lits (id k c : Nat) : ∀ (l : List Value), gVs id k c (l.map .s) = l.map .s
  | [] => rfl
  | x :: r => by simp only [List.map_cons, gVs, gV, gVs_lits id k c r]
def gB (id k c : Nat) : Blk → Blk
  | .row cs e tl fz => .row (gVs id k c cs) e tl fz
  | b => b
theorem gB_ok {ν : Val} {id k c : Nat} (h : ν id = some (k, c)) {d : Nat} {b : Blk} {o : Obj} (e : BlkOk ν d b o) : BlkOk ν d (gB id k c b) o := by
  cases b with
  | row cs el tl fz =>
    obtain ⟨xs, ys, fr, h1, r⟩ := e
    exact ⟨xs, ys, fr, gVs_rel h _ _ h1, r⟩
  | _ => exact e
/-- The blocks without one that has become fast. -/
def gH (id k c : Nat) : Heap → Heap
  | [] => []
  | (i, b) :: r => if i = id then gH id k c r else (i, gB id k c b) :: gH id k c r
theorem gH_find {id k c i : Nat} {b : Blk} : ∀ {H : Heap}, find i (gH id k c H) = some b → i ≠ id ∧ ∃ b0, find i H = some b0 ∧ b = gB id k c b0
  | [], h => by cases h
  | (j, d) :: r, h => by
    unfold gH at h
    by_cases hj : j = id
    · rw [if_pos hj] at h
      obtain ⟨h1, b0, h2, h3⟩ := gH_find h
      refine ⟨h1, b0, ?_, h3⟩
      have hne : j ≠ i := fun e => h1 (e ▸ hj)
      rw [find_cons, if_neg hne, h2]
    · rw [if_neg hj, find_cons] at h
      by_cases hi : j = i
      · rw [if_pos hi] at h
        cases h
        refine ⟨hi ▸ hj, d, ?_, rfl⟩
        rw [find_cons, if_pos hi]
      · rw [if_neg hi] at h
        obtain ⟨h1, b0, h2, h3⟩ := gH_find h
        refine ⟨h1, b0, ?_, h3⟩
        rw [find_cons, if_neg hi, h2]
def gS (id k c : Nat) (S : St) : St := ⟨gH id k c S.heap, S.next, S.low⟩
def gF (id k c : Nat) (F : Fm) : Fm := fun t => gV id k c (F t)
/-- What is known, and one block more. -/
def fasten (v : World) (n k : Nat) (o : Obj) : World := { v with heap := (Array.range n).map fun j => if j = k then o else (v.heap[j]?).getD (.cells #[] 0 (0, 0)) }
theorem fasten_get (v : World) (n k : Nat) (o : Obj) (j : Nat) : (fasten v n k o).heap[j]? = if j < n then some (if j = k then o else (v.heap[j]?).getD (.cells #[] 0 (0, 0))) else none := by
  unfold fasten
  by_cases h : j < n
  · rw [if_pos h, Array.getElem?_eq_getElem (by simpa using h)]
    simp
  · rw [if_neg h, Array.getElem?_eq_none (by simpa using h)]
theorem fasten_known {v : World} {n k : Nat} {o : Obj} (hs : v.heap.size ≤ n) (hk : ¬ Fast v k) : Known v (fasten v n k o) := fun j cs e fr h1 h2 => by
  have hj := (Array.getElem?_eq_some_iff.1 h1).1
  have hne : j ≠ k := fun e' => hk (e' ▸ ⟨cs, e, fr, h1, h2⟩)
  rw [fasten_get, if_pos (by omega), if_neg hne, h1]
  rfl
theorem fasten_fast {v : World} {n k : Nat} {o : Obj} {j : Nat} (hj : j ≠ k) (h : Fast (fasten v n k o) j) : Fast v j := by
  obtain ⟨cs, e, fr, h1, h2⟩ := h
  rw [fasten_get] at h1
  simp only [if_neg hj] at h1
  split at h1
  · cases hv : v.heap[j]? with
    | none => rw [hv] at h1; simp at h1; exact absurd (by rw [h1.1]; rfl) h2
    | some o' => rw [hv] at h1; simp at h1; exact ⟨cs, e, fr, by rw [hv, h1], h2⟩
  · cases h1
theorem fasten_into {v w : World} {k : Nat} {o : Obj} (h : Known v w) (ho : w.heap[k]? = some o) (hs : v.heap.size ≤ w.heap.size) : Known (fasten v w.heap.size k o) w := fun j cs e fr h1 h2 => by
  rw [fasten_get] at h1
  split at h1
  · by_cases hj : j = k
    · simp only [if_pos hj] at h1
      rw [hj, ho, h1]
    · simp only [if_neg hj] at h1
      cases hv : v.heap[j]? with
      | none => rw [hv] at h1; simp at h1; exact absurd (by rw [h1.1]; rfl) h2
      | some o' => rw [hv] at h1; simp at h1; exact h j cs e fr (by rw [hv, h1]) h2
  · cases h1
/-- What is left. -/
structure LeftB (b : Bs) (n : Nat) (F : Fm) (S : St) (g : Gh) (a : Act) (w : World) : Prop where
  m : M b g S.heap w
  fm : FmOk g.ν n F a
  df : a.defers = []
  up : Up g S.next
section
variable (P : Program)
def WpB (n : Nat) (c : Code) (b : Bs) (F : Fm) (S : St) (Q : Ex → Bs → Fm → St → Prop) : Prop :=
  ∀ g w a, LeftB b n F S g a w → ∀ R : Exit → Act → World → Prop,
    (∀ ex b' F' S' g' a' w', Q ex b' F' S' → BsLe b b' → LeftB b' n F' S' g' a' w' → R ex.exit' a' w') → c.wp P R a w
def SeqB (n : Nat) (ops : Array Oper) (l : List Oper) (b : Bs) (F : Fm) (S : St) (K : Bs → Fm → St → Prop) : Prop :=
  ∀ g w a, LeftB b n F S g a w → ∀ R : Exit → Act → World → Prop,
    (∀ b' F' S' g' a' w', K b' F' S' → BsLe b b' → LeftB b' n F' S' g' a' w' → R .normal a' w') → wpList P ops R l a w
/-- What a call gives, wherever what is known lies. -/
def Gv (f : FuncId) (us : List Value) (v : World) (R : Value → World → Prop) : Prop :=
  ∀ w, Known v w → v.heap.size ≤ w.heap.size → CallSem P f us.toArray w fun u w' => Below w.heap.size w w' ∧ ∃ v', (Known v v' ∧ v.heap.size ≤ v'.heap.size) ∧ Known v' w' ∧ v'.heap.size ≤ w'.heap.size ∧ (∀ k, k < w.heap.size → Fast v' k → Fast v k) ∧ R u v'
variable {P}
theorem WpB.ofF {n : Nat} {c : Code} {b : Bs} {F : Fm} {S : St} {Q : Ex → Bs → Fm → St → Prop} (h : WpF P b n c F S fun ex F' S' => Q ex b F' S') : WpB P n c b F S Q :=
  fun g w a hl R hR => h g w a hl.m hl.fm hl.df hl.up R fun ex F' S' g' a' w' hq m1 m2 hl' => hR ex b F' S' g' a' w' hq (BsLe.refl b) ⟨hl'.m, hl'.fm, hl'.df, hl.up.fr hl'.fr m1⟩
theorem WpB.skip {n : Nat} {b : Bs} {F : Fm} {S : St} {Q : Ex → Bs → Fm → St → Prop} (h : Q .normal b F S) : WpB P n .skip b F S Q := WpB.ofF (WpF.skip h)
theorem WpB.exit {n i : Nat} {b : Bs} {F : Fm} {S : St} {Q : Ex → Bs → Fm → St → Prop} (h : Q (.exit i) b F S) : WpB P n (.exit i) b F S Q := WpB.ofF (WpF.exit h)
theorem WpB.ret {n : Nat} {b : Bs} {F : Fm} {S : St} {Q : Ex → Bs → Fm → St → Prop} (h : Q .ret b F S) : WpB P n .ret b F S Q := WpB.ofF (WpF.ret h)
def ThenB (P : Program) (n : Nat) (y : Code) (Q : Ex → Bs → Fm → St → Prop) : Ex → Bs → Fm → St → Prop
  | .normal, b, F, S => WpB P n y b F S Q
  | .exit i, b, F, S => Q (.exit i) b F S
  | .ret, b, F, S => Q .ret b F S
theorem WpB.seq {n : Nat} {x y : Code} {b : Bs} {F : Fm} {S : St} {Q : Ex → Bs → Fm → St → Prop} (h : WpB P n x b F S (ThenB P n y Q)) : WpB P n (.seq x y) b F S Q := by
  intro g w a hl R hR
  refine wp_seq (h g w a hl _ fun ex b1 F1 S1 g1 a1 w1 hq hb hl1 => ?_)
  cases ex with
  | normal => exact hq g1 w1 a1 hl1 R fun ex b' F' S' g' a' w' hq' hb' hl' => hR _ _ _ _ _ _ _ hq' (hb.trans hb') hl'
  | exit i => exact hR _ _ _ _ _ _ _ hq hb hl1
  | ret => exact hR _ _ _ _ _ _ _ hq hb hl1
theorem WpB.cond {n : Nat} {c : Operand} {t e : Code} {b : Bs} {F : Fm} {S : St} {Q : Ex → Bs → Fm → St → Prop} {z : Bool} (hi : inO n c = true) (hc : evF F c = .s (.bool z)) (ht : z = true → WpB P n t b F S Q) (he : z = false → WpB P n e b F S Q) : WpB P n (.cond c t e) b F S Q := by
  intro g w a hl R hR
  have hev := evF_rel hl.fm c hi
  rw [hc] at hev
  simp only [V.rel] at hev
  cases z with
  | true => exact wp_cond_true hev (ht rfl g w a hl R hR)
  | false => exact wp_cond_false hev (he rfl g w a hl R hR)
def inBlockB (id : Nat) (Q : Ex → Bs → Fm → St → Prop) : Ex → Bs → Fm → St → Prop
  | .exit i, b, F, S => if i = id then Q .normal b F S else Q (.exit i) b F S
  | .normal, b, F, S => Q .normal b F S
  | .ret, b, F, S => Q .ret b F S
theorem WpB.block {n id : Nat} {c : Code} {b : Bs} {F : Fm} {S : St} {Q : Ex → Bs → Fm → St → Prop} (h : WpB P n c b F S (inBlockB id Q)) : WpB P n (.block id c) b F S Q := by
  intro g w a hl R hR
  refine wp_block (h g w a hl _ fun ex b1 F1 S1 g1 a1 w1 hq hb hl1 => ?_)
  cases ex with
  | normal => exact hR .normal _ _ _ _ _ _ hq hb hl1
  | ret => exact hR .ret _ _ _ _ _ _ hq hb hl1
  | exit i =>
    simp only [Ex.exit', Exit.inBlock]
    by_cases hi : i = id
    · rw [if_pos hi]
      simp only [inBlockB, if_pos hi] at hq
      exact hR .normal _ _ _ _ _ _ hq hb hl1
    · rw [if_neg hi]
      simp only [inBlockB, if_neg hi] at hq
      exact hR (.exit i) _ _ _ _ _ _ hq hb hl1
def againB (I : Nat → Bs → Fm → St → Prop) (m : Nat) (Q : Ex → Bs → Fm → St → Prop) : Ex → Bs → Fm → St → Prop
  | .normal, b, F, S => ∃ j, j < m ∧ I j b F S
  | .exit i, b, F, S => Q (.exit i) b F S
  | .ret, b, F, S => Q .ret b F S
theorem WpB.loop {n : Nat} {c : Code} {Q : Ex → Bs → Fm → St → Prop} (I : Nat → Bs → Fm → St → Prop) (m : Nat) {b : Bs} {F : Fm} {S : St} (h0 : I m b F S) (h : ∀ m b F S, I m b F S → WpB P n c b F S (againB I m Q)) : WpB P n (.loop c) b F S Q := by
  have key : ∀ N m b F S, m < N → I m b F S → ∀ g w a, LeftB b n F S g a w → ∀ R : Exit → Act → World → Prop,
      (∀ ex b' F' S' g' a' w', Q ex b' F' S' → BsLe b b' → LeftB b' n F' S' g' a' w' → R ex.exit' a' w') → Code.rounds P c R N a w := by
    intro N
    induction N with
    | zero => intro m b F S hm; exact absurd hm (Nat.not_lt_zero _)
    | succ N ih =>
      intro m b F S hm hI g w a hl R hR
      rw [rounds_succ]
      refine h m b F S hI g w a hl _ fun ex b1 F1 S1 g1 a1 w1 hq hb hl1 => ?_
      cases ex with
      | normal =>
        obtain ⟨j, hj, hIj⟩ := hq
        exact ih j b1 F1 S1 (by omega) hIj g1 w1 a1 hl1 R fun ex b' F' S' g' a' w' hq' hb' hl' => hR _ _ _ _ _ _ _ hq' (hb.trans hb') hl'
      | exit i => exact hR (.exit i) _ _ _ _ _ _ hq hb hl1
      | ret => exact hR .ret _ _ _ _ _ _ hq hb hl1
  intro g w a hl R hR
  exact wp_loop_rounds (m + 1) (key (m + 1) m b F S (Nat.lt_succ_self _) h0 g w a hl R hR)
theorem WpB.forget {n : Nat} {c : Code} {b : Bs} {F : Fm} {S S2 : St} {Q : Ex → Bs → Fm → St → Prop} (hs : ∀ id b, find id S2.heap = some b → find id S.heap = some b) (hn : S2.next = S.next) (h : WpB P n c b F S2 Q) : WpB P n c b F S Q :=
  fun g w a hl R hR => h g w a ⟨hl.m.sub hs, hl.fm, hl.df, by rw [hn]; exact hl.up⟩ R hR
/-- A block becomes fast. -/
theorem LeftB.freeze {b : Bs} {n : Nat} {F : Fm} {S : St} {g : Gh} {a : Act} {w : World} (hl : LeftB b n F S g a w) {id : Nat} {xs : List Value} {e : TypeId} {tl : Option Nat} {fz : Fz} (hf : find id S.heap = some (.row (xs.map .s) e tl fz)) :
    ∃ b' g' k c ys fr, BsLe b b' ∧ b'.v.heap[k]? = some (.cells (xs ++ ys).toArray e fr) ∧ (match tl with | none => ys = [] | some q => xs.length + ys.length = c * q) ∧ LeftB b' n (gF id k c F) (gS id k c S) g' a w := by
  obtain ⟨k, c, o, h1, h2, h3, xs', ys, fr, h4, ho, _, htl⟩ := hl.m.blk _ _ hf
  have hx : xs' = xs := by
    have : lits (xs.map V.s) = some xs := by
      clear h4 hf
      induction xs with
      | nil => rfl
      | cons x r ih => simp only [List.map_cons, lits, ih]
    exact lits_rels this h4
  subst hx
  obtain ⟨hm1, hm2, _⟩ := hl.m.mine k id h2
  have hkw := (Array.getElem?_eq_some_iff.1 h3).1
  refine ⟨⟨b.w, fasten b.v w.heap.size k o⟩, ⟨g.ν, fun j => if j = k then none else g.own j⟩, k, c, ys, fr, ⟨rfl, fasten_known hl.m.base.top hm1.not, by show _ ≤ (fasten b.v w.heap.size k o).heap.size; simp [fasten]; exact hl.m.base.top, fun j hj f => fasten_fast (fun e' => by have := hm1.new; omega) f⟩, ?_, htl, ⟨?_, ?_, hl.df, fun i hi => hl.up i hi⟩⟩
  · show (fasten b.v w.heap.size k o).heap[k]? = _
    rw [fasten_get, if_pos hkw, if_pos rfl, ho]
  · refine ⟨fun i b0 hb => ?_, fun j i hj => ?_, hl.m.base.bel, fasten_into hl.m.base.fast h3 hl.m.base.top, ?_⟩
    · obtain ⟨hne, b1, hb1, rfl⟩ := gH_find hb
      obtain ⟨k', c', o', q1, q2, q3, q4⟩ := hl.m.blk _ _ hb1
      have hkk : k' ≠ k := fun e' => hne (by rw [e', h2] at q2; cases q2; rfl)
      exact ⟨k', c', o', q1, by show (if k' = k then none else g.own k') = some i; rw [if_neg hkk, q2], q3, gB_ok h1 q4⟩
    · have hj' : (if j = k then none else g.own j) = some i := hj
      split at hj'
      · cases hj'
      · rename_i hjk
        obtain ⟨q1, q2, q3⟩ := hl.m.mine j i hj'
        exact ⟨⟨q1.new, fun f => q1.not (fasten_fast hjk f)⟩, q2, q3⟩
    · show (fasten b.v w.heap.size k o).heap.size ≤ w.heap.size
      simp [fasten]
  · exact ⟨hl.fm.size, fun t ht => let ⟨u, e1, e2⟩ := hl.fm.get t ht; ⟨u, e1, gV_rel h1 _ _ e2⟩⟩
theorem WpB.freeze {n : Nat} {c : Code} {b : Bs} {F : Fm} {S : St} {Q : Ex → Bs → Fm → St → Prop} (id : Nat) {xs : List Value} {e : TypeId} {tl : Option Nat} {fz : Fz} (hf : find id S.heap = some (.row (xs.map .s) e tl fz))
    (h : ∀ b' k cp ys fr, BsLe b b' → b'.v.heap[k]? = some (.cells (xs ++ ys).toArray e fr) → (match tl with | none => ys = [] | some q => xs.length + ys.length = cp * q) → WpB P n c b' (gF id k cp F) (gS id k cp S) Q) : WpB P n c b F S Q := by
  intro g w a hl R hR
  obtain ⟨b', g', k, cp, ys, fr, h1, h2, h2', h3⟩ := hl.freeze hf
  exact h b' k cp ys fr h1 h2 h2' g' w a h3 R fun ex b2 F' S' g2 a' w' hq hb hl' => hR ex b2 F' S' g2 a' w' hq (h1.trans hb) hl'
end
section
variable {P : Program}
theorem SeqB.nil {n : Nat} {ops : Array Oper} {b : Bs} {F : Fm} {S : St} {K : Bs → Fm → St → Prop} (h : K b F S) : SeqB P n ops [] b F S K :=
  fun g w a hl R hR => wpList_nil (hR b _ _ g a w h (BsLe.refl b) hl)
theorem SeqB.op {T : Nat → Option (List Value)} {b : Bs} (hT : Tab T b) {n : Nat} (hn : n ≤ 2000) {ops : Array Oper} {o : Oper} {r : List Oper} {F : Fm} {S S' : St} {v : V} {K : Bs → Fm → St → Prop} (hi : inOp n ops o = true) (h : stepF P T noCall ops F o S = some (v, S')) (k : SeqB P n ops r b (putF F o.dst v) S' K) : SeqB P n ops (o :: r) b F S K := by
  intro g w a hl R hR
  have hag := tmOf_agree hn F
  have hx : stepX P T noCall ops (tmOf n F) o S = some (v, S') := (stepX_eq P T hag hi).trans h
  have hm := stepX_mono P T (w0 := b) noCall_ok hx
  refine wpList_step fun K' hK' => ?_
  refine stepX_good P T hT noCall_ok hx hl.m (hag.ok.2 hl.fm) (hl.up.free _) ?_
  rintro u w' ⟨g', e1, e2, e3⟩
  exact hK' _ _ (k g' w' _ ⟨e1, hag.put.ok.1 (putT_rels ((hag.ok.2 hl.fm).mono e2.ext) o.dst e3), by rw [put_defers]; exact hl.df, hl.up.fr e2 hm.1⟩ R hR)
/-- A call: what it leaves. -/
def Next (b : Bs) (g : Gh) (w' : World) (u : Value) (QQ : Bs → V → St → Prop) : Prop := ∃ b' g' S' v, BsLe b b' ∧ M b' g' S'.heap w' ∧ Ext g.ν g'.ν ∧ Up g' S'.next ∧ V.rel g'.ν v u ∧ QQ b' v S'
theorem SeqB.callG {n : Nat} (hn : n ≤ 2000) {ops : Array Oper} {o : Oper} {r : List Oper} {b : Bs} {F : Fm} {S : St} {K : Bs → Fm → St → Prop} {f : Operand} {args : Array Operand} {ats : Array TypeId} {fid : FuncId} {first captured : List V} {QQ : Bs → V → St → Prop}
    (hi : inOp n ops o = true) (hw : wantF ops F o = some true) (hop : o.op = .call ⟨.value f, args, ats⟩) (hcal : calleeX (evF F f) = some (fid, first, captured))
    (ok : ∀ g w a us, LeftB b n F S g a w → V.rels g.ν (first ++ args.toList.map (evF F) ++ captured) us → CallSem P fid us.toArray w fun u w' => Next b g w' u QQ)
    (k : ∀ b' v S', QQ b' v S' → SeqB P n ops r b' (putF F o.dst v) S' K) : SeqB P n ops (o :: r) b F S K := by
  intro g w a hl R hR
  have ht := hl.fm
  have hag := tmOf_agree hn F
  have hi0 := hi
  simp only [inOp, Bool.and_eq_true] at hi
  obtain ⟨i1, i2⟩ := hi
  have hall : ∀ x ∈ o.op.operands, inO n x = true := fun x hx => List.all_eq_true.1 i1 x (by simpa using hx)
  have hwant : Region.wanted o (yielded ops a.tmps) = true := by
    refine wantX_spec (tm := tmOf n F) ?_ (hag.ok.2 ht)
    rw [← hw]
    unfold wantX wantF
    cases hg : o.guard with
    | none => rfl
    | some p =>
      obtain ⟨j, want⟩ := p
      rw [hg] at i2
      simp only at i2 ⊢
      cases hd : (ops[j]?).bind (·.dst) with
      | none => rfl
      | some t =>
        rw [hd] at i2
        simp only at i2 ⊢
        have ht : t < n := by rw [blt_dec] at i2; exact of_decide_eq_true i2
        rw [Tm.get?_lt (by rw [hag.num]; exact ht), hag.get t ht]
        cases F t with
        | s v => cases v <;> rfl
        | _ => rfl
  refine wpList_step fun K' hK' => ?_
  rw [if_pos hwant]
  obtain ⟨xs, ys, h1, h2, h3⟩ := calleeX_spec hcal (evF_rel ht f (hall f (by rw [hop]; simp [Op.operands, Call.operands])))
  have hmid : V.rels g.ν (args.toList.map (evF F)) (args.toList.map a.eval) := by
    have : ∀ (l : List Operand), (∀ x ∈ l, inO n x = true) → V.rels g.ν (l.map (evF F)) (l.map a.eval) := by
      intro l
      induction l with
      | nil => intro _; exact rels_nil
      | cons x l ih => intro hl; exact rels_cons (evF_rel ht x (hl x List.mem_cons_self)) (ih fun y hy => hl y (List.mem_cons_of_mem _ hy))
    exact this _ fun x hx => hall x (by rw [hop]; simp [Op.operands, Call.operands]; right; simpa using hx)
  have hargs := rels_append (rels_append h2 hmid) h3
  have hgo : ∀ u w', Next b g w' u QQ → K' (a.put o.dst u) w' := by
    rintro u w' ⟨b', g', S', v, hb, hm, hx, hu, hr, hq⟩
    exact hK' _ _ (k b' v S' hq g' w' _ ⟨hm, hag.put.ok.1 (putT_rels ((hag.ok.2 ht).mono hx) o.dst hr), by rw [put_defers]; exact hl.df, hu⟩ R fun b2 F' S2 g2 a2 w2 hk hb2 hl2 => hR b2 F' S2 g2 a2 w2 hk (hb.trans hb2) hl2)
  have hrun : execOp a.eval o = callFunc fid (xs ++ args.toList.map a.eval ++ ys).toArray := by
    obtain ⟨dst, op, ty, pos, after, guard⟩ := o
    simp only at hop
    subst hop
    simp only [execOp, resolve, h1, Deferred.ofValue, pure_bind, invoke]
    congr 1
    apply Array.ext'
    simp
  unfold Oper.wp
  rw [hrun]
  rcases ok g w a _ hl hargs with ⟨u, w', e1, e2⟩ | ⟨e1, e2⟩
  · rw [e1]
    exact hgo u w' e2
  · rw [e1]
    refine Calls.mono e2 ?_
    rintro e w' ⟨u, rfl, hR'⟩
    exact hgo u w' hR'
theorem Gv.mono {f : FuncId} {us : List Value} {v : World} {R R' : Value → World → Prop} (h : Gv P f us v R) (k : ∀ u v', R u v' → Known v v' → R' u v') : Gv P f us v R' :=
  fun w h1 h2 => (h w h1 h2).mono fun u w' ⟨q1, v', q2, q3, q4, q5, q6⟩ => ⟨q1, v', q2, q3, q4, q5, k u v' q6 q2.1⟩
/-- A block's world after a call that leaves all that was and knows more. -/
theorem LeftB.after {b : Bs} {n : Nat} {F : Fm} {S : St} {g : Gh} {a : Act} {w w' v' : World} (hl : LeftB b n F S g a w) (hb : Below w.heap.size w w') (h1 : Known b.v v' ∧ b.v.heap.size ≤ v'.heap.size) (h2 : Known v' w') (h3 : v'.heap.size ≤ w'.heap.size) (h4 : ∀ k, k < w.heap.size → Fast v' k → Fast b.v k) : BsLe b ⟨b.w, v'⟩ ∧ M ⟨b.w, v'⟩ g S.heap w' := by
  refine ⟨⟨rfl, h1.1, h1.2, fun k hk f => h4 k (Nat.lt_of_lt_of_le hk hl.m.base.bel.size) f⟩, ⟨fun id bl hb' => ?_, fun k id hk => ?_, ⟨hl.m.base.bel.trans (hb.mono hl.m.base.bel.size), h2, h3⟩⟩⟩
  · obtain ⟨k, c, o, g1, g2, g3, g4⟩ := hl.m.blk id bl hb'
    exact ⟨k, c, o, g1, g2, by rw [hb.block k (hl.m.mine k id g2).2.1]; exact g3, g4⟩
  · obtain ⟨g1, g2, g3⟩ := hl.m.mine k id hk
    exact ⟨⟨g1.new, fun f => g1.not (h4 k g2 f)⟩, Nat.lt_of_lt_of_le g2 hb.size, g3⟩
theorem Gv.next {f : FuncId} {us : List Value} {b : Bs} {R : Value → World → Prop} (h : Gv P f us b.v R) {n : Nat} {F : Fm} {S : St} {g : Gh} {a : Act} {w : World} (hl : LeftB b n F S g a w) : CallSem P f us.toArray w fun u w' => Next b g w' u fun b' v S' => ∃ x, v = .s x ∧ S' = S ∧ b'.w = b.w ∧ Known b.v b'.v ∧ R x b'.v :=
  (h w hl.m.base.fast hl.m.base.top).mono fun u w' ⟨q1, v', q2, q3, q4, q5, q6⟩ =>
    have := hl.after q1 q2 q3 q4 q5
    ⟨⟨b.w, v'⟩, g, S, .s u, this.1, this.2, Ext.refl _, hl.up, rel_s, u, rfl, rfl, rfl, q2.1, q6⟩
theorem rels_ground {ν : Val} : ∀ {l us : List Value}, V.rels ν (l.map .s) us → us = l
  | [], us, h => by simpa only [List.map_nil, V.rels] using h
  | x :: r, us, h => by
    simp only [List.map_cons, V.rels, V.rel] at h
    obtain ⟨y, ys, rfl, h2, rfl⟩ := h
    rw [rels_ground h2]
theorem Gv.of_calls {f : FuncId} {F : Func} {us : List Value} {v : World} {x : Value} (hf : P.funcs[f]? = some F) (hn : (F.name == "runtime.NumGoroutine") = false) (hb : F.body.isSome = true)
    (h : ∀ w, Known v w → Calls P f us.toArray w fun e w' => e = .returned x ∧ Below w.heap.size w w') : Gv P f us v fun u v' => u = x ∧ v' = v :=
  fun w h1 h2 => callSem_of hf hn hb ((h w h1).mono fun e w' ⟨he, hb⟩ => ⟨x, he, hb, v, ⟨Known.refl v, Nat.le_refl _⟩, h1.below hb, Nat.le_trans h2 hb.size, fun _ _ h => h, rfl, rfl⟩)
theorem Gv.calls {f : FuncId} {us : List Value} {w : World} {R : Value → World → Prop} (h : Gv P f us w R) {F : Func} (hf : P.funcs[f]? = some F) (hn : (F.name == "runtime.NumGoroutine") = false) (hb : F.body.isSome = true) :
    Calls P f us.toArray w fun e w' => ∃ u v', e = .returned u ∧ Below w.heap.size w w' ∧ Known w v' ∧ Known v' w' ∧ R u v' := by
  rcases h w (Known.refl w) (Nat.le_refl _) with ⟨u, w', e1, _⟩ | ⟨_, e2⟩
  · exfalso
    obtain ⟨c, hb⟩ := Option.isSome_iff_exists.1 hb
    unfold callFunc at e1
    simp only [Sem.run_bind, run_program, Result.andThen_ok, hf, hn, hb, Option.isNone_some, Bool.false_eq_true, if_false, Sem.run_pure] at e1
    cases e1
  · refine Calls.mono e2 ?_
    rintro e w' ⟨u, rfl, q1, v', q2, q3, q4, q5, q6⟩
    exact ⟨u, v', rfl, q1, q2.1, q3, q6⟩
/-- Operations one behind the other, up to the next call. -/
def EvB (P : Program) (b : Bs) (n : Nat) (ops : Array Oper) : List Oper → Fm → St → (Bs → Fm → St → Prop) → Prop
  | [], F, S, K => K b F S
  | o :: r, F, S, K => match wantF ops F o with
    | some true => match o.op with
      | .call ⟨.value f, args, ats⟩ => SeqB P n ops (o :: r) b F S K
      | _ => match opX P (whole b.v) (evF F) o S with
        | some (v, f) => EvB P b n ops r (putF F o.dst v) (f.run S) K
        | none => False
    | some false => EvB P b n ops r (putF F o.dst undefV) S K
    | none => False
theorem EvB.seq {b : Bs} {n : Nat} (hn : n ≤ 2000) {ops : Array Oper} : ∀ (l : List Oper) {F : Fm} {S : St} {K : Bs → Fm → St → Prop}, l.all (inOp n ops) = true → EvB P b n ops l F S K → SeqB P n ops l b F S K
  | [], F, S, K, hi, h => SeqB.nil h
  | o :: r, F, S, K, hi, h => by
    simp only [List.all_cons, Bool.and_eq_true] at hi
    simp only [EvB] at h
    split at h
    · rename_i hw
      split at h
      · exact h
      · rename_i hnc
        split at h
        · rename_i v f hop
          refine SeqB.op (whole_tab b) hn hi.1 (v := v) (S' := f.run S) ?_ (EvB.seq hn r hi.2 h)
          unfold stepF
          rw [hw]
          obtain ⟨dst, op, ty, pos, aft, gd⟩ := o
          simp only at hnc hop ⊢
          cases op with
          | call c =>
            obtain ⟨callee, args, ats⟩ := c
            cases callee with
            | value f => exact absurd rfl (hnc _ _ _)
            | builtin b => simp only [hop]
            | invoke r m => simp only [hop]
          | _ => simp only [hop]
        · exact h.elim
    · rename_i hw
      refine SeqB.op (whole_tab b) hn hi.1 (v := undefV) (S' := S) ?_ (EvB.seq hn r hi.2 h)
      unfold stepF
      rw [hw]
    · exact h.elim
theorem WpB.row {n : Nat} (hn : n ≤ 2000) {id : Nat} {ops : Array Oper} {b : Bs} {F : Fm} {S : St} {Q : Ex → Bs → Fm → St → Prop} (hi : ops.toList.all (inOp n ops) = true) (h : EvB P b n ops ops.toList F S (fun b' F' S' => Q .normal b' F' S')) : WpB P n (.region id ops false) b F S Q :=
  fun g w a hl R hR => wp_region_list (EvB.seq hn _ hi h g w a hl R fun b' F' S' g' a' w' hk hb hl' => hR .normal _ _ _ _ _ _ hk hb hl')
/-- A call by a contract of what is known. -/
theorem SeqB.callV {n : Nat} (hn : n ≤ 2000) {ops : Array Oper} {o : Oper} {r : List Oper} {b : Bs} {F : Fm} {S : St} {K : Bs → Fm → St → Prop} {f : Operand} {args : Array Operand} {ats : Array TypeId} {fid : FuncId} {first captured : List V} {us : List Value} {R : Value → World → Prop}
    (hg : Gv P fid us b.v R) (hi : (o :: r).all (inOp n ops) = true) (hw : wantF ops F o = some true) (hop : o.op = .call ⟨.value f, args, ats⟩) (hcal : calleeX (evF F f) = some (fid, first, captured)) (has : first ++ args.toList.map (evF F) ++ captured = us.map .s)
    (k : ∀ x v', R x v' → Known b.v v' → EvB P ⟨b.w, v'⟩ n ops r (putF F o.dst (.s x)) S K) : SeqB P n ops (o :: r) b F S K := by
  simp only [List.all_cons, Bool.and_eq_true] at hi
  refine SeqB.callG hn hi.1 hw hop hcal (fun g w a us' hl hr => ?_) (QQ := fun b' v S' => ∃ x, v = .s x ∧ S' = S ∧ b'.w = b.w ∧ Known b.v b'.v ∧ R x b'.v) ?_
  · rw [has] at hr
    rw [rels_ground hr]
    exact hg.next hl
  · rintro ⟨bw, v'⟩ v S' ⟨x, rfl, rfl, hbw, hk, hr⟩
    have hbw : bw = b.w := hbw
    subst hbw
    exact EvB.seq hn _ hi.2 (k x v' hr hk)
/-- A call that answers without more being known. -/
theorem SeqB.callQ {n : Nat} (hn : n ≤ 2000) {ops : Array Oper} {o : Oper} {r : List Oper} {b : Bs} {F : Fm} {S : St} {K : Bs → Fm → St → Prop} {f : Operand} {args : Array Operand} {ats : Array TypeId} {fid : FuncId} {first captured as : List V} {Q : V → St → Prop}
    (ok : Ok P b fid as S Q) (hi : (o :: r).all (inOp n ops) = true) (hw : wantF ops F o = some true) (hop : o.op = .call ⟨.value f, args, ats⟩) (hcal : calleeX (evF F f) = some (fid, first, captured)) (has : first ++ args.toList.map (evF F) ++ captured = as)
    (k : ∀ v S', Q v S' → S.next ≤ S'.next → EvB P b n ops r (putF F o.dst v) S' K) : SeqB P n ops (o :: r) b F S K := by
  subst has
  simp only [List.all_cons, Bool.and_eq_true] at hi
  refine SeqB.callG hn hi.1 hw hop hcal (fun g w a us' hl hr => ?_) (QQ := fun b' v S' => b' = b ∧ Q v S' ∧ S.next ≤ S'.next) ?_
  · refine (ok g w us' hl.m hr hl.up).mono ?_
    rintro u w' ⟨v, S', hq, m1, m2, g', e1, e2, e3⟩
    exact ⟨b, g', S', v, BsLe.refl b, e1, e2.ext, hl.up.fr e2 m1, e3, rfl, hq, m1⟩
  · rintro b' v S' ⟨rfl, hq, hm⟩
    exact EvB.seq hn _ hi.2 (k v S' hq hm)
/-- What a call's end must give. -/
def FinB (P : Program) (rs : List ResultVar) (b : Bs) (F : Fm) (S : St) (R : Value → World → Prop) : Prop := match resF P (whole b.v) rs F S.heap with
  | some l => match packX l with
    | .s x => R x b.v
    | _ => False
  | none => False
theorem Gv.run {f : FuncId} {Fn : Func} {c : Code} {us : List Value} {v : World} {R : Value → World → Prop} (hf : P.funcs[f]? = some Fn) (hn : (Fn.name == "runtime.NumGoroutine") = false) (hb : Fn.body = some c) (h1 : Nat.ble us.length Fn.ntmps = true) (h2 : Nat.ble Fn.ntmps 2000 = true) (hi : inRes Fn.ntmps Fn.results.toList = true)
    (h : ∀ b : Bs, b.v = v → WpB P Fn.ntmps c b (argF (us.map .s)) ⟨[], 0, 0⟩ fun ex b' F S' => (ex = .normal ∨ ex = .ret) ∧ FinB P Fn.results.toList b' F S' R) : Gv P f us v R := by
  intro w hk hs
  have h1 := Nat.le_of_ble_eq_true h1
  have h2 := Nat.le_of_ble_eq_true h2
  refine callSem_of hf hn (by rw [hb]; rfl) (calls_of_wp hf hb ?_)
  have hM : M ⟨w, v⟩ ⟨fun _ => none, fun _ => none⟩ [] w := ⟨fun id b hb => (by cases hb), fun k id hk => (by cases hk), Below.refl _ _, hk, hs⟩
  refine h ⟨w, v⟩ rfl _ w _ ⟨hM, argF_ok (rels_lits us) (by simpa using h1), rfl, fun _ _ => rfl⟩ _ fun ex b' F' S' g' a' w' ⟨hex, hfin⟩ hble hl => ?_
  unfold FinB at hfin
  split at hfin
  rotate_left
  · exact hfin.elim
  rename_i l hres
  split at hfin
  rotate_left
  · exact hfin.elim
  rename_i x hx
  have hag := tmOf_agree h2 F'
  rw [← resX_eq hag _ hi] at hres
  obtain ⟨u, hu1, hu2⟩ := packX_run P (whole b'.v) (S := S') (whole_tab b') hl.m (hag.ok.2 hl.fm) hres
  rw [hx] at hu2
  simp only [V.rel] at hu2
  subst hu2
  have hbw : b'.w = w := hble.w
  have hA : Below w.heap.size w w' ∧ ∃ v', (Known v v' ∧ v.heap.size ≤ v'.heap.size) ∧ Known v' w' ∧ v'.heap.size ≤ w'.heap.size ∧ (∀ k, k < w.heap.size → Fast v' k → Fast v k) ∧ R u v' :=
    ⟨hbw ▸ hl.m.base.bel, b'.v, ⟨hble.v, hble.sz⟩, hl.m.base.fast, hl.m.base.top, hble.old, hfin⟩
  rcases hex with rfl | rfl
  · exact ⟨hl.df, u, hu1, u, rfl, hA⟩
  · exact ⟨hl.df, u, hu1, u, rfl, hA⟩
end
end Go.Proofs.YtmpmbnmldmpmiaaGreatDoor.Sim
set_option linter.unusedVariables false
set_option linter.unusedSimpArgs false
namespace Go.Proofs.YtmpmbnmldmpmiaaGreatDoor.Sim
open Go Go.RowKit
def isCallO (o : Oper) : Bool := match o.op with
  | .call ⟨.value _, _, _⟩ => true
  | _ => false
section
variable {P : Program} {T : Nat → Option (List Value)}
theorem wantF_congr {ops : Array Oper} {F F' : Fm} {o : Oper} (h : ∀ t ∈ o.looksAt ops, F t = F' t) : wantF ops F o = wantF ops F' o := by
  unfold wantF
  cases hg : o.guard with
  | none => rfl
  | some p =>
    obtain ⟨j, want⟩ := p
    simp only
    cases hd : (ops[j]?).bind (·.dst) with
    | none => rfl
    | some t =>
      simp only
      rw [h t (by unfold Oper.looksAt; rw [hg]; simp [hd])]
theorem evF_congr {ops : Array Oper} {F F' : Fm} {o : Oper} (h : ∀ t ∈ o.looksAt ops, F t = F' t) : ∀ x ∈ o.op.operands, evF F x = evF F' x := fun x hx => by
  cases x with
  | tmp t => exact h t (List.mem_append_left _ (List.mem_filterMap.2 ⟨.tmp t, by simpa using hx, rfl⟩))
  | const v => rfl
  | global g => rfl
  | func f => rfl
theorem stepF_congr {ops : Array Oper} {F F' : Fm} {o : Oper} (S : St) (h : ∀ t ∈ o.looksAt ops, F t = F' t) : stepF P T noCall ops F o S = stepF P T noCall ops F' o S := by
  unfold stepF
  rw [wantF_congr h]
  have hop := opX_congr P T o S (evF_congr h)
  obtain ⟨dst, op, type, pos, after, guard⟩ := o
  cases op with
  | call c =>
    obtain ⟨callee, args, ats⟩ := c
    cases callee with
    | value f =>
      have g1 : evF F f = evF F' f := evF_congr h f (by simp [Op.operands, Call.operands])
      simp only [g1, noCall]
      all_goals (cases calleeX (evF F' f) <;> rfl)
    | builtin b => simp only [hop]; try rfl
    | invoke r m => simp only [hop]; try rfl
  | _ => simp only [hop]; try rfl
/-- What a call comes to, its arguments given. -/
def CallB (P : Program) (b : Bs) (S : St) (fid : FuncId) (as : List V) (QQ : Bs → V → Prop) : Prop :=
  ∀ g w us, M b g S.heap w → Up g S.next → V.rels g.ν as us → CallSem P fid us.toArray w fun u w' => Next b g w' u fun b' v S' => S' = S ∧ QQ b' v
/-- A row in an order of one's own: operations without effect, and calls. -/
def EvO (P : Program) (n : Nat) (ops : Array Oper) : List Oper → Bs → Fm → St → (Bs → Fm → Prop) → Prop
  | [], b, F, S, K => K b F
  | o :: r, b, F, S, K => match wantF ops F o with
    | some true => match o.op with
      | .call ⟨.value f, args, ats⟩ => ∃ fid first captured QQ, calleeX (evF F f) = some (fid, first, captured) ∧ CallB P b S fid (first ++ args.toList.map (evF F) ++ captured) QQ ∧ ∀ b' v, QQ b' v → EvO P n ops r b' (putF F o.dst v) S K
      | _ => match opX P (whole b.v) (evF F) o S with
        | some (v, .no) => EvO P n ops r b (putF F o.dst v) S K
        | _ => False
    | some false => EvO P n ops r b (putF F o.dst undefV) S K
    | none => False
theorem CallB.of_gv {b : Bs} {S : St} {fid : FuncId} {us : List Value} {R : Value → World → Prop} (h : Gv P fid us b.v R) : CallB P b S fid (us.map .s) fun b' v => ∃ x, v = .s x ∧ b'.w = b.w ∧ Known b.v b'.v ∧ R x b'.v := by
  intro g w us' hM hu hr
  rw [rels_ground hr]
  refine (h w hM.base.fast hM.base.top).mono fun u w' ⟨q1, v', q2, q3, q4, q5, q6⟩ => ?_
  have := LeftB.after (n := 0) (F := argF []) (a := { tmps := #[], defers := [] }) ⟨hM, ⟨rfl, fun t ht => absurd ht (Nat.not_lt_zero _)⟩, rfl, hu⟩ q1 q2 q3 q4 q5
  exact ⟨⟨b.w, v'⟩, g, S, .s u, this.1, this.2, Ext.refl _, hu, rel_s, rfl, u, rfl, rfl, q2.1, q6⟩
theorem CallB.of_ok {b : Bs} {S : St} {fid : FuncId} {as : List V} {Q : V → Prop} (h : Ok P b fid as S fun v S' => Q v ∧ S' = S) : CallB P b S fid as fun b' v => b' = b ∧ Q v := by
  intro g w us' hM hu hr
  refine (h g w us' hM hr hu).mono ?_
  rintro u w' ⟨v, S', ⟨hq, rfl⟩, m1, m2, g', e1, e2, e3⟩
  exact ⟨b, g', S', v, BsLe.refl b, e1, e2.ext, hu.fr e2 m1, e3, rfl, rfl, hq⟩
/-- What is known may be less. -/
theorem M.less {b b' : Bs} {g : Gh} {H : Heap} {w : World} (h : M b' g H w) (hb : BsLe b b') (ht : b.v.heap.size ≤ w.heap.size) : M b g H w :=
  ⟨h.blk, fun k id hk => by
    obtain ⟨g1, g2, g3⟩ := h.mine k id hk
    exact ⟨⟨by rw [← hb.w]; exact g1.new, fun f => g1.not (hb.v.fast f)⟩, g2, g3⟩, ⟨by have := h.base.bel; rw [hb.w] at this; exact this, hb.v.trans h.base.fast, ht⟩⟩
/-- .. and more again behind a step that turned nothing else. -/
theorem M.again {b b' : Bs} {g g' : Gh} {H H' : Heap} {w w' : World} {n lo hi : Nat} (h : M b' g H w) (hb : BsLe b b') (h' : M b g' H' w') (hf : Fr n lo hi g w g' w') : M b' g' H' w' := by
  have hno : ∀ k, Fast b'.v k → g.own k = none := fun k f => by
    cases ho : g.own k with
    | none => rfl
    | some id => exact absurd f (h.mine k id ho).1.not
  have hlt : ∀ k, Fast b'.v k → k < w.heap.size := fun k ⟨cs, e, fr, h1, h2⟩ => (Array.getElem?_eq_some_iff.1 (h.base.fast _ _ _ _ h1 h2)).1
  have hold : ∀ k, Fast b'.v k → w'.heap[k]? = w.heap[k]? ∧ g'.own k = none := fun k f => by
    have h1 := hno k f
    obtain ⟨h2, h3⟩ := hf.old k (hlt k f) (fun id hid => by rw [h1] at hid; cases hid)
    exact ⟨h2, by rw [h3, h1]⟩
  refine ⟨h'.blk, fun k id hk => ?_, ⟨by have := h'.base.bel; rw [← hb.w] at this; exact this, fun k cs e fr h1 h2 => ?_, Nat.le_trans h.base.top hf.size⟩⟩
  · obtain ⟨g1, g2, g3⟩ := h'.mine k id hk
    exact ⟨⟨by rw [hb.w]; exact g1.new, fun f => by have := (hold k f).2; rw [hk] at this; cases this⟩, g2, g3⟩
  · rw [(hold k ⟨cs, e, fr, h1, h2⟩).1]
    exact h.base.fast k cs e fr h1 h2
def opAt (ops : Array Oper) (i : Nat) : Oper := (ops[i]?).getD ⟨none, .move (.const undef), 0, "", #[], none⟩
def ap (ops : Array Oper) (vals : Nat → V) (F0 : Fm) (l : List Nat) : Fm := l.foldl (fun F i => putF F (opAt ops i).dst (vals i)) F0
theorem ap_snoc {ops : Array Oper} {vals : Nat → V} {F0 : Fm} {l : List Nat} {i : Nat} : ap ops vals F0 (l ++ [i]) = putF (ap ops vals F0 l) (opAt ops i).dst (vals i) := by
  unfold ap
  rw [List.foldl_append]
  rfl
theorem putF_ne {F : Fm} {dst : Option Tmp} {v : V} {t : Nat} (h : dst ≠ some t) : putF F dst v t = F t := by
  cases dst with
  | none => rfl
  | some d => simp only [putF]; rw [if_neg (fun e => h (by rw [e]))]
theorem ap_vals {ops : Array Oper} {vals vals' : Nat → V} {F0 : Fm} : ∀ {l : List Nat}, (∀ i ∈ l, vals i = vals' i) → ap ops vals F0 l = ap ops vals' F0 l := by
  intro l
  induction l generalizing F0 with
  | nil => intro _; rfl
  | cons i l ih =>
    intro h
    show ap ops vals (putF F0 (opAt ops i).dst (vals i)) l = ap ops vals' (putF F0 (opAt ops i).dst (vals' i)) l
    rw [h i List.mem_cons_self]
    exact ih fun j hj => h j (List.mem_cons_of_mem _ hj)
theorem ap_skip {ops : Array Oper} {vals : Nat → V} {t : Nat} : ∀ {l : List Nat} {F0 : Fm}, (∀ j ∈ l, (opAt ops j).dst ≠ some t) → ap ops vals F0 l t = F0 t
  | [], F0, h => rfl
  | j :: l, F0, h => by
    show ap ops vals (putF F0 (opAt ops j).dst (vals j)) l t = _
    rw [ap_skip fun i hi => h i (List.mem_cons_of_mem _ hi), putF_ne (h j List.mem_cons_self)]
theorem ap_append {ops : Array Oper} {vals : Nat → V} {F0 : Fm} {l m : List Nat} : ap ops vals F0 (l ++ m) = ap ops vals (ap ops vals F0 l) m := by
  unfold ap
  rw [List.foldl_append]
theorem ap_start {ops : Array Oper} {vals : Nat → V} {t : Nat} : ∀ {l : List Nat} {F F' : Fm}, F t = F' t → ap ops vals F l t = ap ops vals F' l t
  | [], F, F', h => h
  | j :: l, F, F', h => by
    refine ap_start (l := l) ?_
    show putF F (opAt ops j).dst (vals j) t = putF F' (opAt ops j).dst (vals j) t
    by_cases e : (opAt ops j).dst = some t
    · rw [e]; simp [putF]
    · rw [putF_ne e, putF_ne e]; exact h
theorem ap_filter {ops : Array Oper} {vals : Nat → V} {t : Nat} {d : Nat → Bool} : ∀ {l : List Nat} {F0 : Fm}, (∀ j ∈ l, (opAt ops j).dst = some t → d j = true) → ap ops vals F0 (l.filter d) t = ap ops vals F0 l t
  | [], F0, h => rfl
  | j :: l, F0, h => by
    have ih := @ap_filter ops vals t d l
    cases hd : d j with
    | true => simp only [List.filter_cons, hd, if_true]; exact ih fun i hi => h i (List.mem_cons_of_mem _ hi)
    | false =>
      simp only [List.filter_cons, hd, Bool.false_eq_true, if_false]
      rw [ih fun i hi => h i (List.mem_cons_of_mem _ hi)]
      refine (ap_start (l := l) ?_).symm
      exact putF_ne fun e => by have := h j List.mem_cons_self e; rw [hd] at this; cases this
/-- What is checked of an order. -/
structure Ord (ops : Array Oper) (ancs : List Nat) (ord : List Nat) : Prop where
  all : ∀ i, i < ops.size → i ∈ ord
  lt : ∀ i ∈ ord, i < ops.size
  nd : ord.Nodup
  two : ∀ p i s, ord = p ++ i :: s → ∀ j ∈ s, ((ancOf ancs j).testBit i = true ∨ ((opAt ops i).apart ops (opAt ops j) = true ∧ isCallO (opAt ops i) = false)) ∧ (ancOf ancs i).testBit j = false
def chkOrd (ops : Array Oper) (ancs : List Nat) : List Nat → Bool
  | [] => true
  | i :: s => Nat.blt i ops.size && !(s.contains i) && s.all (fun j => (bit (ancOf ancs j) i || ((opAt ops i).apart ops (opAt ops j) && !(isCallO (opAt ops i)))) && !(bit (ancOf ancs i) j)) && chkOrd ops ancs s
theorem chkOrd_spec {ops : Array Oper} {ancs : List Nat} : ∀ {ord : List Nat}, chkOrd ops ancs ord = true → (∀ i ∈ ord, i < ops.size) ∧ ord.Nodup ∧ ∀ p i s, ord = p ++ i :: s → ∀ j ∈ s, ((ancOf ancs j).testBit i = true ∨ ((opAt ops i).apart ops (opAt ops j) = true ∧ isCallO (opAt ops i) = false)) ∧ (ancOf ancs i).testBit j = false
  | [], _ => ⟨by simp, by simp, fun p i s h => by simp at h⟩
  | i :: s, h => by
    simp only [chkOrd, Bool.and_eq_true] at h
    obtain ⟨⟨⟨h1, h2⟩, h3⟩, h4⟩ := h
    obtain ⟨q1, q2, q3⟩ := chkOrd_spec h4
    rw [blt_dec] at h1
    refine ⟨fun j hj => ?_, List.nodup_cons.2 ⟨by simpa using h2, q2⟩, fun p j r he k hk => ?_⟩
    · rcases List.mem_cons.1 hj with rfl | hj
      · exact of_decide_eq_true h1
      · exact q1 j hj
    · cases p with
      | nil =>
        simp only [List.nil_append, List.cons.injEq] at he
        obtain ⟨rfl, rfl⟩ := he
        have := List.all_eq_true.1 h3 k hk
        simp only [Bool.and_eq_true, Bool.or_eq_true, Bool.not_eq_true'] at this
        exact this
      | cons q p =>
        simp only [List.cons_append, List.cons.injEq] at he
        exact q3 p j r he.2 k hk
theorem Ord.of {ops : Array Oper} {ancs : List Nat} {ord : List Nat} (h : chkOrd ops ancs ord = true) (hl : (List.range ops.size).all (fun i => ord.contains i) = true) : Ord ops ancs ord := by
  obtain ⟨h1, h2, h3⟩ := chkOrd_spec h
  exact ⟨fun i hi => by simpa using List.all_eq_true.1 hl i (List.mem_range.2 hi), h1, h2, h3⟩
theorem Oper.isCall_no {o : Oper} (h : isCallO o = false) : ∀ f args ats, o.op ≠ .call ⟨.value f, args, ats⟩ := fun f args ats e => by
  unfold isCallO at h
  rw [e] at h
  cases h
theorem EvO.pure {n : Nat} {ops : Array Oper} {o : Oper} {r : List Oper} {b : Bs} {F : Fm} {S : St} {K : Bs → Fm → Prop} (hc : isCallO o = false ∨ wantF ops F o = some false) (h : EvO P n ops (o :: r) b F S K) : ∃ v, stepF P (whole b.v) noCall ops F o S = some (v, S) ∧ EvO P n ops r b (putF F o.dst v) S K := by
  simp only [EvO] at h
  unfold stepF
  split at h
  · rename_i hw
    rw [hw]
    simp only
    rcases hc with hc | hc
    rotate_left
    · rw [hw] at hc; cases hc
    have hno := Oper.isCall_no hc
    split at h
    · rename_i f args ats hop
      exact absurd hop (hno f args ats)
    · split at h
      · rename_i v hop
        refine ⟨v, ?_, h⟩
        obtain ⟨dst, op, ty, pos, aft, gd⟩ := o
        simp only at hno hop ⊢
        cases op with
        | call c =>
          obtain ⟨callee, args, ats⟩ := c
          cases callee with
          | value f => exact absurd rfl (hno f args ats)
          | builtin b => simp only [hop]; rfl
          | invoke r m => simp only [hop]; rfl
        | _ => simp only [hop]; rfl
      · exact h.elim
  · rename_i hw
    rw [hw]
    exact ⟨_, rfl, h⟩
  · exact h.elim
/-- What holds within a row in a drawn order. -/
structure InvO (P : Program) (n : Nat) (ops : Array Oper) (ancs ord : List Nat) (F0 : Fm) (S : St) (K : Bs → Fm → Prop) (b0 : Bs) (L : Array Bool) (g : Gh) (a : Act) (w : World) (pre rest : List Nat) (b : Bs) (vals : Nat → V) : Prop where
  sz : L.size = ops.size
  cl : Closed ops ancs L
  cut : ord = pre ++ rest
  nrest : ∀ i ∈ rest, L.getD i false = false
  calls : ∀ i ∈ pre, isCallO (opAt ops i) = true → L.getD i false = true
  ev : EvO P n ops (rest.map (opAt ops)) b (ap ops vals F0 pre) S K
  le : BsLe b0 b
  m : M b g S.heap w
  up : Up g S.next
  df : a.defers = []
  fm : FmOk g.ν n (ap ops vals F0 (pre.filter fun i => L.getD i false)) a
  recs : ∀ p i s, pre = p ++ i :: s → L.getD i false = false → ∃ bi, BsLe bi b ∧ stepF P (whole bi.v) noCall ops (ap ops vals F0 p) (opAt ops i) S = some (vals i, S)
def Headed (ops : Array Oper) (rest : List Nat) : Prop := rest = [] ∨ ∃ c r, rest = c :: r ∧ isCallO (opAt ops c) = true
theorem InvO.advance {n : Nat} {ops : Array Oper} {ancs ord : List Nat} {F0 : Fm} {S : St} {K : Bs → Fm → Prop} {b0 : Bs} {L : Array Bool} {g : Gh} {a : Act} {w : World} (hnd : ord.Nodup) : ∀ {rest pre : List Nat} {b : Bs} {vals : Nat → V}, InvO P n ops ancs ord F0 S K b0 L g a w pre rest b vals → ∃ pre' rest' vals', InvO P n ops ancs ord F0 S K b0 L g a w pre' rest' b vals' ∧ Headed ops rest'
  | [], pre, b, vals, h => ⟨pre, [], vals, h, .inl rfl⟩
  | i :: r, pre, b, vals, h => by
    cases hc : isCallO (opAt ops i) with
    | true => exact ⟨pre, i :: r, vals, h, .inr ⟨i, r, rfl, hc⟩⟩
    | false =>
      have hev := h.ev
      rw [List.map_cons] at hev
      obtain ⟨v, h1, h2⟩ := EvO.pure (.inl hc) hev
      have hord := h.cut
      have hni : i ∉ pre := fun hi => by
        rw [hord] at hnd
        exact (List.nodup_append.1 hnd).2.2 i hi i List.mem_cons_self rfl
      have hv : ∀ l : List Nat, (∀ j ∈ l, j ∈ pre) → ap ops (fun j => if j = i then v else vals j) F0 l = ap ops vals F0 l := fun l hl => ap_vals fun j hj => by
        have : j ≠ i := fun e => hni (e ▸ hl j hj)
        simp only [if_neg this]
      refine InvO.advance hnd (rest := r) (pre := pre ++ [i]) (b := b) (vals := fun j => if j = i then v else vals j) ⟨h.sz, h.cl, by rw [hord]; simp, fun j hj => h.nrest j (List.mem_cons_of_mem _ hj), fun j hj hjc => ?_, ?_, h.le, h.m, h.up, h.df, ?_, fun p j s he hL => ?_⟩
      · rcases List.mem_append.1 hj with hj | hj
        · exact h.calls j hj hjc
        · rw [List.mem_singleton.1 hj, hc] at hjc
          cases hjc
      · rw [ap_snoc, hv pre fun _ h => h]
        simp only [if_true]
        exact h2
      · have hLi := h.nrest i List.mem_cons_self
        rw [List.filter_append, List.filter_cons, hLi, List.filter_nil]
        simp only [Bool.false_eq_true, if_false, List.append_nil]
        rw [hv _ fun j hj => (List.mem_filter.1 hj).1]
        exact h.fm
      · rcases List.eq_nil_or_concat s with rfl | ⟨s', x, rfl⟩
        · have he' := List.append_inj' he (by simp)
          obtain ⟨rfl, he2⟩ := he'
          simp only [List.cons.injEq, and_true] at he2
          subst he2
          refine ⟨b, BsLe.refl b, ?_⟩
          rw [hv _ fun _ h => h]
          simp only [if_true]
          exact h1
        · rw [List.concat_eq_append, ← List.cons_append, ← List.append_assoc] at he
          obtain ⟨rfl, he2⟩ := List.append_inj' he (by simp)
          obtain ⟨bi, q1, q2⟩ := h.recs p j s' rfl hL
          refine ⟨bi, q1, ?_⟩
          have hji : j ≠ i := fun e => hni (by rw [← e]; simp)
          rw [hv p fun x hx => List.mem_append_left _ hx]
          simp only [if_neg hji]
          exact q2
theorem opAt_eq {ops : Array Oper} {i : Nat} {o : Oper} (h : ops[i]? = some o) : opAt ops i = o := by
  unfold opAt
  rw [h]
  rfl
/-- What an operation looks at is as it was in the order of one's own. -/
theorem InvO.looks {n : Nat} {ops : Array Oper} {ancs ord : List Nat} {F0 : Fm} {S : St} {K : Bs → Fm → Prop} {b0 : Bs} {L : Array Bool} {g : Gh} {a : Act} {w : World} {pre rest : List Nat} {b : Bs} {vals : Nat → V} (h : InvO P n ops ancs ord F0 S K b0 L g a w pre rest b vals) (ho : Ord ops ancs ord) (hp : Plan ops ancs) {i : Nat} {o : Oper} (hoi : ops[i]? = some o) (hr : i ∈ Region.ready .any ops L) {p q s : List Nat} (hord : ord = p ++ i :: s) (hpre : pre = p ++ q) (hq : ∀ j ∈ q, L.getD j false = true → j ∈ s) :
    ∀ t ∈ o.looksAt ops, ap ops vals F0 p t = ap ops vals F0 (pre.filter fun i => L.getD i false) t := by
  intro t ht
  obtain ⟨hLi, _, _, _⟩ := mem_ready.1 hr
  have hLi := getD_false hLi
  rw [hpre, List.filter_append, ap_append]
  rw [ap_skip (l := q.filter _)]
  · refine (ap_filter fun j hj hd => ?_).symm
    obtain ⟨p1, p2, rfl⟩ := List.append_of_mem hj
    rcases (ho.two p1 j (p2 ++ i :: s) (by rw [hord]; simp) i (by simp)).1 with h1 | ⟨h1, _⟩
    · exact anc_ready hp h.cl hoi hr j h1
    · rw [opAt_eq hoi] at h1
      exact absurd ht ((Oper.apart_spec h1).1 t hd)
  · intro j hj hd
    obtain ⟨hj1, hj2⟩ := List.mem_filter.1 hj
    have hjs := hq j hj1 hj2
    rcases (ho.two p i s hord j hjs).1 with h1 | ⟨h1, _⟩
    · have hjlt := ho.lt j (by rw [hord]; simp [hjs])
      have := h.cl j _ (Array.getElem?_eq_getElem hjlt) hj2 i h1
      rw [hLi] at this
      cases this
    · rw [opAt_eq hoi] at h1
      exact absurd ht ((Oper.apart_spec h1).2.2 t hd)
theorem getD_set_eq {L : Array Bool} {i j : Nat} (hi : i < L.size) : (L.setIfInBounds i true).getD j false = (L.getD j false || decide (j = i)) := by
  by_cases e : j = i
  · subst e
    simp [hi]
  · rw [getD_set_ne false (Ne.symm e)]
    simp [e]
theorem FmOk.congr {ν : Val} {n : Nat} {F F' : Fm} {a : Act} (h : FmOk ν n F a) (k : ∀ t, F t = F' t) : FmOk ν n F' a := by
  have : F = F' := funext k
  rw [← this]
  exact h
theorem Closed.set {ops : Array Oper} {ancs : List Nat} {L : Array Bool} (h : Closed ops ancs L) (hp : Plan ops ancs) {i : Nat} {o : Oper} (hoi : ops[i]? = some o) (hr : i ∈ Region.ready .any ops L) (hi : i < L.size) : Closed ops ancs (L.setIfInBounds i true) := by
  intro j p hj hL k hk
  rw [getD_set_eq hi, Bool.or_eq_true] at hL ⊢
  left
  rcases hL with hL | hL
  · exact h j p hj hL k hk
  · have := of_decide_eq_true hL
    subst this
    exact anc_ready hp h hoi hr k hk
/-- One operation, wherever it comes. -/
theorem InvO.step {n : Nat} (hn : n ≤ 2000) {ops : Array Oper} (hin : ops.toList.all (inOp n ops) = true) {ancs ord : List Nat} {F0 : Fm} {S : St} {K : Bs → Fm → Prop} {b0 : Bs} {L : Array Bool} {g : Gh} {a : Act} {w : World} {pre rest : List Nat} {b : Bs} {vals : Nat → V} (h : InvO P n ops ancs ord F0 S K b0 L g a w pre rest b vals) (hh : Headed ops rest) (ho : Ord ops ancs ord) (hp : Plan ops ancs) {i : Nat} (hr : i ∈ Region.ready .any ops L) {Kw : Act → World → Prop} {Q : Exit → Act → World → Prop}
    (hK : ∀ g' a' w' pre' rest' b' vals', InvO P n ops ancs ord F0 S K b0 (L.setIfInBounds i true) g' a' w' pre' rest' b' vals' → Headed ops rest' → Kw a' w') : wpOp P ops Q i Kw a w := by
  obtain ⟨hLi0, o, hoi, _⟩ := mem_ready.1 hr
  have hLi := getD_false hLi0
  have hisz := (Array.getElem?_eq_some_iff.1 hoi).1
  have hiL : i < L.size := by rw [h.sz]; exact hisz
  have hio : inOp n ops o = true := List.all_eq_true.1 hin o (by simpa using Array.mem_of_getElem? hoi)
  have hopi := opAt_eq hoi
  have hnd := ho.nd
  rw [h.cut] at hnd
  have hset : ∀ j, (L.setIfInBounds i true).getD j false = (L.getD j false || decide (j = i)) := fun j => getD_set_eq hiL
  have hcl' := h.cl.set hp hoi hr hiL
  have hsz' : (L.setIfInBounds i true).size = ops.size := by rw [← h.sz]; simp
  -- an operation done by what is known at bi
  have small : ∀ (bi : Bs) (F : Fm) (v : V), BsLe bi b → stepF P (whole bi.v) noCall ops F o S = some (v, S) → (∀ t ∈ o.looksAt ops, F t = ap ops vals F0 (pre.filter fun i => L.getD i false) t) →
      (∀ g' u w', M b g' S.heap w' → Fr S.next S.low S.next g w g' w' → V.rel g'.ν v u → FmOk g'.ν n (putF (ap ops vals F0 (pre.filter fun i => L.getD i false)) o.dst v) (a.put o.dst u) → Kw (a.put o.dst u) w') → wpOp P ops Q i Kw a w := by
    intro bi F v hbi hst hlook hgo
    rw [stepF_congr S hlook] at hst
    have hag := tmOf_agree hn (ap ops vals F0 (pre.filter fun i => L.getD i false))
    have hx : stepX P (whole bi.v) noCall ops (tmOf n (ap ops vals F0 (pre.filter fun i => L.getD i false))) o S = some (v, S) := (stepX_eq P _ hag hio).trans hst
    refine wpOp_step hoi fun K' hK' => ?_
    refine stepX_good P (whole bi.v) (whole_tab bi) noCall_ok hx (h.m.less hbi (Nat.le_trans hbi.sz h.m.base.top)) (hag.ok.2 h.fm) (h.up.free _) ?_
    rintro u w' ⟨g', e1, e2, e3⟩
    exact hK' _ _ (hgo g' u w' (h.m.again hbi e1 e2) e2 e3 (hag.put.ok.1 (putT_rels ((hag.ok.2 h.fm).mono e2.ext) o.dst e3)))
  have hmem : i ∈ pre ++ rest := by rw [← h.cut]; exact ho.all i hisz
  rcases List.mem_append.1 hmem with hi | hi
  · obtain ⟨p, s', rfl⟩ := List.append_of_mem hi
    obtain ⟨bi, hbi, hst⟩ := h.recs p i s' rfl hLi
    rw [hopi] at hst
    have hord : ord = p ++ i :: (s' ++ rest) := by rw [h.cut]; simp
    have hlook := h.looks ho hp hoi hr hord rfl (fun j hj hL => by
      rcases List.mem_cons.1 hj with rfl | hj
      · rw [hLi] at hL; cases hL
      · exact List.mem_append_left _ hj)
    have hip : i ∉ p := fun hx => by
      rw [List.append_assoc] at hnd
      exact (List.nodup_append.1 hnd).2.2 i hx i (by simp) rfl
    have his : i ∉ s' ++ rest := fun hx => by
      rw [List.append_assoc] at hnd
      have := (List.nodup_append.1 hnd).2.1
      rw [List.cons_append] at this
      exact (List.nodup_cons.1 this).1 hx
    refine small bi _ (vals i) hbi hst hlook fun g' u w' hm hf hrel hfm => ?_
    refine hK g' _ w' (p ++ i :: s') rest b vals ⟨hsz', hcl', h.cut, fun j hj => ?_, fun j hj hjc => ?_, h.ev, h.le, hm, h.up.fr hf (Nat.le_refl _), by rw [put_defers]; exact h.df, ?_, fun p2 j s2 he hL => ?_⟩ hh
    · rw [hset, h.nrest j hj]
      have : j ≠ i := fun e => his (by rw [← e]; exact List.mem_append_right _ hj)
      simp [this]
    · rw [hset, h.calls j hj hjc]
      rfl
    · refine hfm.congr fun t => ?_
      have f1 : (p.filter fun j => (L.setIfInBounds i true).getD j false) = p.filter fun j => L.getD j false := List.filter_congr fun j hj => by
        have : j ≠ i := fun e => hip (e ▸ hj)
        rw [hset]; simp [this]
      have f2 : (s'.filter fun j => (L.setIfInBounds i true).getD j false) = s'.filter fun j => L.getD j false := List.filter_congr fun j hj => by
        have : j ≠ i := fun e => his (by rw [← e]; exact List.mem_append_left _ hj)
        rw [hset]; simp [this]
      have f3 : (L.setIfInBounds i true).getD i false = true := by rw [hset]; simp
      rw [List.filter_append, List.filter_append, List.filter_cons, List.filter_cons, f1, f2, hLi, f3]
      simp only [Bool.false_eq_true, if_false, if_true]
      rw [ap_append, ap_append]
      show putF _ o.dst (vals i) t = ap ops vals (putF (ap ops vals F0 (p.filter fun j => L.getD j false)) (opAt ops i).dst (vals i)) (s'.filter fun j => L.getD j false) t
      rw [hopi]
      by_cases hd : o.dst = some t
      · rw [ap_skip]
        · rw [hd]; simp [putF]
        · intro j hj hdj
          obtain ⟨hj1, hj2⟩ := List.mem_filter.1 hj
          rcases (ho.two p i (s' ++ rest) hord j (List.mem_append_left _ hj1)).1 with h1 | ⟨h1, _⟩
          · have hjlt := ho.lt j (by rw [hord]; simp [hj1])
            have := h.cl j _ (Array.getElem?_eq_getElem hjlt) hj2 i h1
            rw [hLi] at this
            cases this
          · rw [hopi] at h1
            exact (Oper.apart_spec h1).2.1 t hd hdj
      · rw [putF_ne hd]
        exact ap_start (putF_ne hd).symm
    · have hL' : L.getD j false = false := by
        rw [hset, Bool.or_eq_false_iff] at hL
        exact hL.1
      exact h.recs p2 j s2 he hL'
  · -- the next call
    obtain ⟨c, r, rfl, hc⟩ : ∃ c r, rest = c :: r ∧ isCallO (opAt ops c) = true := by
      rcases hh with rfl | hh
      · cases hi
      · exact hh
    have hic : i = c := by
      rcases List.mem_cons.1 hi with rfl | hir
      · rfl
      · exfalso
        rcases (ho.two pre c r h.cut i hir).1 with h1 | ⟨_, h1⟩
        · have := anc_ready hp h.cl hoi hr c h1
          rw [h.nrest c List.mem_cons_self] at this
          cases this
        · rw [hc] at h1; cases h1
    subst hic
    have hord : ord = pre ++ i :: r := h.cut
    have hlook := h.looks ho hp hoi hr hord (q := []) (by simp) (fun j hj => by cases hj)
    have hip : i ∉ pre := fun hx => (List.nodup_append.1 hnd).2.2 i hx i (by simp) rfl
    have hir : i ∉ r := (List.nodup_cons.1 (List.nodup_append.1 hnd).2.1).1
    have hev := h.ev
    rw [List.map_cons, hopi] at hev
    -- behind it
    have next : ∀ b' g' u w' v, BsLe b b' → M b' g' S.heap w' → Ext g.ν g'.ν → Up g' S.next → V.rel g'.ν v u → FmOk g'.ν n (putF (ap ops vals F0 (pre.filter fun i => L.getD i false)) o.dst v) (a.put o.dst u) → EvO P n ops (r.map (opAt ops)) b' (putF (ap ops vals F0 pre) o.dst v) S K → Kw (a.put o.dst u) w' := by
      intro b' g' u w' v hb hm hx hu hrel hfm hev'
      have hv : ∀ l : List Nat, (∀ j ∈ l, j ∈ pre) → ap ops (fun j => if j = i then v else vals j) F0 l = ap ops vals F0 l := fun l hl => ap_vals fun j hj => by
        have : j ≠ i := fun e => hip (e ▸ hl j hj)
        simp only [if_neg this]
      have hinv : InvO P n ops ancs ord F0 S K b0 (L.setIfInBounds i true) g' (a.put o.dst u) w' (pre ++ [i]) r b' (fun j => if j = i then v else vals j) := by
        refine ⟨hsz', hcl', by rw [h.cut]; simp, fun j hj => ?_, fun j hj hjc => ?_, ?_, h.le.trans hb, hm, hu, by rw [put_defers]; exact h.df, ?_, fun p j s he hL => ?_⟩
        · rw [hset, h.nrest j (List.mem_cons_of_mem _ hj)]
          have : j ≠ i := fun e => hir (e ▸ hj)
          simp [this]
        · rw [hset]
          rcases List.mem_append.1 hj with hj | hj
          · rw [h.calls j hj hjc]; rfl
          · rw [List.mem_singleton.1 hj]; simp
        · rw [ap_snoc, hv pre fun _ h => h, hopi]
          simp only [if_true]
          exact hev'
        · have f1 : (pre.filter fun j => (L.setIfInBounds i true).getD j false) = pre.filter fun j => L.getD j false := List.filter_congr fun j hj => by
            have : j ≠ i := fun e => hip (e ▸ hj)
            rw [hset]; simp [this]
          have f3 : (L.setIfInBounds i true).getD i false = true := by rw [hset]; simp
          rw [List.filter_append, List.filter_cons, f1, f3, List.filter_nil]
          simp only [if_true]
          rw [ap_snoc, hv _ fun j hj => (List.mem_filter.1 hj).1, hopi]
          simp only [if_true]
          exact hfm
        · rcases List.eq_nil_or_concat s with rfl | ⟨s', x, rfl⟩
          · obtain ⟨rfl, he2⟩ := List.append_inj' he (by simp)
            simp only [List.cons.injEq, and_true] at he2
            subst he2
            rw [hset] at hL
            simp at hL
          · rw [List.concat_eq_append, ← List.cons_append, ← List.append_assoc] at he
            obtain ⟨rfl, he2⟩ := List.append_inj' he (by simp)
            have hji : j ≠ i := fun e => hip (by rw [← e]; simp)
            have hL' : L.getD j false = false := by
              rw [hset, Bool.or_eq_false_iff] at hL
              exact hL.1
            obtain ⟨bi, q1, q2⟩ := h.recs p j s' rfl hL'
            refine ⟨bi, q1.trans hb, ?_⟩
            rw [hv p fun x hx => List.mem_append_left _ hx]
            simp only [if_neg hji]
            exact q2
      obtain ⟨pre', rest', vals', h1, h2⟩ := hinv.advance ho.nd
      exact hK _ _ _ _ _ _ _ h1 h2
    by_cases hw : wantF ops (ap ops vals F0 pre) o = some true
    · simp only [EvO, hw] at hev
      rw [hopi] at hc
      obtain ⟨f, args, ats, hop⟩ : ∃ f args ats, o.op = .call ⟨.value f, args, ats⟩ := by
        unfold isCallO at hc
        split at hc
        · exact ⟨_, _, _, by assumption⟩
        · cases hc
      rw [hop] at hev
      simp only at hev
      obtain ⟨fid, first, captured, QQ, hcal, hcb, hk⟩ := hev
      have hevl := evF_congr hlook
      have hfop : f ∈ o.op.operands := by rw [hop]; simp [Op.operands, Call.operands]
      have hargs : args.toList.map (evF (ap ops vals F0 pre)) = args.toList.map (evF (ap ops vals F0 (pre.filter fun i => L.getD i false))) := List.map_congr_left fun x hx => hevl x (by rw [hop]; simp [Op.operands, Call.operands]; right; simpa using hx)
      have hall : ∀ x ∈ o.op.operands, inO n x = true := fun x hx => by
        have := hio
        simp only [inOp, Bool.and_eq_true] at this
        exact List.all_eq_true.1 this.1 x (by simpa using hx)
      rw [hevl f hfop] at hcal
      rw [hargs] at hcb
      have hag := tmOf_agree hn (ap ops vals F0 (pre.filter fun i => L.getD i false))
      have hwant : Region.wanted o (yielded ops a.tmps) = true := by
        refine wantX_spec (tm := tmOf n (ap ops vals F0 (pre.filter fun i => L.getD i false))) ?_ (hag.ok.2 h.fm)
        rw [← hw, wantF_congr hlook]
        have i2 := hio
        simp only [inOp, Bool.and_eq_true] at i2
        have i2 := i2.2
        unfold wantX wantF
        cases hg : o.guard with
        | none => rfl
        | some p =>
          obtain ⟨j, want⟩ := p
          rw [hg] at i2
          simp only at i2 ⊢
          cases hd : (ops[j]?).bind (·.dst) with
          | none => rfl
          | some t =>
            rw [hd] at i2
            simp only at i2 ⊢
            have ht : t < n := by rw [blt_dec] at i2; exact of_decide_eq_true i2
            rw [Tm.get?_lt (by rw [hag.num]; exact ht), hag.get t ht]
            generalize ap ops vals F0 (pre.filter fun i => L.getD i false) t = z
            cases z with
            | s v => cases v <;> rfl
            | _ => rfl
      refine wpOp_step hoi fun K' hK' => ?_
      rw [if_pos hwant]
      obtain ⟨xs, ys, h1, h2, h3⟩ := calleeX_spec hcal (evF_rel h.fm f (hall f hfop))
      have hmid : V.rels g.ν (args.toList.map (evF (ap ops vals F0 (pre.filter fun i => L.getD i false)))) (args.toList.map a.eval) := by
        have : ∀ (l : List Operand), (∀ x ∈ l, inO n x = true) → V.rels g.ν (l.map (evF (ap ops vals F0 (pre.filter fun i => L.getD i false)))) (l.map a.eval) := by
          intro l
          induction l with
          | nil => intro _; exact rels_nil
          | cons x l ih => intro hl; exact rels_cons (evF_rel h.fm x (hl x List.mem_cons_self)) (ih fun y hy => hl y (List.mem_cons_of_mem _ hy))
        exact this _ fun x hx => hall x (by rw [hop]; simp [Op.operands, Call.operands]; right; simpa using hx)
      have hargs := rels_append (rels_append h2 hmid) h3
      have hgo : ∀ u w', Next b g w' u (fun b' v S' => S' = S ∧ QQ b' v) → K' (a.put o.dst u) w' := by
        rintro u w' ⟨b', g', S', v, hb, hm, hx, hu, hrel, rfl, hq⟩
        exact hK' _ _ (next b' g' u w' v hb hm hx hu hrel (hag.put.ok.1 (putT_rels ((hag.ok.2 h.fm).mono hx) o.dst hrel)) (hk b' v hq))
      have hrun : execOp a.eval o = callFunc fid (xs ++ args.toList.map a.eval ++ ys).toArray := by
        obtain ⟨dst, op, ty, pos, after, guard⟩ := o
        simp only at hop
        subst hop
        simp only [execOp, resolve, h1, Deferred.ofValue, pure_bind, invoke]
        congr 1
        apply Array.ext'
        simp
      unfold Oper.wp
      rw [hrun]
      rcases hcb g w _ h.m h.up hargs with ⟨u, w', e1, e2⟩ | ⟨e1, e2⟩
      · rw [e1]
        exact hgo u w' e2
      · rw [e1]
        refine Calls.mono e2 ?_
        rintro e w' ⟨u, rfl, hR'⟩
        exact hgo u w' hR'
    · have hwf : wantF ops (ap ops vals F0 pre) o = some false := by
        simp only [EvO] at hev
        split at hev
        · rename_i hw'; exact absurd hw' hw
        · rename_i hw'; exact hw'
        · exact hev.elim
      obtain ⟨v, h1, h2⟩ := EvO.pure (.inr hwf) hev
      exact small b _ v (BsLe.refl b) h1 hlook fun g' u w' hm hf hrel hfm => next b g' u w' v (BsLe.refl b) hm hf.ext (h.up.fr hf (Nat.le_refl _)) hrel hfm h2
/-- A row in a drawn order, by an order of one's own. -/
theorem WpB.draw (hm : P.follows .mixedOrders = true) {n : Nat} (hn : n ≤ 2000) {id : Nat} {ops : Array Oper} {b : Bs} {F : Fm} {S : St} {Q : Ex → Bs → Fm → St → Prop} (ord : List Nat) {l : List Oper}
    (hpl : ancOk (ancsX ops.toList []) 0 ops.toList = true) (hsel : Region.noSelect ops = true) (hi : ops.toList.all (inOp n ops) = true) (hc : chkOrd ops (ancsX ops.toList []) ord = true) (hl : (List.range ops.size).all (fun i => ord.contains i) = true) (hlist : ord.map (opAt ops) = l)
    (h : EvO P n ops l b F S fun b' F' => Q .normal b' F' S) : WpB P n (.region id ops true) b F S Q := by
  intro g w a hl0 R hR
  have ho := Ord.of hc hl
  have hp : Plan ops (ancsX ops.toList []) := ⟨hsel, fun i o ho => by
    have := ancOk_spec hpl i o (by simpa using ho)
    simpa [ancOf] using this⟩
  refine wp_region_any hm ?_
  have key : ∀ fuel L g a w pre rest b' vals, InvO P n ops (ancsX ops.toList []) ord F S (fun b' F' => Q .normal b' F' S) b L g a w pre rest b' vals → Headed ops rest → L.toList.count false ≤ fuel → wpAny P .any ops R fuel L a w := by
    intro fuel
    induction fuel with
    | zero =>
      intro L g a w pre rest b' vals h hh hcnt
      have hall : ∀ j, j < ops.size → L.getD j false = true := fun j hj => by
        cases hL : L.getD j false with
        | true => rfl
        | false =>
          have hlt : j < L.size := by rw [h.sz]; omega
          have hmem : false ∈ L.toList := by
            have : L[j] = false := by simp [hlt] at hL; exact hL
            rw [← this]
            exact Array.mem_toList_iff.2 (Array.getElem_mem hlt)
          have := List.count_pos_iff.2 hmem
          omega
      have hrest : rest = [] := by
        cases rest with
        | nil => rfl
        | cons c r =>
          have := h.nrest c List.mem_cons_self
          rw [hall c (ho.lt c (by rw [h.cut]; simp))] at this
          cases this
      subst hrest
      have hf : (pre.filter fun i => L.getD i false) = pre := List.filter_eq_self.2 fun j hj => hall j (ho.lt j (by rw [h.cut]; simp [hj]))
      have hfm := h.fm
      rw [hf] at hfm
      have hr : Region.ready .any ops L = [] := by
        cases hre : Region.ready .any ops L with
        | nil => rfl
        | cons i r =>
          have hi : i ∈ Region.ready .any ops L := by rw [hre]; exact List.mem_cons_self
          obtain ⟨q1, o, q2, _⟩ := mem_ready.1 hi
          have := getD_true (hall i (Array.getElem?_eq_some_iff.1 q2).1)
          rw [q1] at this
          cases this
      exact wpAny_done hr (hR .normal b' _ S g a w h.ev h.le ⟨h.m, hfm, h.df, h.up⟩) _
    | succ fuel ih =>
      intro L g a w pre rest b' vals h hh hcnt
      by_cases hre : Region.ready .any ops L = []
      · -- none is left
        have hall : ∀ j, j < ops.size → L.getD j false = true := by
          intro j
          induction j using Nat.strongRecOn with
          | ind j ihj =>
            intro hj
            cases hL : L.getD j false with
            | true => rfl
            | false =>
              have : j ∈ Region.ready .any ops L := ready_of (Array.getElem?_eq_getElem hj) (getD_false' (by rw [h.sz]; exact hj) hL) fun d hd => by
                have hdj := (hp.anc j _ (Array.getElem?_eq_getElem hj)).2 d hd
                exact ihj d hdj (by omega)
              rw [hre] at this
              cases this
        have hrest : rest = [] := by
          cases rest with
          | nil => rfl
          | cons c r =>
            have := h.nrest c List.mem_cons_self
            rw [hall c (ho.lt c (by rw [h.cut]; simp))] at this
            cases this
        subst hrest
        have hf : (pre.filter fun i => L.getD i false) = pre := List.filter_eq_self.2 fun j hj => hall j (ho.lt j (by rw [h.cut]; simp [hj]))
        have hfm := h.fm
        rw [hf] at hfm
        exact wpAny_done hre (hR .normal b' _ S g a w h.ev h.le ⟨h.m, hfm, h.df, h.up⟩) _
      · refine ⟨fun h0 => absurd h0 hre, fun k hk => ?_⟩
        refine h.step hn hi hh ho hp hk fun g' a' w' pre' rest' b2 vals' h' hh' => ih _ _ _ _ _ _ _ _ h' hh' ?_
        have := count_set (mem_ready.1 hk).1
        omega
  have h0 : InvO P n ops (ancsX ops.toList []) ord F S (fun b' F' => Q .normal b' F' S) b (Array.replicate ops.size false) g a { w with drawn := w.drawn + 1 } [] ord b (fun _ => undefV) := by
    have hrep : ∀ j, (Array.replicate ops.size false).getD j false = false := fun j => by
      rcases Nat.lt_or_ge j ops.size with h3 | h3 <;> simp [h3]
    exact ⟨by simp, fun i o _ hL => by (rw [hrep] at hL; cases hL), rfl, fun j _ => hrep j, fun j hj => by (cases hj), by rw [hlist]; exact h, BsLe.refl b, hl0.m.drew _, hl0.up, hl0.df, hl0.fm, fun p i s he => by simp at he⟩
  obtain ⟨pre', rest', vals', h1, h2⟩ := h0.advance ho.nd
  refine key _ _ _ _ _ _ _ _ _ h1 h2 ?_
  have : ((Array.replicate ops.size false).toList.count false) ≤ (Array.replicate ops.size false).toList.length := List.count_le_length
  simp
end
end Go.Proofs.YtmpmbnmldmpmiaaGreatDoor.Sim
set_option linter.unusedVariables false
set_option linter.unusedSimpArgs false
namespace Go.Proofs.YtmpmbnmldmpmiaaGreatDoor.Sim
open Go Go.RowKit
section
variable {P : Program}
/-- What a quiet contract of what is known says to the executor. -/
theorem Gv.quiet {f : FuncId} {us : List Value} {b : Bs} {x : Value} (h : Gv P f us b.v fun u _ => u = x) (S : St) : ∀ g w us', M b g S.heap w → V.rels g.ν (us.map .s) us' → CallSem P f us'.toArray w (After b g S w (.s x) S) := by
  intro g w us' hM hr
  rw [rels_ground hr]
  refine (h w hM.base.fast hM.base.top).mono fun u w' ⟨q1, v', q2, q3, q4, q5, q6⟩ => ?_
  subst q6
  exact ⟨g, hM.under q1, Fr.under _ _ q1, rel_s⟩
theorem Gv.okx {f : FuncId} {us : List Value} {b : Bs} {x : Value} (h : Gv P f us b.v fun u _ => u = x) (S : St) : Ok P b f (us.map .s) S fun v S' => v = .s x ∧ S' = S :=
  fun g w us' hM hr hu => (h.quiet S g w us' hM hr).mono fun u w' ha => ⟨.s x, S, ⟨rfl, rfl⟩, Nat.le_refl _, Nat.le_refl _, ha⟩
/-- A caller that knows one call, which turns nothing. -/
noncomputable def callOne (f0 : FuncId) (as0 : List V) (x : V) : Caller := fun f as S => open Classical in if f = f0 ∧ as = as0 then some (x, S) else none
theorem callOne_self (f : FuncId) (as : List V) (x : V) (S : St) : callOne f as x f as S = some (x, S) := by simp [callOne]
theorem callOne_ok {f : FuncId} {us : List Value} {b : Bs} {x : Value} (h : Gv P f us b.v fun u _ => u = x) : CallOk P b (callOne f (us.map .s) (.s x)) := by
  intro f' as S v S' hc
  unfold callOne at hc
  split at hc
  · rename_i he
    obtain ⟨rfl, rfl⟩ := he
    cases hc
    exact ⟨⟨Nat.le_refl _, Nat.le_refl _⟩, fun g w us' hM hr hf => h.quiet S g w us' hM hr⟩
  · cases hc
theorem newsX_succ {c : Nat} : ∀ {H : Heap}, newsX c H = [] → newsX (c + 1) H = []
  | [], _ => rfl
  | (i, b) :: r, h => by
    simp only [newsX] at h ⊢
    cases h1 : Nat.ble c i with
    | true => rw [h1] at h; simp at h
    | false =>
      rw [h1] at h
      have h2 : Nat.ble (c + 1) i = false := by
        cases h2 : Nat.ble (c + 1) i with
        | false => rfl
        | true => have := Nat.le_of_ble_eq_true h2; have : Nat.ble c i = true := Nat.ble_eq_true_of_le (by omega); rw [h1] at this; cases this
      rw [h2]
      exact newsX_succ h
theorem calleeX_s (f : FuncId) : calleeX (.s (.func (.func f) #[] #[])) = some (f, [], []) := rfl
theorem calleeX_fn (f : FuncId) (a c : List V) : calleeX (.fn f a c) = some (f, a, c) := rfl
theorem ext2_0 (a b : Value) : pureV P (Instr.extract (.tuple #[a, b]) 0) = some (.s a, .no) := rfl
theorem ext2_1 (a b : Value) : pureV P (Instr.extract (.tuple #[a, b]) 1) = some (.s b, .no) := rfl
theorem ext3_0 (a b c : Value) : pureV P (Instr.extract (.tuple #[a, b, c]) 0) = some (.s a, .no) := rfl
theorem ext3_1 (a b c : Value) : pureV P (Instr.extract (.tuple #[a, b, c]) 1) = some (.s b, .no) := rfl
theorem ext3_2 (a b c : Value) : pureV P (Instr.extract (.tuple #[a, b, c]) 2) = some (.s c, .no) := rfl
theorem lt_off {n m k : Nat} (h : n < m) : (n < m + k) = True := eq_true (Nat.lt_add_right k h)
theorem le_off {n m k : Nat} (h : n ≤ m) : (n ≤ m + k) = True := eq_true (Nat.le_add_right_of_le h)
theorem ne_off {n m k : Nat} (h : n < m) : (m + k = n) = False := eq_false (by omega)
theorem ne_off' {n m k : Nat} (h : n < m) : (n = m + k) = False := eq_false (by omega)
theorem gt_off {n m k : Nat} (h : n < m) : (m + k ≤ n) = False := eq_false (by omega)
theorem newsX_off {c : Nat} {H : Heap} (k : Nat) (h : newsX c H = []) : newsX (c + k) H = [] := by
  induction k with
  | zero => exact h
  | succ k ih => exact newsX_succ ih
theorem ad1 (n : Nat) : n + 1 + 1 = n + 2 := rfl
theorem ad2 (n : Nat) : n + 2 + 1 = n + 3 := rfl
theorem ad3 (n : Nat) : n + 3 + 1 = n + 4 := rfl
theorem ad4 (n : Nat) : n + 4 + 1 = n + 5 := rfl
theorem ad5 (n : Nat) : n + 5 + 1 = n + 6 := rfl
theorem ad6 (n : Nat) : n + 6 + 1 = n + 7 := rfl
theorem ad7 (n : Nat) : n + 7 + 1 = n + 8 := rfl
theorem ad8 (n : Nat) : n + 8 + 1 = n + 9 := rfl
theorem ad9 (n : Nat) : n + 9 + 1 = n + 10 := rfl
theorem ad10 (n : Nat) : n + 10 + 1 = n + 11 := rfl
theorem ad11 (n : Nat) : n + 11 + 1 = n + 12 := rfl
theorem ad12 (n : Nat) : n + 12 + 1 = n + 13 := rfl
theorem ad13 (n : Nat) : n + 13 + 1 = n + 14 := rfl
theorem ad14 (n : Nat) : n + 14 + 1 = n + 15 := rfl
theorem ad15 (n : Nat) : n + 15 + 1 = n + 16 := rfl
theorem ad16 (n : Nat) : n + 16 + 1 = n + 17 := rfl
theorem ad17 (n : Nat) : n + 17 + 1 = n + 18 := rfl
theorem ad18 (n : Nat) : n + 18 + 1 = n + 19 := rfl
theorem ad19 (n : Nat) : n + 19 + 1 = n + 20 := rfl
theorem ad20 (n : Nat) : n + 20 + 1 = n + 21 := rfl
theorem ad21 (n : Nat) : n + 21 + 1 = n + 22 := rfl
theorem ad22 (n : Nat) : n + 22 + 1 = n + 23 := rfl
theorem ad23 (n : Nat) : n + 23 + 1 = n + 24 := rfl
theorem ad24 (n : Nat) : n + 24 + 1 = n + 25 := rfl
theorem ad25 (n : Nat) : n + 25 + 1 = n + 26 := rfl
theorem ad26 (n : Nat) : n + 26 + 1 = n + 27 := rfl
theorem ad27 (n : Nat) : n + 27 + 1 = n + 28 := rfl
theorem ad28 (n : Nat) : n + 28 + 1 = n + 29 := rfl
theorem ad29 (n : Nat) : n + 29 + 1 = n + 30 := rfl
theorem ad30 (n : Nat) : n + 30 + 1 = n + 31 := rfl
theorem ad31 (n : Nat) : n + 31 + 1 = n + 32 := rfl
theorem ad32 (n : Nat) : n + 32 + 1 = n + 33 := rfl
theorem ad33 (n : Nat) : n + 33 + 1 = n + 34 := rfl
theorem ad34 (n : Nat) : n + 34 + 1 = n + 35 := rfl
theorem ad35 (n : Nat) : n + 35 + 1 = n + 36 := rfl
theorem ad36 (n : Nat) : n + 36 + 1 = n + 37 := rfl
theorem ad37 (n : Nat) : n + 37 + 1 = n + 38 := rfl
theorem ad38 (n : Nat) : n + 38 + 1 = n + 39 := rfl
theorem ad39 (n : Nat) : n + 39 + 1 = n + 40 := rfl
theorem ad40 (n : Nat) : n + 40 + 1 = n + 41 := rfl
theorem ad41 (n : Nat) : n + 41 + 1 = n + 42 := rfl
theorem ad42 (n : Nat) : n + 42 + 1 = n + 43 := rfl
theorem ad43 (n : Nat) : n + 43 + 1 = n + 44 := rfl
theorem ad44 (n : Nat) : n + 44 + 1 = n + 45 := rfl
theorem ad45 (n : Nat) : n + 45 + 1 = n + 46 := rfl
theorem ad46 (n : Nat) : n + 46 + 1 = n + 47 := rfl
theorem ad47 (n : Nat) : n + 47 + 1 = n + 48 := rfl
theorem ad48 (n : Nat) : n + 48 + 1 = n + 49 := rfl
theorem ad49 (n : Nat) : n + 49 + 1 = n + 50 := rfl
theorem ad50 (n : Nat) : n + 50 + 1 = n + 51 := rfl
theorem ad51 (n : Nat) : n + 51 + 1 = n + 52 := rfl
theorem ad52 (n : Nat) : n + 52 + 1 = n + 53 := rfl
theorem ad53 (n : Nat) : n + 53 + 1 = n + 54 := rfl
theorem ad54 (n : Nat) : n + 54 + 1 = n + 55 := rfl
theorem ad55 (n : Nat) : n + 55 + 1 = n + 56 := rfl
theorem ad56 (n : Nat) : n + 56 + 1 = n + 57 := rfl
theorem ad57 (n : Nat) : n + 57 + 1 = n + 58 := rfl
theorem ad58 (n : Nat) : n + 58 + 1 = n + 59 := rfl
theorem ad59 (n : Nat) : n + 59 + 1 = n + 60 := rfl
theorem ad60 (n : Nat) : n + 60 + 1 = n + 61 := rfl
theorem ad61 (n : Nat) : n + 61 + 1 = n + 62 := rfl
theorem ad62 (n : Nat) : n + 62 + 1 = n + 63 := rfl
theorem ad63 (n : Nat) : n + 63 + 1 = n + 64 := rfl
theorem ad64 (n : Nat) : n + 64 + 1 = n + 65 := rfl
theorem ad65 (n : Nat) : n + 65 + 1 = n + 66 := rfl
theorem ad66 (n : Nat) : n + 66 + 1 = n + 67 := rfl
theorem ad67 (n : Nat) : n + 67 + 1 = n + 68 := rfl
theorem ad68 (n : Nat) : n + 68 + 1 = n + 69 := rfl
theorem ad69 (n : Nat) : n + 69 + 1 = n + 70 := rfl
theorem ad70 (n : Nat) : n + 70 + 1 = n + 71 := rfl
theorem ad71 (n : Nat) : n + 71 + 1 = n + 72 := rfl
theorem ad72 (n : Nat) : n + 72 + 1 = n + 73 := rfl
theorem ad73 (n : Nat) : n + 73 + 1 = n + 74 := rfl
theorem ad74 (n : Nat) : n + 74 + 1 = n + 75 := rfl
theorem ad75 (n : Nat) : n + 75 + 1 = n + 76 := rfl
theorem ad76 (n : Nat) : n + 76 + 1 = n + 77 := rfl
theorem ad77 (n : Nat) : n + 77 + 1 = n + 78 := rfl
theorem ad78 (n : Nat) : n + 78 + 1 = n + 79 := rfl
theorem ad79 (n : Nat) : n + 79 + 1 = n + 80 := rfl
end
end Go.Proofs.YtmpmbnmldmpmiaaGreatDoor.Sim
set_option linter.unusedVariables false
set_option linter.unusedSimpArgs false
namespace Go.Proofs.YtmpmbnmldmpmiaaGreatDoor.Sim
open Go Go.RowKit
section
variable {P : Program}
/-- A row in a drawn order, by an order of one's own: operation by operation. -/
theorem WpB.drawAny {n : Nat} (hn : n ≤ 2000) {ops : Array Oper} {b : Bs} {F : Fm} {S : St} {Q : Ex → Bs → Fm → St → Prop} (ord : List Nat) {l : List Oper}
    (hpl : ancOk (ancsX ops.toList []) 0 ops.toList = true) (hsel : Region.noSelect ops = true) (hi : ops.toList.all (inOp n ops) = true) (hc : chkOrd ops (ancsX ops.toList []) ord = true) (hl : (List.range ops.size).all (fun i => ord.contains i) = true) (hlist : ord.map (opAt ops) = l)
    (h : EvO P n ops l b F S fun b' F' => Q .normal b' F' S) : ∀ g w a, LeftB b n F S g a w → ∀ R : Exit → Act → World → Prop,
    (∀ ex b' F' S' g' a' w', Q ex b' F' S' → BsLe b b' → LeftB b' n F' S' g' a' w' → R ex.exit' a' w') → wpAny P .any ops R ops.size (Array.replicate ops.size false) a { w with drawn := w.drawn + 1 } := by
  intro g w a hl0 R hR
  have ho := Ord.of hc hl
  have hp : Plan ops (ancsX ops.toList []) := ⟨hsel, fun i o ho => by
    have := ancOk_spec hpl i o (by simpa using ho)
    simpa [ancOf] using this⟩
  have key : ∀ fuel L g a w pre rest b' vals, InvO P n ops (ancsX ops.toList []) ord F S (fun b' F' => Q .normal b' F' S) b L g a w pre rest b' vals → Headed ops rest → L.toList.count false ≤ fuel → wpAny P .any ops R fuel L a w := by
    intro fuel
    induction fuel with
    | zero =>
      intro L g a w pre rest b' vals h hh hcnt
      have hall : ∀ j, j < ops.size → L.getD j false = true := fun j hj => by
        cases hL : L.getD j false with
        | true => rfl
        | false =>
          have hlt : j < L.size := by rw [h.sz]; omega
          have hmem : false ∈ L.toList := by
            have : L[j] = false := by simp [hlt] at hL; exact hL
            rw [← this]
            exact Array.mem_toList_iff.2 (Array.getElem_mem hlt)
          have := List.count_pos_iff.2 hmem
          omega
      have hrest : rest = [] := by
        cases rest with
        | nil => rfl
        | cons c r =>
          have := h.nrest c List.mem_cons_self
          rw [hall c (ho.lt c (by rw [h.cut]; simp))] at this
          cases this
      subst hrest
      have hf : (pre.filter fun i => L.getD i false) = pre := List.filter_eq_self.2 fun j hj => hall j (ho.lt j (by rw [h.cut]; simp [hj]))
      have hfm := h.fm
      rw [hf] at hfm
      have hr : Region.ready .any ops L = [] := by
        cases hre : Region.ready .any ops L with
        | nil => rfl
        | cons i r =>
          have hi : i ∈ Region.ready .any ops L := by rw [hre]; exact List.mem_cons_self
          obtain ⟨q1, o, q2, _⟩ := mem_ready.1 hi
          have := getD_true (hall i (Array.getElem?_eq_some_iff.1 q2).1)
          rw [q1] at this
          cases this
      exact wpAny_done hr (hR .normal b' _ S g a w h.ev h.le ⟨h.m, hfm, h.df, h.up⟩) _
    | succ fuel ih =>
      intro L g a w pre rest b' vals h hh hcnt
      by_cases hre : Region.ready .any ops L = []
      · -- none is left
        have hall : ∀ j, j < ops.size → L.getD j false = true := by
          intro j
          induction j using Nat.strongRecOn with
          | ind j ihj =>
            intro hj
            cases hL : L.getD j false with
            | true => rfl
            | false =>
              have : j ∈ Region.ready .any ops L := ready_of (Array.getElem?_eq_getElem hj) (getD_false' (by rw [h.sz]; exact hj) hL) fun d hd => by
                have hdj := (hp.anc j _ (Array.getElem?_eq_getElem hj)).2 d hd
                exact ihj d hdj (by omega)
              rw [hre] at this
              cases this
        have hrest : rest = [] := by
          cases rest with
          | nil => rfl
          | cons c r =>
            have := h.nrest c List.mem_cons_self
            rw [hall c (ho.lt c (by rw [h.cut]; simp))] at this
            cases this
        subst hrest
        have hf : (pre.filter fun i => L.getD i false) = pre := List.filter_eq_self.2 fun j hj => hall j (ho.lt j (by rw [h.cut]; simp [hj]))
        have hfm := h.fm
        rw [hf] at hfm
        exact wpAny_done hre (hR .normal b' _ S g a w h.ev h.le ⟨h.m, hfm, h.df, h.up⟩) _
      · refine ⟨fun h0 => absurd h0 hre, fun k hk => ?_⟩
        refine h.step hn hi hh ho hp hk fun g' a' w' pre' rest' b2 vals' h' hh' => ih _ _ _ _ _ _ _ _ h' hh' ?_
        have := count_set (mem_ready.1 hk).1
        omega
  have h0 : InvO P n ops (ancsX ops.toList []) ord F S (fun b' F' => Q .normal b' F' S) b (Array.replicate ops.size false) g a { w with drawn := w.drawn + 1 } [] ord b (fun _ => undefV) := by
    have hrep : ∀ j, (Array.replicate ops.size false).getD j false = false := fun j => by
      rcases Nat.lt_or_ge j ops.size with h3 | h3 <;> simp [h3]
    exact ⟨by simp, fun i o _ hL => by (rw [hrep] at hL; cases hL), rfl, fun j _ => hrep j, fun j hj => by (cases hj), by rw [hlist]; exact h, BsLe.refl b, hl0.m.drew _, hl0.up, hl0.df, hl0.fm, fun p i s he => by simp at he⟩
  obtain ⟨pre', rest', vals', h1, h2⟩ := h0.advance ho.nd
  refine key _ _ _ _ _ _ _ _ _ h1 h2 ?_
  have : ((Array.replicate ops.size false).toList.count false) ≤ (Array.replicate ops.size false).toList.length := List.count_le_length
  simp
theorem EvO.mono {n : Nat} {ops : Array Oper} {S : St} {K K' : Bs → Fm → Prop} (k : ∀ b F, K b F → K' b F) : ∀ {l : List Oper} {b : Bs} {F : Fm}, EvO P n ops l b F S K → EvO P n ops l b F S K'
  | [], b, F, h => k b F h
  | o :: r, b, F, h => by
    simp only [EvO] at h ⊢
    split at h
    · split at h
      · rename_i f args ats hop
        obtain ⟨fid, first, captured, QQ, h1, h2, h3⟩ := h
        exact ⟨fid, first, captured, QQ, h1, h2, fun b' v hq => EvO.mono k (h3 b' v hq)⟩
      · rename_i hno
        split at h
        · exact EvO.mono k h
        · exact h.elim
    · exact EvO.mono k h
    · exact h.elim
/-- What must hold at a row's end, if one operation is still to come. -/
def LastQ (P : Program) (ops : Array Oper) (z : Oper) (Q : Exit → Act → World → Prop) : Exit → Act → World → Prop
  | .normal, a, w => wpList P ops Q [z] a w
  | ex, a, w => Q ex a w
theorem yielded_push {ops : Array Oper} {z : Oper} (hz : z.dst = none) (tm : Array Value) : yielded (ops.push z) tm = yielded ops tm := by
  funext j
  unfold yielded
  rw [Array.getElem?_push]
  by_cases h : j = ops.size
  · subst h
    simp [hz]
  · rw [if_neg h]
theorem Oper.wp_last {ops : Array Oper} {z o : Oper} {Q : Exit → Act → World → Prop} {K : Act → World → Prop} {a : Act} {w : World} (h : o.wp P a w K (LastQ P ops z Q)) : o.wp P a w K Q := by
  unfold Oper.wp at *
  generalize (execOp a.eval o).run P w = r at *
  cases r with
  | ok n w' =>
    cases n <;> simp only [Oper.upon] at h ⊢ <;>
      first
        | exact h
        | exact Calls.mono h (fun e w'' he => by cases e <;> exact he)
  | halt x w' => cases x <;> simp only [Oper.upon] at h ⊢ <;> exact h
theorem wpOp_push {ops : Array Oper} {z : Oper} (hz : z.dst = none) {Q : Exit → Act → World → Prop} {i : Nat} (hi : i < ops.size) {K : Act → World → Prop} {a : Act} {w : World} (h : wpOp P ops (LastQ P (ops.push z) z Q) i K a w) : wpOp P (ops.push z) Q i K a w := by
  unfold wpOp at *
  rw [Array.getElem?_push, if_neg (by omega), yielded_push hz]
  split
  · rename_i h1
    rw [h1] at h
    exact h
  · rename_i o ho
    rw [ho] at h
    simp only at h
    split
    · rename_i hw
      rw [if_pos hw] at h
      exact h.imp Oper.wp_last id
    · rename_i hw
      rw [if_neg hw] at h
      exact h
theorem wpOp_last {ops : Array Oper} {z : Oper} {Q : Exit → Act → World → Prop} {K : Act → World → Prop} (hK : ∀ a w, Q .normal a w → K a w) {a : Act} {w : World} (h : wpList P (ops.push z) Q [z] a w) : wpOp P (ops.push z) Q ops.size K a w := by
  refine wpOp_mono (K := fun a w => Q .normal a w) hK ?_
  unfold wpOp
  rw [Array.getElem?_push, if_pos rfl]
  exact h
/-- Everything ahead is done where nothing is ready. -/
theorem all_done {ops : Array Oper} (hlt : ∀ i o, ops[i]? = some o → ∀ d ∈ depsX o, d < i) {L : Array Bool} (hs : L.size = ops.size) (h : Region.ready .any ops L = []) : ∀ j, j < ops.size → L.getD j false = true := by
  intro j
  induction j using Nat.strongRecOn with
  | ind j ihj =>
    intro hj
    cases hL : L.getD j false with
    | true => rfl
    | false =>
      have : j ∈ Region.ready .any ops L := ready_of (Array.getElem?_eq_getElem hj) (getD_false' (by rw [hs]; exact hj) hL) fun d hd => by
        have hdj := hlt j _ (Array.getElem?_eq_getElem hj) d hd
        exact ihj d hdj (by omega)
      rw [h] at this
      cases this
theorem push_getD {L : Array Bool} {j : Nat} {c d : Bool} (h : j ≠ L.size) : (L.push c).getD j d = L.getD j d := by
  simp only [Array.getD_eq_getD_getElem?, Array.getElem?_push, if_neg h]
theorem ready_push {ops : Array Oper} {z : Oper} {L : Array Bool} (hs : L.size = ops.size) (hlt : ∀ i o, ops[i]? = some o → ∀ d ∈ depsX o, d < i) (hall : ∀ i, i < ops.size → i ∈ depsX z) (hzd : ∀ d ∈ depsX z, d < ops.size) {i : Nat} :
    i ∈ Region.ready .any (ops.push z) (L.push false) ↔ i ∈ Region.ready .any ops L ∨ (i = ops.size ∧ ∀ j, j < ops.size → L.getD j false = true) := by
  have hdep : ∀ (o : Oper) (m : Nat), (∀ d ∈ depsX o, d < ops.size) → ((∀ e ∈ o.after, Region.binds .any e = true → (L.push false).getD e.on false = true) ↔ (∀ e ∈ o.after, Region.binds .any e = true → L.getD e.on false = true)) := by
    intro o m ho
    have hd : ∀ e ∈ o.after, Region.binds .any e = true → e.on ≠ L.size := fun e he hb => by
      have : e.on ∈ depsX o := by
        simp only [depsX, List.mem_map, List.mem_filter]
        exact ⟨e, ⟨by simpa using he, hb⟩, rfl⟩
      have := ho _ this
      omega
    constructor
    · intro h e he hb
      have := h e he hb
      rwa [push_getD (hd e he hb)] at this
    · intro h e he hb
      rw [push_getD (hd e he hb)]
      exact h e he hb
  rw [mem_ready, mem_ready]
  by_cases hi : i = ops.size
  · subst hi
    rw [Array.getElem?_push, if_pos rfl]
    constructor
    · rintro ⟨_, o, ho, h⟩
      cases ho
      refine .inr ⟨rfl, fun j hj => ?_⟩
      have hm := hall j hj
      simp only [depsX, List.mem_map, List.mem_filter] at hm
      obtain ⟨e, ⟨he, hb⟩, rfl⟩ := hm
      exact (hdep z 0 hzd).1 h e (by simpa using he) hb
    · rintro (⟨_, o, ho, _⟩ | ⟨_, h⟩)
      · rw [Array.getElem?_eq_none (Nat.le_refl _)] at ho
        cases ho
      · refine ⟨by rw [← hs]; simp, z, rfl, (hdep z 0 hzd).2 fun e he hb => ?_⟩
        have : e.on ∈ depsX z := by
          simp only [depsX, List.mem_map, List.mem_filter]
          exact ⟨e, ⟨by simpa using he, hb⟩, rfl⟩
        exact h _ (hzd _ this)
  · rw [Array.getElem?_push, if_neg hi, push_getD (by omega)]
    constructor
    · rintro ⟨h1, o, ho, h⟩
      have hio := (Array.getElem?_eq_some_iff.1 ho).1
      exact .inl ⟨h1, o, ho, (hdep o 0 fun d hd => Nat.lt_trans (hlt i o ho d hd) hio).1 h⟩
    · rintro (⟨h1, o, ho, h⟩ | ⟨h, _⟩)
      · have hio := (Array.getElem?_eq_some_iff.1 ho).1
        exact ⟨h1, o, ho, (hdep o 0 fun d hd => Nat.lt_trans (hlt i o ho d hd) hio).2 h⟩
      · exact absurd h hi
theorem wpAny_last {ops : Array Oper} {z : Oper} (hz : z.dst = none) (hlt : ∀ i o, ops[i]? = some o → ∀ d ∈ depsX o, d < i) (hall : ∀ i, i < ops.size → i ∈ depsX z) (hzd : ∀ d ∈ depsX z, d < ops.size) {Q : Exit → Act → World → Prop} :
    ∀ (fuel : Nat) (L : Array Bool) (a : Act) (w : World), L.size = ops.size → wpAny P .any ops (LastQ P (ops.push z) z Q) fuel L a w → wpAny P .any (ops.push z) Q (fuel + 1) (L.push false) a w := by
  have fin : ∀ (fuel : Nat) (L : Array Bool) (a : Act) (w : World), L.size = ops.size → Region.ready .any ops L = [] → wpList P (ops.push z) Q [z] a w → wpAny P .any (ops.push z) Q (fuel + 1) (L.push false) a w := by
    intro fuel L a w hs hr h
    have hd := all_done hlt hs hr
    refine ⟨fun h0 => ?_, fun i hi => ?_⟩
    · have : ops.size ∈ Region.ready .any (ops.push z) (L.push false) := (ready_push hs hlt hall hzd).2 (.inr ⟨rfl, hd⟩)
      rw [h0] at this
      cases this
    · rcases (ready_push hs hlt hall hzd).1 hi with h1 | ⟨rfl, _⟩
      · rw [hr] at h1; cases h1
      · refine wpOp_last (fun a w hq => wpAny_done ?_ hq fuel) h
        cases hre : Region.ready .any (ops.push z) ((L.push false).setIfInBounds ops.size true) with
        | nil => rfl
        | cons i r =>
          exfalso
          have hi : i ∈ Region.ready .any (ops.push z) ((L.push false).setIfInBounds ops.size true) := by rw [hre]; exact List.mem_cons_self
          obtain ⟨q1, o, q2, _⟩ := mem_ready.1 hi
          have hio := (Array.getElem?_eq_some_iff.1 q2).1
          rw [Array.size_push] at hio
          have hlen : ops.size < (L.push false).size := by rw [Array.size_push]; omega
          rw [Array.getD_eq_getD_getElem?, Array.getElem?_setIfInBounds] at q1
          by_cases hi2 : ops.size = i
          · rw [if_pos hi2, if_pos (by omega)] at q1
            cases q1
          · rw [if_neg hi2] at q1
            have h3 := hd i (by omega)
            rw [Array.getElem?_push, if_neg (by omega)] at q1
            rw [Array.getD_eq_getD_getElem?] at h3
            have h4 : i < L.size := by omega
            rw [Array.getElem?_eq_getElem h4] at q1 h3
            simp only [Option.getD_some] at q1 h3
            rw [h3] at q1
            cases q1
  intro fuel
  induction fuel with
  | zero => intro L a w hs h; exact fin 0 L a w hs h.1 h.2
  | succ fuel ih =>
    intro L a w hs h
    by_cases hr : Region.ready .any ops L = []
    · exact fin (fuel + 1) L a w hs hr (h.1 hr)
    · refine ⟨fun h0 => ?_, fun i hi => ?_⟩
      · exfalso
        cases hre : Region.ready .any ops L with
        | nil => exact hr hre
        | cons i r =>
          have : i ∈ Region.ready .any (ops.push z) (L.push false) := (ready_push hs hlt hall hzd).2 (.inl (by rw [hre]; exact List.mem_cons_self))
          rw [h0] at this
          cases this
      · rcases (ready_push hs hlt hall hzd).1 hi with h1 | ⟨rfl, h2⟩
        · have hio : i < ops.size := by
            obtain ⟨_, o, q2, _⟩ := mem_ready.1 h1
            exact (Array.getElem?_eq_some_iff.1 q2).1
          refine wpOp_push hz hio (wpOp_mono (fun a' w' h' => ?_) (h.2 i h1))
          have := ih (L.setIfInBounds i true) a' w' (by simpa using hs) h'
          have e : (L.push false).setIfInBounds i true = (L.setIfInBounds i true).push false := by
            apply Array.ext_getElem?
            intro j
            rw [Array.getElem?_push, Array.getElem?_setIfInBounds, Array.getElem?_setIfInBounds, Array.getElem?_push, Array.size_setIfInBounds, Array.size_push]
            by_cases hij : i = j
            · subst hij
              rw [if_pos rfl, if_pos (by omega), if_neg (by omega), if_pos rfl, if_pos (by omega)]
            · rw [if_neg hij, if_neg hij]
          rw [e]
          exact this
        · exfalso
          cases hre : Region.ready .any ops L with
          | nil => exact hr hre
          | cons i r =>
            have hi : i ∈ Region.ready .any ops L := by rw [hre]; exact List.mem_cons_self
            obtain ⟨q1, o, q2, _⟩ := mem_ready.1 hi
            have := getD_true (h2 i (Array.getElem?_eq_some_iff.1 q2).1)
            rw [q1] at this
            cases this
/-- What is checked of a row whose last operation comes behind all others. -/
def lastOk (ops : Array Oper) (z : Oper) : Bool := z.dst.isNone && (List.range ops.size).all (fun i => ((ops[i]?).map fun o => (depsX o).all fun d => Nat.blt d i).getD true) && (List.range ops.size).all (fun i => (depsX z).contains i) && (depsX z).all fun d => Nat.blt d ops.size
/-- A row in a drawn order whose last operation comes behind all others. -/
theorem WpB.drawZ (hm : P.follows .mixedOrders = true) {n : Nat} (hn : n ≤ 2000) {id : Nat} {all ops : Array Oper} {z : Oper} (hops : all = ops.push z) {b : Bs} {F : Fm} {S : St} {Q : Ex → Bs → Fm → St → Prop} (ord : List Nat) {l : List Oper}
    (hz : lastOk ops z = true) (hiz : inOp n (ops.push z) z = true)
    (hpl : ancOk (ancsX ops.toList []) 0 ops.toList = true) (hsel : Region.noSelect ops = true) (hi : ops.toList.all (inOp n ops) = true) (hc : chkOrd ops (ancsX ops.toList []) ord = true) (hl : (List.range ops.size).all (fun i => ord.contains i) = true) (hlist : ord.map (opAt ops) = l)
    (h : EvO P n ops l b F S fun b' F' => EvB P b' n (ops.push z) [z] F' S fun b2 F2 S2 => Q .normal b2 F2 S2) : WpB P n (.region id all true) b F S Q := by
  subst hops
  simp only [lastOk, Bool.and_eq_true] at hz
  obtain ⟨⟨⟨z1, z2⟩, z3⟩, z4⟩ := hz
  have z1 : z.dst = none := by simpa using z1
  have hlt : ∀ i o, ops[i]? = some o → ∀ d ∈ depsX o, d < i := fun i o ho d hd => by
    have hio := (Array.getElem?_eq_some_iff.1 ho).1
    have := List.all_eq_true.1 z2 i (List.mem_range.2 hio)
    rw [ho] at this
    have := List.all_eq_true.1 this d hd
    rw [blt_dec] at this
    exact of_decide_eq_true this
  have hall : ∀ i, i < ops.size → i ∈ depsX z := fun i hi => by simpa using List.all_eq_true.1 z3 i (List.mem_range.2 hi)
  have hzd : ∀ d ∈ depsX z, d < ops.size := fun d hd => by
    have := List.all_eq_true.1 z4 d hd
    rw [blt_dec] at this
    exact of_decide_eq_true this
  intro g w a hl0 R hR
  refine wp_region_any hm ?_
  rw [Array.size_push]
  have hrep : Array.replicate (ops.size + 1) false = (Array.replicate ops.size false).push false := by
    apply Array.ext'
    simp [List.replicate_succ']
  rw [hrep]
  refine wpAny_last z1 hlt hall hzd _ _ _ _ (by simp) ?_
  refine WpB.drawAny hn (Q := fun ex b' F' S' => ex = .normal ∧ S' = S ∧ EvB P b' n (ops.push z) [z] F' S fun b2 F2 S2 => Q .normal b2 F2 S2) ord hpl hsel hi hc hl hlist ?_ g w a hl0 _ ?_
  · exact EvO.mono (fun b' F' h => ⟨rfl, rfl, h⟩) h
  · rintro ex b' F' S' g' a' w' ⟨rfl, rfl, he⟩ hble hl'
    have hs := EvB.seq hn [z] (by simp [hiz]) he
    exact hs g' w' a' hl' R fun b2 F2 S2 g2 a2 w2 hk hb2 hl2 => hR .normal _ _ _ _ _ _ hk (hble.trans hb2) hl2
theorem wantF_ops {ops ops' : Array Oper} (h : ∀ j : Nat, (ops[j]?).bind Oper.dst = (ops'[j]?).bind Oper.dst) (F : Fm) (o : Oper) : wantF ops F o = wantF ops' F o := by
  unfold wantF
  cases o.guard with
  | none => rfl
  | some p =>
    obtain ⟨j, want⟩ := p
    simp only
    have := h j
    rw [show ((ops[j]?).bind fun x => x.dst) = (ops[j]?).bind Oper.dst from rfl, this]
theorem EvO.ops {n : Nat} {ops ops' : Array Oper} (h : ∀ j : Nat, (ops[j]?).bind Oper.dst = (ops'[j]?).bind Oper.dst) {S : St} {K : Bs → Fm → Prop} : ∀ {l : List Oper} {b : Bs} {F : Fm}, EvO P n ops l b F S K → EvO P n ops' l b F S K
  | [], b, F, k => k
  | o :: r, b, F, k => by
    simp only [EvO] at k ⊢
    rw [← wantF_ops h]
    split at k
    · split at k
      · obtain ⟨fid, first, captured, QQ, h1, h2, h3⟩ := k
        exact ⟨fid, first, captured, QQ, h1, h2, fun b' v hq => EvO.ops h (h3 b' v hq)⟩
      · split at k
        · exact EvO.ops h k
        · exact k.elim
    · exact EvO.ops h k
    · exact k.elim
/-- A row in a drawn order whose last operation (at zi) comes behind all others. -/
theorem WpB.drawY (hm : P.follows .mixedOrders = true) {n : Nat} (hn : n ≤ 2000) {id : Nat} {all : Array Oper} {b : Bs} {F : Fm} {S : St} {Q : Ex → Bs → Fm → St → Prop} (ord : List Nat) (zi : Nat) {l : List Oper}
    (hsz : Nat.beq all.size (zi + 1) = true) (hz : lastOk all.pop (opAt all zi) = true) (hiz : inOp n all (opAt all zi) = true)
    (hpl : ancOk (ancsX all.pop.toList []) 0 all.pop.toList = true) (hsel : Region.noSelect all.pop = true) (hi : all.pop.toList.all (inOp n all.pop) = true) (hc : chkOrd all.pop (ancsX all.pop.toList []) ord = true) (hl : (List.range all.pop.size).all (fun i => ord.contains i) = true) (hlist : ord.map (opAt all) = l)
    (h : EvO P n all l b F S fun b' F' => EvB P b' n all [opAt all zi] F' S fun b2 F2 S2 => Q .normal b2 F2 S2) : WpB P n (.region id all true) b F S Q := by
  have hsz := Nat.eq_of_beq_eq_true hsz
  have hp : all.pop.size = zi := by rw [Array.size_pop]; omega
  have hall : all = all.pop.push (opAt all zi) := by
    apply Array.ext_getElem?
    intro j
    rw [Array.getElem?_push, hp]
    by_cases hj : j = zi
    · subst hj
      rw [if_pos rfl]
      unfold opAt
      rw [Array.getElem?_eq_getElem (by omega)]
      rfl
    · rw [if_neg hj]
      rcases Nat.lt_or_ge j zi with h1 | h1
      · rw [Array.getElem?_eq_getElem (by omega), Array.getElem?_eq_getElem (by omega), Array.getElem_pop]
      · rw [Array.getElem?_eq_none (by omega), Array.getElem?_eq_none (by omega)]
  have hdst : (opAt all zi).dst = none := by
    simp only [lastOk, Bool.and_eq_true] at hz
    simpa using hz.1.1.1
  have hops : ∀ j : Nat, (all[j]?).bind Oper.dst = (all.pop[j]?).bind Oper.dst := by
    intro j
    conv => lhs; rw [hall]
    rw [Array.getElem?_push]
    by_cases hj : j = all.pop.size
    · rw [if_pos hj, hj, Array.getElem?_eq_none (Nat.le_refl _)]
      exact hdst
    · rw [if_neg hj]
  have hat : ∀ i ∈ ord, opAt all.pop i = opAt all i := by
    intro i hi
    have h1 := (chkOrd_spec hc).1 i hi
    unfold opAt
    rw [Array.getElem?_eq_getElem h1, Array.getElem?_eq_getElem (by omega), Array.getElem_pop]
  refine WpB.drawZ hm hn hall ord hz (by rw [← hall]; exact hiz) hpl hsel hi hc hl (List.map_congr_left hat) ?_
  rw [hlist, ← hall]
  exact EvO.ops hops h
end
end Go.Proofs.YtmpmbnmldmpmiaaGreatDoor.Sim
