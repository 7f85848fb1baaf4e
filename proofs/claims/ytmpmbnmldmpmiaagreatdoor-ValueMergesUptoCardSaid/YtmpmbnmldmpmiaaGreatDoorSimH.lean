/- Texts of this claim, put together. -/
import Derived.Test.YtmpmbnmldmpmiaaGreatDoorSimA
import Derived.LoopN
import Derived.RegionTactic
set_option linter.unusedVariables false
set_option linter.unusedSimpArgs false
namespace Go.Proofs.YtmpmbnmldmpmiaaGreatDoor.Sim
open Go Go.RowKit
section
variable (P : Program) (T : Nat → Option (List Value))
def undefV : V := .s undef
def unitX : Option Eff → Option (V × Eff)
  | some f => some (undefV, f)
  | none => none
/-- The built-in functions. -/
def builtinX (b : Builtin) (ats : Array TypeId) (ty : TypeId) (consts : Array Bool) (args : List V) (S : St) : Option (V × Eff) := match b, args with
  | .len, [x] => lenX P ats ty x S
  | .cap, [x] => capX P ats ty x
  | .append, [s, x] => appendX P T ats s x S
  | .copy, [d, s] => copyX P T ats d s S
  | .unsafeSliceData, [x] => sliceDataX P ats ty x S
  | .unsafeString, [p, n] => unsafeStrX P ats ty p n S
  | .max, l => match lits l with
    | some l => pureV P (Builtin.max_ ats ty l.toArray)
    | none => none
  | .min, l => match lits l with
    | some l => pureV P (Builtin.min_ ats ty l.toArray)
    | none => none
  | _, _ => none
/-- All operations but the calls of functions. -/
def opX (ev : Operand → V) (o : Oper) (S : St) : Option (V × Eff) := match o.op with
  | .move x => some (ev x, .no)
  | .assign x => some (ev x, .no)
  | .pick c a b => match ev c with
    | .s (.bool t) => some (bif t then ev a else ev b, .no)
    | _ => none
  | .alloc e => match allocX P e with
    | some f => some (.ptr S.next 0, f)
    | none => none
  | .box e x => some (.ptr S.next 0, mkRow e (cellsV (ev x)))
  | .build t ps => match buildX P ev t ps with
    | some v => some (v, .no)
    | none => none
  | .buildSlice t n ps => match buildSliceX P ev t n ps with
    | some f => some (.slc S.next 0 n (some n), f)
    | none => none
  | .load t a => match loadX P T t (ev a) S.heap with
    | some v => some (v, .no)
    | none => none
  | .store t a x => unitX (storeX P t (ev a) (ev x) S)
  | .nilCheck x => nilCheckX (ev x)
  | .binOp op t x y _ => binX P op t x y (ev x) (ev y)
  | .unOp op _ x => match ev x with
    | .s v => pureV P (Op.unary op v)
    | _ => none
  | .convert s d x => convX P s d (ev x) S
  | .makeInterface t x => mkIfcX P t (ev x)
  | .makeFunc (.func f) first captured => some (.fn f (first.toList.map ev) (captured.toList.map ev), .no)
  | .makeMap t r => makeMapX P t (r.map ev) S
  | .makeSlice t l c => match makeSliceX P t (ev l) (ev c) with
    | some (f, m, n) => some (.slc S.next 0 m (some n), f)
    | none => none
  | .slice t x lo hi mx => match litO (lo.map ev), litO (hi.map ev), litO (mx.map ev) with
    | some lo, some hi, some mx => match sliceX P t (ev x) lo hi mx S.heap with
      | some v => some (v, .no)
      | none => none
    | _, _, _ => none
  | .fieldAddr s x f => fieldAddrX P s (ev x) f
  | .field t x f => fieldX P t (ev x) f
  | .indexAddr t x i => indexAddrX P t (ev x) (ev i)
  | .index t x i => indexX P t (ev x) (ev i)
  | .lookup t x i ok => lookupX P t (ev x) (ev i) ok S
  | .mapUpdate t m k x => unitX (mapUpdateX P t (ev m) (ev k) (ev x) S)
  | .range t x => rangeX P t (ev x) S
  | .next it b => nextX (ev it) b S
  | .extract t i => extractX P (ev t) i
  | .call ⟨.builtin b, args, ats⟩ => builtinX P T b ats o.type (args.map fun | .const _ => true | _ => false) (args.toList.map ev) S
  | _ => none
/-- What has been shown of one operation. -/
def Done (P : Program) (w0 : Bs) (g : Gh) (S : St) (w : World) (e : Sem Next) (v : V) (f : Eff) : Prop :=
  ∃ nx u w' g', e.run P w = .ok nx w' ∧ (nx = .value u ∨ nx = .skip ∧ u = undef) ∧ M w0 g' (f.run S).heap w' ∧ Fr S.next (f.run S).low (f.run S).next g w g' w' ∧ V.rel g'.ν v u
theorem Good.done {w0 : Bs} {g : Gh} {S : St} {w : World} {e : Sem Value} {v : V} {f : Eff} (h : Good P w0 g S w e v f) : Done P w0 g S w (do pure (.value (← e))) v f := by
  obtain ⟨u, w', g', h1, h2⟩ := h
  exact ⟨_, u, w', g', by simp only [Sem.run_bind, h1, Result.andThen_ok, Sem.run_pure], .inl rfl, h2⟩
theorem GoodU.done {w0 : Bs} {g : Gh} {S : St} {w : World} {e : Sem Unit} {f : Eff} (h : GoodU P w0 g S w e f) : Done P w0 g S w (do e; pure .skip) undefV f := by
  obtain ⟨w', g', h1, h2, h3⟩ := h
  exact ⟨_, undef, w', g', by simp only [Sem.run_bind, h1, Result.andThen_ok, Sem.run_pure], .inr ⟨rfl, rfl⟩, h2, h3, by simp only [undefV, V.rel]⟩
theorem lits_map {ν : Val} {ev : Operand → V} {ρ : Operand → Value} (hev : ∀ x, V.rel ν (ev x) (ρ x)) (args : Array Operand) {l : List Value} (h : lits (args.toList.map ev) = some l) : args.map ρ = l.toArray := by
  have := lits_rels h (map_rels hev args.toList)
  rw [← this, ← Array.toList_map, Array.toArray_toList]
theorem map_one {ev : Operand → V} {ρ : Operand → Value} {args : Array Operand} {x : V} (h : args.toList.map ev = [x]) : ∃ a, x = ev a ∧ args.map ρ = #[ρ a] := by
  obtain ⟨l⟩ := args
  match l, h with
  | [a], h => simp at h; exact ⟨a, h.symm, by simp⟩
theorem map_two {ev : Operand → V} {ρ : Operand → Value} {args : Array Operand} {x y : V} (h : args.toList.map ev = [x, y]) : ∃ a b, x = ev a ∧ y = ev b ∧ args.map ρ = #[ρ a, ρ b] := by
  obtain ⟨l⟩ := args
  match l, h with
  | [a, b], h => simp at h; exact ⟨a, b, h.1.symm, h.2.symm, by simp⟩
theorem builtinX_done {w0 : Bs} (hT : Tab T w0) {g : Gh} {S : St} {w : World} (hM : M w0 g S.heap w) (hn : g.ν S.next = none) {ev : Operand → V} {ρ : Operand → Value} (hev : ∀ x, V.rel g.ν (ev x) (ρ x)) {b : Builtin} {ats : Array TypeId} {ty : TypeId} {cs : Array Bool} {args : Array Operand} {v : V} {f : Eff}
    (h : builtinX P T b ats ty cs (args.toList.map ev) S = some (v, f)) : Done P w0 g S w (builtin b ats ty cs (args.map ρ)) v f := by
  unfold builtinX at h
  split at h
  · rename_i x hx
    obtain ⟨a, rfl, e⟩ := map_one (ρ := ρ) hx
    rw [e]
    exact (lenX_good P hM h (hev a)).done
  · rename_i x hx
    obtain ⟨a, rfl, e⟩ := map_one (ρ := ρ) hx
    rw [e]
    exact (capX_good P hM h (hev a)).done
  · rename_i x y hx
    obtain ⟨a, b, rfl, rfl, e⟩ := map_two (ρ := ρ) hx
    rw [e]
    exact (appendX_good P T hT hM hn h rfl rfl (hev a) (hev b)).done
  · rename_i x y hx
    obtain ⟨a, b, rfl, rfl, e⟩ := map_two (ρ := ρ) hx
    rw [e]
    exact (copyX_good P T hT hM h (hev a) (hev b)).done
  · rename_i x hx
    obtain ⟨a, rfl, e⟩ := map_one (ρ := ρ) hx
    rw [e]
    exact (sliceDataX_good P hM h (hev a)).done
  · rename_i x y hx
    obtain ⟨a, b, rfl, rfl, e⟩ := map_two (ρ := ρ) hx
    rw [e]
    exact (unsafeStrX_good P hM h (hev a) (hev b)).done
  · split at h
    · rename_i l hl
      rw [lits_map hev args hl]
      exact (pureV_good P hM h).done
    · cases h
  · split at h
    · rename_i l hl
      rw [lits_map hev args hl]
      exact (pureV_good P hM h).done
    · cases h
  · cases h
theorem opX_done {w0 : Bs} {g : Gh} {S : St} {w : World} (hT : Tab T w0) (hM : M w0 g S.heap w) {ev : Operand → V} {ρ : Operand → Value} (hev : ∀ x, V.rel g.ν (ev x) (ρ x)) {o : Oper} {v : V} {f : Eff} (h : opX P T ev o S = some (v, f))
    (hn : g.ν S.next = none) : Done P w0 g S w (execOp ρ o) v f := by
  obtain ⟨dst, op, ty, pos, after, guard⟩ := o
  have quiet : ∀ (x : Operand), Done P w0 g S w (pure (.value (ρ x))) (ev x) .no := fun x => ⟨_, ρ x, w, g, rfl, .inl rfl, hM, Fr.refl _ _ _ _, hev x⟩
  have hnn : ∀ b, f = .new b → g.ν S.next = none := fun b e => hn
  unfold opX at h
  cases op with
  | move x => cases h; exact quiet x
  | assign x => cases h; exact quiet x
  | pick c a b =>
    simp only at h
    split at h
    · rename_i t hc
      cases h
      have hcv := hev c
      rw [hc] at hcv
      simp only [V.rel] at hcv
      refine ⟨_, if t then ρ a else ρ b, w, g, ?_, .inl rfl, hM, Fr.refl _ _ _ _, ?_⟩
      · simp only [execOp, hcv, asBool, Sem.run_bind, Sem.run_pure, Result.andThen_ok]
      · cases t
        · exact hev b
        · exact hev a
    · cases h
  | alloc e =>
    simp only at h
    split at h
    · rename_i f' hf
      cases h
      have hb : ∃ b, f = .new b := by
        unfold allocX at hf
        split at hf
        · split at hf
          · cases hf; exact ⟨_, rfl⟩
          · cases hf
        · cases hf
      obtain ⟨b, rfl⟩ := hb
      exact (allocX_good P hM (hnn _ rfl) hf).done
    · cases h
  | box e x => cases h; exact (good_box P hM (hnn _ rfl) e (hev x)).done
  | build t ps =>
    simp only at h
    split at h
    · rename_i v' hv
      cases h
      exact (buildX_good P hM hev hv).done
    · cases h
  | buildSlice t n ps =>
    simp only at h
    split at h
    · rename_i f' hf
      cases h
      have hb : ∃ b, f = .new b := by
        unfold buildSliceX at hf
        split at hf
        · split at hf
          · split at hf
            · cases hq : Nat.ble _ 16777216 with
              | false => rw [hq] at hf; cases hf
              | true =>
                rw [hq] at hf
                simp only [cond_true] at hf
                split at hf
                · cases hf; exact ⟨_, rfl⟩
                · cases hf
            · cases hf
          · cases hf
        · cases hf
      obtain ⟨b, rfl⟩ := hb
      exact (buildSliceX_good P hM (hnn _ rfl) hev hf).done
    · cases h
  | load t a =>
    simp only at h
    split at h
    · rename_i v' hv
      cases h
      exact (loadX_good P T hT hM hv (hev a)).done
    · cases h
  | store t a x =>
    simp only [unitX] at h
    split at h
    · rename_i f' hf
      cases h
      exact (storeX_good P hM hf (hev a) (hev x)).done
    · cases h
  | nilCheck x =>
    have hx := hev x
    unfold nilCheckX at h
    simp only at h
    split at h
    · rename_i id off e
      cases h
      rw [e] at hx
      have hx0 := hx
      simp only [V.rel] at hx
      obtain ⟨k, c, hk, e2⟩ := hx
      refine ⟨_, _, w, g, ?_, .inl rfl, hM, Fr.refl _ _ _ _, hx0⟩
      simp only [execOp, e2, Sem.run_pure]
    · rename_i ff a c e
      cases h
      rw [e] at hx
      have hx0 := hx
      simp only [V.rel] at hx
      obtain ⟨xs, ys, _, _, e2⟩ := hx
      refine ⟨_, _, w, g, ?_, .inl rfl, hM, Fr.refl _ _ _ _, hx0⟩
      simp only [execOp, e2, Sem.run_pure]
    · rename_i a e
      cases h
      rw [e] at hx
      have hx0 := hx
      simp only [V.rel] at hx
      refine ⟨_, _, w, g, ?_, .inl rfl, hM, Fr.refl _ _ _ _, hx0⟩
      simp only [execOp, hx, Sem.run_pure]
    · rename_i ff a c e
      cases h
      rw [e] at hx
      have hx0 := hx
      simp only [V.rel] at hx
      refine ⟨_, _, w, g, ?_, .inl rfl, hM, Fr.refl _ _ _ _, hx0⟩
      simp only [execOp, hx, Sem.run_pure]
    · cases h
  | binOp op t x y yt => exact (binX_good P hM h (hev x) (hev y)).done
  | unOp op t x =>
    simp only at h
    split at h
    · rename_i v' hv
      have hx := hev x
      rw [hv] at hx
      simp only [V.rel] at hx
      simp only [execOp, hx]
      exact (pureV_good P hM h).done
    · cases h
  | convert s d x => exact (convX_good P hM hn h (hev x)).done
  | makeInterface t x => exact (mkIfcX_good P hM h (hev x)).done
  | makeFunc fn first captured =>
    cases fn with
    | func ff =>
      cases h
      refine ⟨_, .func (.func ff) (first.map ρ) (captured.map ρ), w, g, rfl, .inl rfl, hM, Fr.refl _ _ _ _, ?_⟩
      simp only [V.rel]
      exact ⟨first.toList.map ρ, captured.toList.map ρ, map_rels hev _, map_rels hev _, by rw [← Array.toList_map, ← Array.toList_map, Array.toArray_toList, Array.toArray_toList]⟩
    | method _ => cases h
    | methodOf _ _ => cases h
    | via _ _ _ _ => cases h
    | yield _ => cases h
  | makeMap t r =>
    have hb : ∃ b, f = .new b := by
      simp only [makeMapX] at h
      split at h
      · cases hq : isIntO (r.map ev) with
        | false => rw [hq] at h; cases h
        | true => rw [hq] at h; cases h; exact ⟨_, rfl⟩
      · cases h
    obtain ⟨b, rfl⟩ := hb
    exact (makeMapX_good P hM (hnn _ rfl) hev h).done
  | makeSlice t l c =>
    simp only at h
    split at h
    · rename_i f' m n hf
      cases h
      have hb : ∃ b, f = .new b := by
        unfold makeSliceX at hf
        split at hf
        · split at hf
          · split at hf
            · rename_i ie _ z _
              simp only [cond_eq_ite] at hf
              split at hf
              · cases hf; exact ⟨_, rfl⟩
              · cases hf
            · cases hf
          · cases hf
        · cases hf
      obtain ⟨b, rfl⟩ := hb
      exact (makeSliceX_good P hM (hnn _ rfl) (hev l) (hev c) hf).done
    · cases h
  | slice t x lo hi mx =>
    simp only at h
    split at h
    · rename_i lo' hi' mx' h1 h2 h3
      split at h
      · rename_i v' hv
        cases h
        have := (sliceX_good P hM (hev x) hv).done
        simp only [execOp, litO_spec hev h1, litO_spec hev h2, litO_spec hev h3]
        exact this
      · cases h
    · cases h
  | fieldAddr s x n => exact (fieldAddrX_good P hM h (hev x)).done
  | field t x n => exact (fieldX_good P hM h (hev x)).done
  | indexAddr t x i => exact (indexAddrX_good P hM h (hev x) (hev i)).done
  | index t x i => exact (indexX_good P hM h (hev x) (hev i)).done
  | lookup t x i ok => exact (lookupX_good P hM h (hev x) (hev i)).done
  | mapUpdate t m k x =>
    simp only [unitX] at h
    split at h
    · rename_i f' hf
      cases h
      exact (mapUpdateX_good P hM hf (hev m) (hev k) (hev x)).done
    · cases h
  | range t x =>
    have hb : ∃ b, f = .new b := by
      simp only [rangeX] at h
      split at h
      · cases h; exact ⟨_, rfl⟩
      · cases h
    obtain ⟨b, rfl⟩ := hb
    exact (rangeX_good P hM (hnn _ rfl) h (hev x)).done
  | next it b => exact (nextX_good P hM h (hev it)).done
  | extract t i => exact (extractX_good P hM h (hev t)).done
  | call c =>
    obtain ⟨callee, args, ats⟩ := c
    cases callee with
    | builtin b =>
      simp only at h
      simp only [execOp, resolve, pure_bind, invoke]
      exact builtinX_done P T hT hM hn hev h
    | value _ => cases h
    | invoke _ _ => cases h
  | _ => cases h
end
end Go.Proofs.YtmpmbnmldmpmiaaGreatDoor.Sim
set_option linter.unusedVariables false
set_option linter.unusedSimpArgs false
namespace Go.Proofs.YtmpmbnmldmpmiaaGreatDoor.Sim
open Go Go.RowKit
/-- The variables of a call: a tree of values. -/
inductive Tr where
  | nil
  | node (v : V) (l r : Tr)
noncomputable def Tr.get (t : Tr) : Nat → V := Tr.rec (motive := fun _ => Nat → V) (fun _ => undefV) (fun v _ _ gl gr k => Bool.rec (motive := fun _ => V) (Bool.rec (motive := fun _ => V) (gr (Nat.sub (Nat.div k 2) 1)) (gl (Nat.div k 2)) (Nat.beq (Nat.mod k 2) 1)) v (Nat.beq k 0)) t
noncomputable def Tr.set (t : Tr) : Nat → V → Tr := Tr.rec (motive := fun _ => Nat → V → Tr) (fun _ _ => .nil) (fun v l r sl sr k x => Bool.rec (motive := fun _ => Tr) (Bool.rec (motive := fun _ => Tr) (.node v l (sr (Nat.sub (Nat.div k 2) 1) x)) (.node v (sl (Nat.div k 2) x) r) (Nat.beq (Nat.mod k 2) 1)) (.node x l r) (Nat.beq k 0)) t
def Tr.has : Tr → Nat → Prop
  | .nil, _ => False
  | .node _ l r, k => k = 0 ∨ (k % 2 = 1 ∧ l.has (k / 2)) ∨ (k ≠ 0 ∧ k % 2 = 0 ∧ r.has (k / 2 - 1))
theorem brec_ite {α : Type} (m l : Nat) (a b : α) : (Bool.rec (motive := fun _ => α) b a (Nat.beq m l)) = if m = l then a else b := by
  cases h : Nat.beq m l with
  | true => simp [Nat.eq_of_beq_eq_true h]
  | false =>
    have : m ≠ l := fun e => by subst e; simp at h
    simp [this]
theorem Tr.get_node (v : V) (l r : Tr) (k : Nat) : (Tr.node v l r).get k = if k = 0 then v else if k % 2 = 1 then l.get (k / 2) else r.get (k / 2 - 1) := by
  show (Bool.rec (motive := fun _ => V) (Bool.rec (motive := fun _ => V) (r.get (Nat.sub (Nat.div k 2) 1)) (l.get (Nat.div k 2)) (Nat.beq (Nat.mod k 2) 1)) v (Nat.beq k 0)) = _
  rw [brec_ite, brec_ite]
  rfl
theorem Tr.set_node (v : V) (l r : Tr) (k : Nat) (x : V) : (Tr.node v l r).set k x = if k = 0 then .node x l r else if k % 2 = 1 then .node v (l.set (k / 2) x) r else .node v l (r.set (k / 2 - 1) x) := by
  show (Bool.rec (motive := fun _ => Tr) (Bool.rec (motive := fun _ => Tr) (Tr.node v l (r.set (Nat.sub (Nat.div k 2) 1) x)) (Tr.node v (l.set (Nat.div k 2) x) r) (Nat.beq (Nat.mod k 2) 1)) (Tr.node x l r) (Nat.beq k 0)) = _
  rw [brec_ite, brec_ite]
  rfl
theorem Tr.get_set_ne : ∀ (t : Tr) {k j : Nat} {x : V}, k ≠ j → (t.set k x).get j = t.get j
  | .nil, k, j, x, h => rfl
  | .node v l r, k, j, x, h => by
    rw [Tr.set_node]
    by_cases h0 : k = 0
    · have hj : j ≠ 0 := by omega
      rw [if_pos h0, Tr.get_node, Tr.get_node, if_neg hj, if_neg hj]
    · rw [if_neg h0]
      by_cases h1 : k % 2 = 1
      · rw [if_pos h1, Tr.get_node, Tr.get_node]
        by_cases hj : j = 0
        · rw [if_pos hj, if_pos hj]
        · rw [if_neg hj, if_neg hj]
          by_cases hj1 : j % 2 = 1
          · rw [if_pos hj1, if_pos hj1, Tr.get_set_ne l (by omega)]
          · rw [if_neg hj1, if_neg hj1]
      · rw [if_neg h1, Tr.get_node, Tr.get_node]
        by_cases hj : j = 0
        · rw [if_pos hj, if_pos hj]
        · rw [if_neg hj, if_neg hj]
          by_cases hj1 : j % 2 = 1
          · rw [if_pos hj1, if_pos hj1]
          · rw [if_neg hj1, if_neg hj1, Tr.get_set_ne r (by omega)]
theorem Tr.get_set : ∀ (t : Tr) {k : Nat} {x : V}, t.has k → (t.set k x).get k = x
  | .nil, k, x, h => h.elim
  | .node v l r, k, x, h => by
    rw [Tr.set_node]
    rcases h with h | ⟨h1, h2⟩ | ⟨h0, h1, h2⟩
    · rw [if_pos h, Tr.get_node, if_pos h]
    · rw [if_neg (by omega), if_pos h1, Tr.get_node, if_neg (by omega), if_pos h1, Tr.get_set l h2]
    · rw [if_neg h0, if_neg (by omega), Tr.get_node, if_neg h0, if_neg (by omega), Tr.get_set r h2]
theorem Tr.has_set : ∀ (t : Tr) {k j : Nat} {x : V}, t.has j → (t.set k x).has j
  | .nil, k, j, x, h => h
  | .node v l r, k, j, x, h => by
    rw [Tr.set_node]
    by_cases h0 : k = 0
    · rw [if_pos h0]; exact h
    · rw [if_neg h0]
      by_cases h1 : k % 2 = 1
      · rw [if_pos h1]
        rcases h with h | ⟨g1, g2⟩ | h
        · exact .inl h
        · exact .inr (.inl ⟨g1, Tr.has_set l g2⟩)
        · exact .inr (.inr h)
      · rw [if_neg h1]
        rcases h with h | h | ⟨g0, g1, g2⟩
        · exact .inl h
        · exact .inr (.inl h)
        · exact .inr (.inr ⟨g0, g1, Tr.has_set r g2⟩)
theorem Tr.set_comm : ∀ (t : Tr) {k j : Nat} {x y : V}, k ≠ j → (t.set k x).set j y = (t.set j y).set k x
  | .nil, k, j, x, y, h => rfl
  | .node v l r, k, j, x, y, h => by
    rw [Tr.set_node, Tr.set_node]
    by_cases k0 : k = 0
    · have j0 : j ≠ 0 := by omega
      rw [if_pos k0, if_neg j0, Tr.set_node, if_neg j0]
      by_cases j1 : j % 2 = 1
      · rw [if_pos j1, if_pos j1, Tr.set_node, if_pos k0]
      · rw [if_neg j1, if_neg j1, Tr.set_node, if_pos k0]
    · rw [if_neg k0]
      by_cases j0 : j = 0
      · rw [if_pos j0, Tr.set_node, if_neg k0]
        by_cases k1 : k % 2 = 1
        · rw [if_pos k1, if_pos k1, Tr.set_node, if_pos j0]
        · rw [if_neg k1, if_neg k1, Tr.set_node, if_pos j0]
      · rw [if_neg j0]
        by_cases k1 : k % 2 = 1
        · rw [if_pos k1, Tr.set_node, if_neg j0]
          by_cases j1 : j % 2 = 1
          · rw [if_pos j1, if_pos j1, Tr.set_node, if_neg k0, if_pos k1, Tr.set_comm l (by omega)]
          · rw [if_neg j1, if_neg j1, Tr.set_node, if_neg k0, if_pos k1]
        · rw [if_neg k1, Tr.set_node, if_neg j0]
          by_cases j1 : j % 2 = 1
          · rw [if_pos j1, if_pos j1, Tr.set_node, if_neg k0, if_neg k1]
          · rw [if_neg j1, if_neg j1, Tr.set_node, if_neg k0, if_neg k1, Tr.set_comm r (by omega)]
noncomputable def Tr.full (d : Nat) : Tr := Nat.rec (motive := fun _ => Tr) .nil (fun _ t => .node undefV t t) d
theorem Tr.full_has : ∀ (d k : Nat), k + 1 < 2 ^ d → (Tr.full d).has k
  | 0, k, h => by simp at h
  | d + 1, k, h => by
    show (Tr.node undefV (Tr.full d) (Tr.full d)).has k
    rw [Nat.pow_succ] at h
    by_cases h0 : k = 0
    · exact .inl h0
    · by_cases h1 : k % 2 = 1
      · exact .inr (.inl ⟨h1, Tr.full_has d _ (by omega)⟩)
      · exact .inr (.inr ⟨h0, by omega, Tr.full_has d _ (by omega)⟩)
theorem Tr.full_get : ∀ (d k : Nat), (Tr.full d).get k = undefV
  | 0, k => rfl
  | d + 1, k => by
    show (Tr.node undefV (Tr.full d) (Tr.full d)).get k = undefV
    rw [Tr.get_node]
    split
    · rfl
    · split <;> exact Tr.full_get d _
structure Tm where
  n : Nat
  tr : Tr
noncomputable def Tm.get? (tm : Tm) (t : Nat) : Option V := bif Nat.blt t tm.n then some (tm.tr.get t) else none
theorem blt_dec (j i : Nat) : Nat.blt j i = decide (j < i) := by
  cases h : Nat.blt j i with
  | true => unfold Nat.blt at h; have := Nat.le_of_ble_eq_true h; simp; omega
  | false =>
    have : ¬ j < i := fun e => by rw [show Nat.blt j i = true from Nat.ble_eq_true_of_le e] at h; cases h
    simp [this]
theorem Tm.get?_lt {tm : Tm} {t : Nat} (h : t < tm.n) : tm.get? t = some (tm.tr.get t) := by simp [Tm.get?, blt_dec, h]
theorem Tm.get?_ge {tm : Tm} {t : Nat} (h : ¬ t < tm.n) : tm.get? t = none := by simp [Tm.get?, blt_dec, h]
/-- The variables are as the tree says. -/
structure TmOk (ν : Val) (tm : Tm) (a : Act) : Prop where
  size : a.tmps.size = tm.n
  has : ∀ t, t < tm.n → tm.tr.has t
  get : ∀ t, t < tm.n → ∃ u, a.tmps[t]? = some u ∧ V.rel ν (tm.tr.get t) u
theorem TmOk.mono {ν ν' : Val} {tm : Tm} {a : Act} (h : TmOk ν tm a) (k : Ext ν ν') : TmOk ν' tm a :=
  ⟨h.size, h.has, fun t ht => let ⟨u, h1, h2⟩ := h.get t ht; ⟨u, h1, V.rel_mono k _ _ h2⟩⟩
theorem TmOk.at {ν : Val} {tm : Tm} {a : Act} (h : TmOk ν tm a) {t : Nat} {v : V} (ht : tm.get? t = some v) : ∃ u, a.tmps[t]? = some u ∧ V.rel ν v u := by
  by_cases hlt : t < tm.n
  · rw [Tm.get?_lt hlt] at ht
    cases ht
    exact h.get t hlt
  · rw [Tm.get?_ge hlt] at ht
    cases ht
/-- What an operand is. -/
noncomputable def evX (tm : Tm) : Operand → V
  | .tmp t => Bool.rec (motive := fun _ => V) undefV (tm.tr.get t) (Nat.blt t tm.n)
  | .const v => .s v
  | .global g => .s (.pointer (some ⟨g, 0, none⟩))
  | .func f => .s (.func (.func f) #[] #[])
theorem evX_get {tm : Tm} {t : Nat} : evX tm (.tmp t) = (tm.get? t).getD undefV := by
  simp only [evX, Tm.get?]
  cases Nat.blt t tm.n <;> rfl
theorem evX_rel {ν : Val} {tm : Tm} {a : Act} (h : TmOk ν tm a) (x : Operand) : V.rel ν (evX tm x) (a.eval x) := by
  cases x with
  | tmp t =>
    show V.rel ν (Bool.rec (motive := fun _ => V) undefV (tm.tr.get t) (Nat.blt t tm.n)) (a.tmps.getD t undef)
    rw [blt_dec]
    by_cases hlt : t < tm.n
    · obtain ⟨u, h1, h2⟩ := h.get t hlt
      have : a.tmps.getD t undef = u := by simp [h1]
      rw [this]
      simpa [hlt] using h2
    · have : a.tmps.getD t undef = undef := by
        have h1 := h.size
        have h2 : a.tmps.size ≤ t := by rw [h1]; exact Nat.le_of_not_lt hlt
        simp [Array.getElem?_eq_none h2]
      rw [this]
      simp only [hlt, decide_false]
      exact rel_s
  | const v => exact rel_s
  | global g => exact rel_s
  | func f => exact rel_s
noncomputable def putT (tm : Tm) (dst : Option Tmp) (v : V) : Tm := match dst with
  | some d => Tm.rec (motive := fun _ => Tm) (fun n tr => Bool.rec (motive := fun _ => Tm) ⟨n, tr⟩ ⟨n, tr.set d v⟩ (Nat.blt d n)) tm
  | none => tm
theorem putT_some {tm : Tm} {d : Nat} {v : V} : putT tm (some d) v = bif Nat.blt d tm.n then ⟨tm.n, tm.tr.set d v⟩ else tm := by
  cases tm with
  | mk n tr =>
    show (Bool.rec (motive := fun _ => Tm) ⟨n, tr⟩ ⟨n, tr.set d v⟩ (Nat.blt d n)) = _
    cases Nat.blt d n <;> rfl
theorem putT_n {tm : Tm} {dst : Option Tmp} {v : V} : (putT tm dst v).n = tm.n := by
  cases dst with
  | none => rfl
  | some d => simp only [putT_some]; cases Nat.blt d tm.n <;> rfl
theorem putT_get {tm : Tm} {d : Option Tmp} {v : V} {t : Nat} (h : d ≠ some t) : (putT tm d v).get? t = tm.get? t := by
  cases d with
  | none => rfl
  | some e =>
    have hne : e ≠ t := fun x => h (by rw [x])
    simp only [putT_some, Tm.get?]
    cases Nat.blt e tm.n with
    | true => simp only [cond_true]; rw [Tr.get_set_ne _ hne]
    | false => rfl
theorem putT_comm {tm : Tm} {d e : Nat} {v x : V} (h : d ≠ e) : putT (putT tm (some d) v) (some e) x = putT (putT tm (some e) x) (some d) v := by
  simp only [putT_some]
  cases h1 : Nat.blt d tm.n with
  | true =>
    cases h2 : Nat.blt e tm.n with
    | true => simp only [cond_true, h1, h2]; rw [Tr.set_comm _ h]
    | false => simp only [cond_true, cond_false, h1, h2]
  | false =>
    cases h2 : Nat.blt e tm.n with
    | true => simp only [cond_true, cond_false, h1, h2]
    | false => simp only [cond_false, h1, h2]
theorem putT_rels {ν : Val} {tm : Tm} {a : Act} (h : TmOk ν tm a) (dst : Option Tmp) {v : V} {u : Value} (r : V.rel ν v u) : TmOk ν (putT tm dst v) (a.put dst u) := by
  cases dst with
  | none => exact h
  | some d =>
    simp only [putT_some, blt_dec]
    by_cases hd : d < tm.n
    · simp only [hd, decide_true, cond_true]
      refine ⟨by simpa [Act.put] using h.size, fun t ht => Tr.has_set _ (h.has t ht), fun t ht => ?_⟩
      by_cases e : d = t
      · subst e
        refine ⟨u, ?_, ?_⟩
        · have := h.size
          simp [Act.put, this, hd]
        · rw [Tr.get_set _ (h.has d hd)]
          exact r
      · obtain ⟨u', h1, h2⟩ := h.get t ht
        refine ⟨u', ?_, ?_⟩
        · simp only [Act.put]
          rw [Array.getElem?_setIfInBounds_ne e]
          exact h1
        · rw [Tr.get_set_ne _ e]
          exact h2
    · simp only [hd, decide_false, cond_false]
      have e : a.put (some d) u = a := by
        have h1 := h.size
        have h2 : a.tmps.size ≤ d := by rw [h1]; exact Nat.le_of_not_lt hd
        simp only [Act.put]
        rw [Array.setIfInBounds_eq_of_size_le h2]
      rw [e]
      exact h
theorem put_defers {a : Act} {dst : Option Tmp} {u : Value} : (a.put dst u).defers = a.defers := by
  cases dst <;> rfl
/-- Is an operation wanted? -/
noncomputable def wantX (ops : Array Oper) (tm : Tm) (o : Oper) : Option Bool := match o.guard with
  | none => some true
  | some (j, want) => match (ops[j]?).bind (·.dst) with
    | none => some false
    | some t => match tm.get? t with
      | some (.s (.bool b)) => some (b == want)
      | some (.s (.tuple _)) => some false
      | _ => none
theorem wantX_spec {ν : Val} {ops : Array Oper} {tm : Tm} {o : Oper} {b : Bool} {a : Act} (h : wantX ops tm o = some b) (r : TmOk ν tm a) : Region.wanted o (yielded ops a.tmps) = b := by
  unfold wantX at h
  unfold Region.wanted
  cases hg : o.guard with
  | none => rw [hg] at h; cases h; rfl
  | some p =>
    obtain ⟨j, want⟩ := p
    rw [hg] at h
    simp only at h ⊢
    unfold yielded
    cases hd : (ops[j]?).bind (·.dst) with
    | none => rw [hd] at h; cases h; rfl
    | some t =>
      rw [hd] at h
      simp only at h
      split at h
      · rename_i b' hb
        cases h
        obtain ⟨u, h1, h2⟩ := r.at hb
        simp only [V.rel] at h2
        subst h2
        simp only [Option.bind_some, h1]
        cases b' <;> cases want <;> rfl
      · rename_i vs hb
        cases h
        obtain ⟨u, h1, h2⟩ := r.at hb
        simp only [V.rel] at h2
        subst h2
        simp only [Option.bind_some, h1]
        rfl
      · cases h
section
variable (P : Program) (T : Nat → Option (List Value))
/-- Names from here to there are free. -/
def Free (g : Gh) (a b : Nat) : Prop := ∀ id, a ≤ id → id ≤ b → g.ν id = none
theorem Free.sub {g : Gh} {a b c d : Nat} (h : Free g a b) (h1 : a ≤ c) (h2 : d ≤ b) : Free g c d := fun id e1 e2 => h id (by omega) (by omega)
theorem Free.next {g g' : Gh} {n0 lo n1 b : Nat} {w w' : World} (h : Free g n0 b) (k : Fr n0 lo n1 g w g' w') (h0 : n0 ≤ n1) : Free g' n1 b := fun id e1 e2 => by
  rw [k.rng id (.inr e1)]
  exact h id (by omega) e2
/-- What a call of a function comes to. -/
def CallSem (P : Program) (f : FuncId) (us : Array Value) (w : World) (R : Value → World → Prop) : Prop :=
  (∃ u w', (callFunc f us).run P w = .ok (.value u) w' ∧ R u w') ∨ ((callFunc f us).run P w = .ok (.enter f us) w ∧ Calls P f us w fun e w' => ∃ u, e = .returned u ∧ R u w')
abbrev Caller := FuncId → List V → St → Option (V × St)
def After (w0 : Bs) (g : Gh) (S : St) (w : World) (v : V) (S' : St) (u : Value) (w' : World) : Prop := ∃ g', M w0 g' S'.heap w' ∧ Fr S.next S'.low S'.next g w g' w' ∧ V.rel g'.ν v u
def CallOk (P : Program) (w0 : Bs) (call : Caller) : Prop := ∀ f args S v S', call f args S = some (v, S') → (S.next ≤ S'.next ∧ S'.low ≤ S.low) ∧
  ∀ g w us, M w0 g S.heap w → V.rels g.ν args us → Free g S.next S'.next → CallSem P f us.toArray w (After w0 g S w v S')
/-- The function that a value is. -/
def calleeX : V → Option (FuncId × List V × List V)
  | .s (.func (.func f) a c) => some (f, a.toList.map .s, c.toList.map .s)
  | .fn f a c => some (f, a, c)
  | _ => none
/-- One operation, calls too. -/
noncomputable def stepX (call : Caller) (ops : Array Oper) (tm : Tm) (o : Oper) (S : St) : Option (V × St) := match wantX ops tm o with
  | some true => match o.op with
    | .call ⟨.value f, args, _⟩ => match calleeX (evX tm f) with
      | some (fid, first, captured) => call fid (first ++ args.toList.map (evX tm) ++ captured) S
      | none => none
    | _ => match opX P T (evX tm) o S with
      | some (v, f) => St.rec (motive := fun _ => Option (V × St)) (fun h n l => some (v, ⟨h, n, l⟩)) (f.run S)
      | none => none
  | some false => some (undefV, S)
  | none => none
theorem calleeX_spec {ν : Val} {v : V} {u : Value} {f : FuncId} {a c : List V} (h : calleeX v = some (f, a, c)) (r : V.rel ν v u) : ∃ xs ys, u = .func (.func f) xs.toArray ys.toArray ∧ V.rels ν a xs ∧ V.rels ν c ys := by
  unfold calleeX at h
  split at h
  · cases h
    simp only [V.rel] at r
    subst r
    exact ⟨_, _, by simp, rels_lits _, rels_lits _⟩
  · cases h
    simp only [V.rel] at r
    obtain ⟨xs, ys, h1, h2, rfl⟩ := r
    exact ⟨xs, ys, rfl, h1, h2⟩
  · cases h
theorem stepX_mono {w0 : Bs} {call : Caller} (hc : CallOk P w0 call) {ops : Array Oper} {tm : Tm} {o : Oper} {S S' : St} {v : V} (h : stepX P T call ops tm o S = some (v, S')) : S.next ≤ S'.next ∧ S'.low ≤ S.low := by
  unfold stepX at h
  split at h
  · split at h
    · split at h
      · exact (hc _ _ _ _ _ h).1
      · cases h
    · split at h
      · rename_i v' f' _
        have h : some (v', f'.run S) = some (v, S') := h
        cases h
        exact Eff.up _ _
      · cases h
  · cases h
    exact ⟨Nat.le_refl _, Nat.le_refl _⟩
  · cases h
theorem stepX_good {w0 : Bs} (hT : Tab T w0) {call : Caller} (hc : CallOk P w0 call) {ops : Array Oper} {tm : Tm} {o : Oper} {S S' : St} {v : V} (h : stepX P T call ops tm o S = some (v, S')) {g : Gh} {w : World} {a : Act} (hM : M w0 g S.heap w) (ht : TmOk g.ν tm a) (hf : Free g S.next S'.next)
    {K : Act → World → Prop} {Q : Exit → Act → World → Prop} (hK : ∀ u w', After w0 g S w v S' u w' → K (a.put o.dst u) w') :
    if Region.wanted o (yielded ops a.tmps) = true then Oper.wp P o a w K Q else K (a.put o.dst undef) w := by
  have hev := fun x => evX_rel ht x
  have hmono := stepX_mono P T hc h
  unfold stepX at h
  split at h
  · rename_i hw
    rw [if_pos (wantX_spec hw ht)]
    split at h
    · rename_i f args ats hop
      split at h
      · rename_i fid first captured hcal
        obtain ⟨xs, ys, h1, h2, h3⟩ := calleeX_spec hcal (hev f)
        have hargs := rels_append (rels_append h2 (map_rels hev args.toList)) h3
        have := (hc _ _ _ _ _ h).2 g w _ hM hargs hf
        have hrun : execOp a.eval o = callFunc fid (xs ++ args.toList.map a.eval ++ ys).toArray := by
          obtain ⟨dst, op, ty, pos, after, guard⟩ := o
          simp only at hop
          subst hop
          simp only [execOp, resolve, h1, Deferred.ofValue, pure_bind, invoke]
          congr 1
          apply Array.ext'
          simp
        unfold Oper.wp
        rw [hrun]
        rcases this with ⟨u, w', e1, e2⟩ | ⟨e1, e2⟩
        · rw [e1]
          exact hK u w' e2
        · rw [e1]
          refine Calls.mono e2 ?_
          rintro e w' ⟨u, rfl, hR⟩
          exact hK u w' hR
      · cases h
    · split at h
      · rename_i v' f' ho
        have h : some (v', f'.run S) = some (v, S') := h
        cases h
        obtain ⟨nx, u, w', g', e1, e2, e3, e4, e5⟩ := opX_done P T hT hM hev ho (hf _ (Nat.le_refl _) (Eff.up _ _).1)
        unfold Oper.wp
        rw [e1]
        have := hK u w' ⟨g', e3, e4, e5⟩
        rcases e2 with rfl | ⟨rfl, rfl⟩
        · exact this
        · exact this
      · cases h
  · rename_i hw
    rw [if_neg (by rw [wantX_spec hw ht]; decide)]
    cases h
    exact hK undef w ⟨g, hM, Fr.refl _ _ _ _, rel_s⟩
  · cases h
/-- Operations one behind the other. -/
noncomputable def seqX (call : Caller) (ops : Array Oper) : List Oper → Tm → St → Option (Tm × St)
  | [], tm, S => some (tm, S)
  | o :: r, tm, S => match stepX P T call ops tm o S with
    | some (v, S') => seqX call ops r (putT tm o.dst v) S'
    | none => none
/-- What a stretch of code leaves. -/
structure Left (w0 : Bs) (g : Gh) (S : St) (w : World) (tm' : Tm) (S' : St) (g' : Gh) (a' : Act) (w' : World) : Prop where
  m : M w0 g' S'.heap w'
  fr : Fr S.next S'.low S'.next g w g' w'
  tm : TmOk g'.ν tm' a'
  df : a'.defers = []
theorem seqX_mono {w0 : Bs} {call : Caller} (hc : CallOk P w0 call) {ops : Array Oper} : ∀ {l : List Oper} {tm tm' : Tm} {S S' : St}, seqX P T call ops l tm S = some (tm', S') → S.next ≤ S'.next ∧ S'.low ≤ S.low
  | [], tm, tm', S, S', h => by cases h; exact ⟨Nat.le_refl _, Nat.le_refl _⟩
  | o :: r, tm, tm', S, S', h => by
    simp only [seqX] at h
    split at h
    · rename_i v S1 hs
      have h1 := stepX_mono P T hc hs
      have h2 := seqX_mono hc h
      omega
    · cases h
theorem seqX_good {w0 : Bs} (hT : Tab T w0) {call : Caller} (hc : CallOk P w0 call) {ops : Array Oper} {Q : Exit → Act → World → Prop} : ∀ {l : List Oper} {tm tm' : Tm} {S S' : St}, seqX P T call ops l tm S = some (tm', S') →
    ∀ {g : Gh} {w : World} {a : Act}, M w0 g S.heap w → TmOk g.ν tm a → a.defers = [] → Free g S.next S'.next → (∀ g' a' w', Left w0 g S w tm' S' g' a' w' → Q .normal a' w') → wpList P ops Q l a w
  | [], tm, tm', S, S', h, g, w, a, hM, ht, hd, hf, hQ => by
    cases h
    exact wpList_nil (hQ g a w ⟨hM, Fr.refl _ _ _ _, ht, hd⟩)
  | o :: r, tm, tm', S, S', h, g, w, a, hM, ht, hd, hf, hQ => by
    simp only [seqX] at h
    split at h
    · rename_i v S1 hs
      have h1 := stepX_mono P T hc hs
      have h2 := seqX_mono P T hc h
      refine wpList_step fun K hK => ?_
      refine stepX_good P T hT hc hs hM ht (hf.sub (Nat.le_refl _) h2.1) ?_
      rintro u w' ⟨g', e1, e2, e3⟩
      refine hK _ _ (seqX_good hT hc h e1 (putT_rels (ht.mono e2.ext) o.dst e3) (by rw [put_defers]; exact hd) (hf.next e2 h1.1) ?_)
      intro g2 a2 w2 hl
      exact hQ g2 a2 w2 ⟨hl.m, e2.trans hl.fr h2.2 h1.1 h2.1, hl.tm, hl.df⟩
    · cases h
/-- How a stretch of code ends. -/
inductive Ex where
  | normal
  | exit (id : Nat)
  | ret
def Ex.exit' : Ex → Exit
  | .normal => .normal
  | .exit id => .exit id
  | .ret => .ret
noncomputable def loopX (body : Tm → St → Option (Ex × Tm × St)) : Nat → Tm → St → Option (Ex × Tm × St)
  | 0, _, _ => none
  | n + 1, tm, S => match body tm S with
    | some (.normal, tm', S') => loopX body n tm' S'
    | r => r
/-- Code: drawn regions by a machine of their own. -/
noncomputable def codeX (draw : Caller → Array Oper → Tm → St → Option (Tm × St)) (call : Caller) (n : Nat) : Code → Tm → St → Option (Ex × Tm × St)
  | .skip, tm, S => some (.normal, tm, S)
  | .label _, tm, S => some (.normal, tm, S)
  | .exit id, tm, S => some (.exit id, tm, S)
  | .ret, tm, S => some (.ret, tm, S)
  | .region _ ops d, tm, S => match (bif d then draw call ops tm S else seqX P T call ops ops.toList tm S) with
    | some (tm', S') => some (.normal, tm', S')
    | none => none
  | .seq a b, tm, S => match codeX draw call n a tm S with
    | some (.normal, tm', S') => codeX draw call n b tm' S'
    | r => r
  | .cond c t e, tm, S => match evX tm c with
    | .s (.bool true) => codeX draw call n t tm S
    | .s (.bool false) => codeX draw call n e tm S
    | _ => none
  | .block id c, tm, S => match codeX draw call n c tm S with
    | some (.exit i, tm', S') => some (bif Nat.beq i id then .normal else .exit i, tm', S')
    | r => r
  | .loop c, tm, S => loopX (codeX draw call n c) n tm S
  | _, _, _ => none
def BodyOk (P : Program) (w0 : Bs) (c : Code) (body : Tm → St → Option (Ex × Tm × St)) : Prop := ∀ tm S ex tm' S', body tm S = some (ex, tm', S') → (S.next ≤ S'.next ∧ S'.low ≤ S.low) ∧
  ∀ g w a, M w0 g S.heap w → TmOk g.ν tm a → a.defers = [] → Free g S.next S'.next → ∀ Q, (∀ g' a' w', Left w0 g S w tm' S' g' a' w' → Q ex.exit' a' w') → c.wp P Q a w
def DrawOk (P : Program) (w0 : Bs) (draw : Caller → Array Oper → Tm → St → Option (Tm × St)) : Prop := ∀ call, CallOk P w0 call → ∀ ops tm S tm' S', draw call ops tm S = some (tm', S') → (S.next ≤ S'.next ∧ S'.low ≤ S.low) ∧
  ∀ g w a, M w0 g S.heap w → TmOk g.ν tm a → a.defers = [] → Free g S.next S'.next → ∀ Q id, (∀ g' a' w', Left w0 g S w tm' S' g' a' w' → Q .normal a' w') → (Code.region id ops true).wp P Q a w
theorem Left.trans {w0 : Bs} {g g1 g2 : Gh} {S S1 S2 : St} {w w1 w2 : World} {tm1 tm2 : Tm} {a1 a2 : Act} (h : Left w0 g S w tm1 S1 g1 a1 w1) (k : Left w0 g1 S1 w1 tm2 S2 g2 a2 w2) (h1 : S.next ≤ S1.next) (h2 : S1.next ≤ S2.next) (h3 : S2.low ≤ S1.low) : Left w0 g S w tm2 S2 g2 a2 w2 :=
  ⟨k.m, h.fr.trans k.fr h3 h1 h2, k.tm, k.df⟩
theorem loop_ok {w0 : Bs} {c : Code} {body : Tm → St → Option (Ex × Tm × St)} (hb : BodyOk P w0 c body) : ∀ (n : Nat) tm S ex tm' S', loopX body n tm S = some (ex, tm', S') → (S.next ≤ S'.next ∧ S'.low ≤ S.low) ∧
    ∀ g w a, M w0 g S.heap w → TmOk g.ν tm a → a.defers = [] → Free g S.next S'.next → ∀ Q, (∀ g' a' w', Left w0 g S w tm' S' g' a' w' → Q ex.exit' a' w') → Code.rounds P c Q n a w
  | 0, tm, S, ex, tm', S', h => by cases h
  | n + 1, tm, S, ex, tm', S', h => by
    simp only [loopX] at h
    cases hbd : body tm S with
    | none => rw [hbd] at h; cases h
    | some r =>
      obtain ⟨e1, tm1, S1⟩ := r
      obtain ⟨⟨m1, m2⟩, hw⟩ := hb _ _ _ _ _ hbd
      rw [hbd] at h
      cases e1 with
      | normal =>
        simp only at h
        obtain ⟨⟨m3, m4⟩, hw2⟩ := loop_ok hb n _ _ _ _ _ h
        refine ⟨by omega, fun g w a hM ht hd hf Q hQ => ?_⟩
        rw [rounds_succ]
        refine hw g w a hM ht hd (hf.sub (Nat.le_refl _) m3) _ fun g1 a1 w1 hl => ?_
        exact hw2 g1 w1 a1 hl.m hl.tm hl.df (hf.next hl.fr m1) Q fun g2 a2 w2 hl2 => hQ g2 a2 w2 (hl.trans hl2 m1 m3 m4)
      | exit id =>
        cases h
        refine ⟨⟨m1, m2⟩, fun g w a hM ht hd hf Q hQ => ?_⟩
        rw [rounds_succ]
        exact hw g w a hM ht hd hf _ fun g1 a1 w1 hl => hQ g1 a1 w1 hl
      | ret =>
        cases h
        refine ⟨⟨m1, m2⟩, fun g w a hM ht hd hf Q hQ => ?_⟩
        rw [rounds_succ]
        exact hw g w a hM ht hd hf _ fun g1 a1 w1 hl => hQ g1 a1 w1 hl
theorem code_ok {w0 : Bs} (hT : Tab T w0) {draw : Caller → Array Oper → Tm → St → Option (Tm × St)} (hdr : DrawOk P w0 draw) {call : Caller} (hc : CallOk P w0 call) (n : Nat) : ∀ c, BodyOk P w0 c (codeX P T draw call n c) := by
  intro c
  induction c with
  | skip =>
    intro tm S ex tm' S' h
    cases h
    exact ⟨⟨Nat.le_refl _, Nat.le_refl _⟩, fun g w a hM ht hd hf Q hQ => wp_skip (hQ g a w ⟨hM, Fr.refl _ _ _ _, ht, hd⟩)⟩
  | label l =>
    intro tm S ex tm' S' h
    cases h
    exact ⟨⟨Nat.le_refl _, Nat.le_refl _⟩, fun g w a hM ht hd hf Q hQ => wp_label (hQ g a w ⟨hM, Fr.refl _ _ _ _, ht, hd⟩)⟩
  | exit id =>
    intro tm S ex tm' S' h
    cases h
    exact ⟨⟨Nat.le_refl _, Nat.le_refl _⟩, fun g w a hM ht hd hf Q hQ => wp_exit (hQ g a w ⟨hM, Fr.refl _ _ _ _, ht, hd⟩)⟩
  | ret =>
    intro tm S ex tm' S' h
    cases h
    exact ⟨⟨Nat.le_refl _, Nat.le_refl _⟩, fun g w a hM ht hd hf Q hQ => wp_ret (hQ g a w ⟨hM, Fr.refl _ _ _ _, ht, hd⟩)⟩
  | region id ops d =>
    intro tm S ex tm' S' h
    simp only [codeX] at h
    cases d with
    | true =>
      simp only [cond_true] at h
      split at h
      · rename_i tm1 S1 hs
        cases h
        obtain ⟨h1, h2⟩ := hdr call hc _ _ _ _ _ hs
        exact ⟨h1, fun g w a hM ht hd hf Q hQ => h2 g w a hM ht hd hf Q id hQ⟩
      · cases h
    | false =>
      simp only [cond_false] at h
      split at h
      · rename_i tm1 S1 hs
        cases h
        exact ⟨seqX_mono P T hc hs, fun g w a hM ht hd hf Q hQ => wp_region_list (seqX_good P T hT hc hs hM ht hd hf hQ)⟩
      · cases h
  | seq x y ihx ihy =>
    intro tm S ex tm' S' h
    simp only [codeX] at h
    cases hx : codeX P T draw call n x tm S with
    | none => rw [hx] at h; cases h
    | some r =>
      obtain ⟨e1, tm1, S1⟩ := r
      rw [hx] at h
      obtain ⟨⟨m1, m2⟩, hw⟩ := ihx _ _ _ _ _ hx
      cases e1 with
      | normal =>
        simp only at h
        obtain ⟨⟨m3, m4⟩, hw2⟩ := ihy _ _ _ _ _ h
        refine ⟨by omega, fun g w a hM ht hd hf Q hQ => wp_seq ?_⟩
        refine hw g w a hM ht hd (hf.sub (Nat.le_refl _) m3) _ fun g1 a1 w1 hl => ?_
        exact hw2 g1 w1 a1 hl.m hl.tm hl.df (hf.next hl.fr m1) Q fun g2 a2 w2 hl2 => hQ g2 a2 w2 (hl.trans hl2 m1 m3 m4)
      | exit id =>
        cases h
        exact ⟨⟨m1, m2⟩, fun g w a hM ht hd hf Q hQ => wp_seq (hw g w a hM ht hd hf _ fun g1 a1 w1 hl => hQ g1 a1 w1 hl)⟩
      | ret =>
        cases h
        exact ⟨⟨m1, m2⟩, fun g w a hM ht hd hf Q hQ => wp_seq (hw g w a hM ht hd hf _ fun g1 a1 w1 hl => hQ g1 a1 w1 hl)⟩
  | cond c t e iht ihe =>
    intro tm S ex tm' S' h
    simp only [codeX] at h
    split at h
    · rename_i hcv
      obtain ⟨m, hw⟩ := iht _ _ _ _ _ h
      refine ⟨m, fun g w a hM ht hd hf Q hQ => ?_⟩
      have hev := evX_rel ht c
      rw [hcv] at hev
      simp only [V.rel] at hev
      exact wp_cond_true hev (hw g w a hM ht hd hf Q hQ)
    · rename_i hcv
      obtain ⟨m, hw⟩ := ihe _ _ _ _ _ h
      refine ⟨m, fun g w a hM ht hd hf Q hQ => ?_⟩
      have hev := evX_rel ht c
      rw [hcv] at hev
      simp only [V.rel] at hev
      exact wp_cond_false hev (hw g w a hM ht hd hf Q hQ)
    · cases h
  | block id c ih =>
    intro tm S ex tm' S' h
    simp only [codeX] at h
    cases hx : codeX P T draw call n c tm S with
    | none => rw [hx] at h; cases h
    | some r =>
      obtain ⟨e1, tm1, S1⟩ := r
      rw [hx] at h
      obtain ⟨m, hw⟩ := ih _ _ _ _ _ hx
      cases e1 with
      | normal =>
        cases h
        exact ⟨m, fun g w a hM ht hd hf Q hQ => wp_block (hw g w a hM ht hd hf _ fun g1 a1 w1 hl => hQ g1 a1 w1 hl)⟩
      | ret =>
        cases h
        exact ⟨m, fun g w a hM ht hd hf Q hQ => wp_block (hw g w a hM ht hd hf _ fun g1 a1 w1 hl => hQ g1 a1 w1 hl)⟩
      | exit i =>
        cases h
        refine ⟨m, fun g w a hM ht hd hf Q hQ => wp_block (hw g w a hM ht hd hf _ fun g1 a1 w1 hl => ?_)⟩
        have := hQ g1 a1 w1 hl
        simp only [Ex.exit', Exit.inBlock]
        cases hi : Nat.beq i id with
        | true =>
          rw [hi] at this
          rw [if_pos (Nat.eq_of_beq_eq_true hi)]
          exact this
        | false =>
          rw [hi] at this
          rw [if_neg (fun e => by subst e; simp at hi)]
          exact this
  | loop c ih =>
    intro tm S ex tm' S' h
    obtain ⟨m, hw⟩ := loop_ok P ih n _ _ _ _ _ h
    exact ⟨m, fun g w a hM ht hd hf Q hQ => wp_loop_rounds n (hw g w a hM ht hd hf Q hQ)⟩
  | rangeFunc f ps asg body => intro tm S ex tm' S' h; cases h
  | scope body => intro tm S ex tm' S' h; cases h
  | goto l => intro tm S ex tm' S' h; cases h
  | refuse why => intro tm S ex tm' S' h; cases h
end
end Go.Proofs.YtmpmbnmldmpmiaaGreatDoor.Sim
set_option linter.unusedVariables false
set_option linter.unusedSimpArgs false
namespace Go.Proofs.YtmpmbnmldmpmiaaGreatDoor.Sim
open Go Go.RowKit
/-- The functions: those with a body; those without, by what they answer. -/
structure Env (P : Program) where
  fn : FuncId → Option Func
  ext : FuncId → Option (Array Value → Sem Value)
  idf : FuncId → Bool
  mnz : FuncId → Option TypeId
  fn_ok : ∀ f F, fn f = some F → P.funcs[f]? = some F ∧ (F.name == "runtime.NumGoroutine") = false
  ext_ok : ∀ f e, ext f = some e → ∀ args w, (callFunc f args).run P w = (do pure (.value (← e args)) : Sem Next).run P w
  idf_ok : ∀ f, idf f = true → ∀ x w, (callFunc f #[x]).run P w = .ok (.value x) w
  mnz_ok : ∀ f e, mnz f = some e → ∀ (n : Int) w, 0 ≤ n → n ≤ 1000000 → ∃ (c : Nat) (w' : World), n.toNat ≤ c ∧ ∃ l : List Value, l.length = c ∧ w'.heap = w.heap ∧ w'.os = w.os ∧ w'.tape = w.tape ∧ w'.output = w.output ∧ (callFunc f #[.int .i64 n]).run P w = .ok (.value (.slice (some ⟨w.heap.size, 0, none⟩) n.toNat c)) (w'.alloc (.cells l.toArray e))
section
variable (P : Program) (T : Nat → Option (List Value))
/-- The results. -/
noncomputable def resX : List ResultVar → Tm → Heap → Option (List V)
  | [], _, _ => some []
  | .tmp t :: r, tm, H => match resX r tm H with
    | some l => some (evX tm (.tmp t) :: l)
    | none => none
  | .cell a t :: r, tm, H => match loadX P T t (evX tm (.tmp a)) H, resX r tm H with
    | some v, some l => some (v :: l)
    | _, _ => none
def resOne (tmps : Array Value) : ResultVar → Sem Value
  | .tmp t => pure (tmps.getD t undef)
  | .cell b t => do loadVar t (← asAddr (tmps.getD b undef))
theorem results_eq (F : Func) (tmps : Array Value) : results F tmps = (do
    let vs ← F.results.mapM (resOne tmps)
    pure (if h : vs.size = 1 then vs[0] else .tuple vs)) := rfl
def packX : List V → V
  | [v] => v
  | l => mkTup l
theorem resX_run {w0 : Bs} {g : Gh} {S : St} {w : World} (hT : Tab T w0) (hM : M w0 g S.heap w) {tm : Tm} {a : Act} (ht : TmOk g.ν tm a) : ∀ (rs : List ResultVar) (l : List V), resX P T rs tm S.heap = some l →
    ∃ us, (rs.mapM (resOne a.tmps)).run P w = .ok us w ∧ V.rels g.ν l us
  | [], l, h => by cases h; exact ⟨[], rfl, rels_nil⟩
  | .tmp t :: r, l, h => by
    simp only [resX] at h
    split at h
    · rename_i l' hl
      cases h
      obtain ⟨us, h1, h2⟩ := resX_run hT hM ht r l' hl
      refine ⟨a.tmps.getD t undef :: us, ?_, rels_cons (evX_rel ht (.tmp t)) h2⟩
      simp only [List.mapM_cons, resOne, Sem.run_bind, Sem.run_pure, Result.andThen_ok, h1]
    · cases h
  | .cell b t :: r, l, h => by
    simp only [resX] at h
    split at h
    · rename_i v l' hv hl
      cases h
      obtain ⟨us, h1, h2⟩ := resX_run hT hM ht r l' hl
      have hev := evX_rel ht (.tmp b)
      obtain ⟨⟨x, hx⟩, y, e1, e2⟩ := loadX_run P T hT hM hv hev
      have hx' : a.tmps.getD b undef = .pointer (some x) := hx
      have e1' : (loadVar t x).run P w = .ok y w := by
        have : (Instr.loadAt t (a.eval (.tmp b))).run P w = (loadVar t x).run P w := by rw [hx]; rfl
        rw [← this]
        exact e1
      refine ⟨y :: us, ?_, rels_cons e2 h2⟩
      simp only [List.mapM_cons, resOne, Sem.run_bind, Sem.run_pure, Result.andThen_ok, h1, hx', asAddr, e1']
    · cases h
theorem packX_run {w0 : Bs} {g : Gh} {S : St} {w : World} (hT : Tab T w0) (hM : M w0 g S.heap w) {tm : Tm} {a : Act} (ht : TmOk g.ν tm a) {F : Func} {l : List V} (h : resX P T F.results.toList tm S.heap = some l) :
    ∃ u, (results F a.tmps).run P w = .ok u w ∧ V.rel g.ν (packX l) u := by
  obtain ⟨us, h1, h2⟩ := resX_run P T hT hM ht _ _ h
  have hl := rels_length h2
  refine ⟨if h : us.toArray.size = 1 then us.toArray[0] else .tuple us.toArray, ?_, ?_⟩
  · rw [results_eq, Array.mapM_eq_mapM_toList]
    simp only [Sem.run_bind, Sem.run_map, h1, Result.andThen_ok, Sem.run_pure]
  · match l, us, h2, hl with
    | [v], [u], h2, _ =>
      simp only [V.rels] at h2
      obtain ⟨x, xs, h3, h4, h5⟩ := h2
      cases h5
      simpa [packX] using h3
    | [], [], h2, _ => exact mkTup_rel h2
    | v1 :: v2 :: r, u1 :: u2 :: s, h2, _ =>
      rw [dif_neg (by simp)]
      exact mkTup_rel h2
noncomputable def fillT : List V → Nat → Tr → Tr
  | [], _, t => t
  | v :: r, i, t => fillT r (i + 1) (t.set i v)
/-- The variables as a call begins. -/
noncomputable def mkTm (args : List V) (n : Nat) : Tm := ⟨n, fillT args 0 (Tr.full 11)⟩
theorem fillT_has : ∀ (l : List V) (i : Nat) (t : Tr) (j : Nat), t.has j → (fillT l i t).has j
  | [], i, t, j, h => h
  | v :: r, i, t, j, h => fillT_has r (i + 1) _ j (Tr.has_set _ h)
theorem fillT_lt : ∀ (l : List V) (i : Nat) (t : Tr) (j : Nat), j < i → (fillT l i t).get j = t.get j
  | [], i, t, j, h => rfl
  | v :: r, i, t, j, h => by
    show (fillT r (i + 1) (t.set i v)).get j = _
    rw [fillT_lt r (i + 1) _ j (by omega), Tr.get_set_ne _ (by omega)]
theorem fillT_get : ∀ (l : List V) (i : Nat) (t : Tr) (j : Nat) (v : V), t.has (i + j) → l[j]? = some v → (fillT l i t).get (i + j) = v
  | [], i, t, j, v, h, e => by simp at e
  | x :: r, i, t, 0, v, h, e => by
    simp at e
    subst e
    show (fillT r (i + 1) (t.set i x)).get (i + 0) = _
    rw [fillT_lt r (i + 1) _ _ (by omega)]
    exact Tr.get_set _ h
  | x :: r, i, t, j + 1, v, h, e => by
    show (fillT r (i + 1) (t.set i x)).get (i + (j + 1)) = _
    rw [show i + (j + 1) = i + 1 + j by omega]
    exact fillT_get r (i + 1) _ j v (Tr.has_set _ (by rw [show i + 1 + j = i + (j + 1) by omega]; exact h)) (by simpa using e)
theorem fillT_ge : ∀ (l : List V) (i : Nat) (t : Tr) (j : Nat), i + l.length ≤ j → (fillT l i t).get j = t.get j
  | [], i, t, j, h => rfl
  | v :: r, i, t, j, h => by
    simp only [List.length_cons] at h
    show (fillT r (i + 1) (t.set i v)).get j = _
    rw [fillT_ge r (i + 1) _ j (by omega), Tr.get_set_ne _ (by omega)]
theorem mkTm_ok {ν : Val} {args : List V} {us : List Value} {n : Nat} (h : V.rels ν args us) (h1 : args.length ≤ n) (h2 : n ≤ 2000) : TmOk ν (mkTm args n) { tmps := us.toArray ++ Array.replicate (n - us.toArray.size) undef, defers := [] } := by
  have hl := rels_length h
  have hfull : ∀ t, t < n → (Tr.full 11).has t := fun t ht => Tr.full_has 11 t (by have : (2 : Nat) ^ 11 = 2048 := by decide
                                                                                   omega)
  refine ⟨by simp [mkTm]; omega, fun t ht => fillT_has _ _ _ _ (hfull t ht), fun t ht => ?_⟩
  have ht : t < n := ht
  rcases Nat.lt_or_ge t args.length with h3 | h3
  · have he : args[t]? = some args[t] := List.getElem?_eq_getElem h3
    obtain ⟨u, g1, g2⟩ := rels_get h he
    refine ⟨u, ?_, ?_⟩
    · rw [Array.getElem?_append_left (by simp; omega)]
      simpa using g1
    · have := fillT_get args 0 (Tr.full 11) t args[t] (by rw [Nat.zero_add]; exact hfull t ht) he
      rw [Nat.zero_add] at this
      show V.rel ν ((fillT args 0 (Tr.full 11)).get t) u
      rw [this]
      exact g2
  · refine ⟨undef, ?_, ?_⟩
    · rw [Array.getElem?_append_right (by simp; omega), Array.getElem?_replicate]
      simp
      omega
    · show V.rel ν ((fillT args 0 (Tr.full 11)).get t) undef
      rw [fillT_ge _ _ _ _ (by omega), Tr.full_get]
      exact rel_s
def isS : V → Bool
  | .s _ => true
  | _ => false
/-- What a call leaves: where it answers a plain value and has written to no elder block, its blocks are forgotten. -/
def fin (S S' : St) (v : V) : St := ⟨bif isS v && Nat.beq S'.low S.next then S.heap else S'.heap, S'.next, lower S'.low S.low⟩
variable (E : Env P) (draw : Caller → Array Oper → Tm → St → Option (Tm × St)) (k : Nat)
def extX (e : Array Value → Sem Value) (args : List V) (S : St) : Option (V × St) := match lits args with
  | some l => match purely P (e l.toArray) with
    | some v => some (.s v, S)
    | none => none
  | none => none
def idX (args : List V) (S : St) : Option (V × St) := match args with
  | [x] => some (x, S)
  | _ => none
def mnzX (e : TypeId) (args : List V) (S : St) : Option (V × St) := match args with
  | [.s (.int .i64 m)] => bif decide (0 ≤ m) && decide (m ≤ 1000000) then some (.slc S.next 0 m.toNat none, ⟨(S.next, .row [] e (some 1) .no) :: S.heap, S.next + 1, S.low⟩) else none
  | _ => none
noncomputable def bodyX (call : Caller) (f : FuncId) (args : List V) (S : St) : Option (V × St) := match E.fn f with
  | some F => match F.body with
    | some c => bif Nat.ble args.length F.ntmps && Nat.ble F.ntmps 2000 then (match codeX P T draw call k c (mkTm args F.ntmps) ⟨S.heap, S.next, S.next⟩ with
      | some (.normal, tm, S') => match resX P T F.results.toList tm S'.heap with
        | some l => some (packX l, fin S S' (packX l))
        | none => none
      | some (.ret, tm, S') => match resX P T F.results.toList tm S'.heap with
        | some l => some (packX l, fin S S' (packX l))
        | none => none
      | _ => none) else none
    | none => none
  | none => none
noncomputable def callX : Nat → Caller
  | 0, _, _, _ => none
  | n + 1, f, args, S => match E.ext f with
    | some e => extX P e args S
    | none => match E.idf f with
      | true => idX args S
      | false => match E.mnz f with
        | some e => mnzX e args S
        | none => bodyX P T E draw k (callX n) f args S
theorem callX_ok {w0 : Bs} (hT : Tab T w0) (hdr : DrawOk P w0 draw) : ∀ n, CallOk P w0 (callX P T E draw k n)
  | 0 => fun f args S v S' h => by cases h
  | n + 1 => by
    have ih := callX_ok hT hdr n
    intro f args S v S' h
    unfold callX at h
    split at h
    · rename_i e he
      unfold extX at h
      split at h
      · rename_i l hl
        split at h
        · rename_i x hx
          cases h
          refine ⟨⟨Nat.le_refl _, Nat.le_refl _⟩, fun g w us hM hr hf => .inl ⟨x, w, ?_, g, hM, Fr.refl _ _ _ _, rel_s⟩⟩
          rw [E.ext_ok f e he, lits_rels hl hr]
          simp only [Sem.run_bind, purely_run hx w, Result.andThen_ok, Sem.run_pure]
        · cases h
      · cases h
    · split at h
      · rename_i hid
        unfold idX at h
        split at h
        · cases h
          refine ⟨⟨Nat.le_refl _, Nat.le_refl _⟩, fun g w us hM hr hf => ?_⟩
          simp only [V.rels] at hr
          obtain ⟨u, xs, h1, h2, rfl⟩ := hr
          subst h2
          exact .inl ⟨u, w, E.idf_ok f hid u w, g, hM, Fr.refl _ _ _ _, h1⟩
        · cases h
      · split at h
        · rename_i e hmz
          unfold mnzX at h
          split at h
          · rename_i m
            cases hb : (decide (0 ≤ m) && decide (m ≤ 1000000)) with
            | false => rw [hb] at h; cases h
            | true =>
              rw [hb] at h
              cases h
              simp only [Bool.and_eq_true, decide_eq_true_eq] at hb
              refine ⟨⟨Nat.le_succ _, Nat.le_refl _⟩, fun g w us hM hr hf => ?_⟩
              simp only [V.rels, V.rel] at hr
              obtain ⟨u, xs, rfl, h2, rfl⟩ := hr
              subst h2
              obtain ⟨c, w', hc, l, hl, e1, e2, e3, e4, e5⟩ := E.mnz_ok f e hmz m w hb.1 hb.2
              have hn := hf S.next (Nat.le_refl _) (Nat.le_succ _)
              have hM' : M w0 g S.heap w' := ⟨fun id b hb => by rw [e1]; exact hM.blk id b hb, fun k id hk => by rw [e1]; exact hM.mine k id hk, ⟨⟨by rw [e2]; exact hM.base.bel.os, by rw [e3]; exact hM.base.bel.tape, by rw [e4]; exact hM.base.bel.output, by rw [e1]; exact hM.base.bel.size, fun k hk => by rw [e1]; exact hM.base.bel.block k hk⟩, fun k cs e fr h1 h2 => by rw [e1]; exact hM.base.fast k cs e fr h1 h2, by rw [e1]; exact hM.base.top⟩⟩
              have hsz : w'.heap.size = w.heap.size := by rw [e1]
              refine .inl ⟨_, _, e5, g.add S.next w'.heap.size c, hM'.alloc hn ⟨[], l, (0, 0), rels_nil, rfl, rfl, by simp [hl]⟩, ?_, ?_⟩
              · have := Fr.alloc (w := w') (c := c) (lo := S.low) hn (.cells l.toArray e)
                refine ⟨this.ext, this.rng, by have := this.size; rw [hsz] at this; exact this, fun j hj hd => ?_⟩
                have := this.old j (by omega) hd
                rw [← e1]
                exact this
              · simp only [V.rel]
                exact ⟨_, _, Gh.add_same, by rw [hsz]; rfl⟩
          · cases h
        · unfold bodyX at h
          split at h
          rotate_left
          · cases h
          rename_i F hF
          split at h
          rotate_left
          · cases h
          rename_i c hb
          cases hsz : (Nat.ble args.length F.ntmps && Nat.ble F.ntmps 2000) with
          | false => rw [hsz] at h; cases h
          | true =>
          rw [hsz] at h
          simp only [cond_true] at h
          simp only [Bool.and_eq_true] at hsz
          have hs1 := Nat.le_of_ble_eq_true hsz.1
          have hs2 := Nat.le_of_ble_eq_true hsz.2
          have key : ∀ ex tm S1 l, (ex = Ex.normal ∨ ex = Ex.ret) → codeX P T draw (callX P T E draw k n) k c (mkTm args F.ntmps) ⟨S.heap, S.next, S.next⟩ = some (ex, tm, S1) → resX P T F.results.toList tm S1.heap = some l → v = packX l → S' = fin S S1 (packX l) →
              (S.next ≤ S'.next ∧ S'.low ≤ S.low) ∧ ∀ g w us, M w0 g S.heap w → V.rels g.ν args us → Free g S.next S'.next → CallSem P f us.toArray w (After w0 g S w v S') := by
            intro ex tm S1 l hex hcode hres hv hS'
            subst hv
            subst hS'
            obtain ⟨⟨m1, m2⟩, hw⟩ := code_ok P T hT hdr ih k c _ _ _ _ _ hcode
            refine ⟨⟨m1, by simp only [fin, lower_eq]; omega⟩, fun g w us hM hr hf => .inr ⟨?_, ?_⟩⟩
            · obtain ⟨f1, f2⟩ := E.fn_ok f F hF
              unfold callFunc
              simp only [Sem.run_bind, run_program, Result.andThen_ok, f1, f2, hb, Option.isNone_some, Bool.false_eq_true, if_false, Sem.run_pure]
            · refine calls_of_wp (E.fn_ok f F hF).1 hb ?_
              have ht := mkTm_ok hr hs1 hs2
              refine hw g w _ hM ht rfl hf _ fun g1 a1 w1 hleft => ?_
              obtain ⟨u, hu1, hu2⟩ := packX_run P T (S := S1) hT hleft.m hleft.tm hres
              have hR : After w0 g S w (packX l) (fin S S1 (packX l)) u w1 := by
                have hfr : Fr S.next (fin S S1 (packX l)).low (fin S S1 (packX l)).next g w g1 w1 := hleft.fr.weaken (by simp only [fin, lower_eq]; omega) (Nat.le_refl _)
                refine ⟨g1, ?_, hfr, hu2⟩
                simp only [fin]
                cases hfin : (isS (packX l) && Nat.beq S1.low S.next) with
                | false => exact hleft.m
                | true =>
                  simp only [Bool.and_eq_true] at hfin
                  have hlow := Nat.eq_of_beq_eq_true hfin.2
                  refine hM.keep hleft.fr hleft.m fun id p hp => ?_
                  rw [hlow]
                  rcases Nat.lt_or_ge id S.next with h1 | h1
                  · exact .inl h1
                  · rcases Nat.lt_or_ge id S1.next with h2 | h2
                    · have := hf id h1 (Nat.le_of_lt h2)
                      rw [this] at hp
                      cases hp
                    · exact .inr h2
              rcases hex with rfl | rfl
              · exact ⟨hleft.df, u, hu1, u, rfl, hR⟩
              · exact ⟨hleft.df, u, hu1, u, rfl, hR⟩
          split at h
          · rename_i tm S1 hcode
            split at h
            · rename_i l hres
              cases h
              exact key _ _ _ _ (.inl rfl) hcode hres rfl rfl
            · cases h
          · rename_i tm S1 hcode
            split at h
            · rename_i l hres
              cases h
              exact key _ _ _ _ (.inr rfl) hcode hres rfl rfl
            · cases h
          · cases h
end
end Go.Proofs.YtmpmbnmldmpmiaaGreatDoor.Sim
set_option linter.unusedVariables false
set_option linter.unusedSimpArgs false
namespace Go.Proofs.YtmpmbnmldmpmiaaGreatDoor.Sim
open Go Go.RowKit
def depsX (o : Oper) : List Nat := (o.after.toList.filter fun e => Region.binds .any e).map (·.on)
def maskX (ancs : List Nat) : List Nat → Nat
  | [] => 0
  | j :: r => Nat.lor (Nat.lor (2 ^ j) ((ancs[j]?).getD 0)) (maskX ancs r)
/-- What must come ahead of each operation. -/
def ancsX : List Oper → List Nat → List Nat
  | [], acc => acc
  | o :: r, acc => ancsX r (acc ++ [maskX acc (depsX o)])
def bit (m k : Nat) : Bool := Nat.testBit m k
theorem mask_bit {ancs : List Nat} {k : Nat} : ∀ {l : List Nat}, (maskX ancs l).testBit k = true → ∃ j ∈ l, k = j ∨ ((ancs[j]?).getD 0).testBit k = true
  | [], h => by simp [maskX] at h
  | j :: r, h => by
    have h' : ((2 ^ j ||| (ancs[j]?).getD 0) ||| maskX ancs r).testBit k = true := h
    rw [Nat.testBit_or, Nat.testBit_or] at h'
    simp only [Bool.or_eq_true] at h'
    rcases h' with (h1 | h1) | h1
    · rw [Nat.testBit_two_pow] at h1
      exact ⟨j, List.mem_cons_self, .inl (by simpa using (of_decide_eq_true h1).symm)⟩
    · exact ⟨j, List.mem_cons_self, .inr h1⟩
    · obtain ⟨i, hi, h2⟩ := mask_bit h1
      exact ⟨i, List.mem_cons_of_mem _ hi, h2⟩
/-- The masks are right, and each operation hangs on elder ones alone. -/
def ancOk (ancs : List Nat) : Nat → List Oper → Bool
  | _, [] => true
  | i, o :: r => Nat.beq ((ancs[i]?).getD 0) (maskX ancs (depsX o)) && (depsX o).all (fun j => Nat.blt j i) && ancOk ancs (i + 1) r
theorem ancOk_spec {ancs : List Nat} : ∀ {l : List Oper} {i : Nat}, ancOk ancs i l = true → ∀ j o, l[j]? = some o → (ancs[i + j]?).getD 0 = maskX ancs (depsX o) ∧ ∀ d ∈ depsX o, d < i + j
  | [], i, h, j, o, e => by simp at e
  | p :: r, i, h, j, o, e => by
    simp only [ancOk, Bool.and_eq_true] at h
    obtain ⟨⟨h1, h2⟩, h3⟩ := h
    cases j with
    | zero =>
      simp at e
      subst e
      refine ⟨Nat.eq_of_beq_eq_true h1, fun d hd => ?_⟩
      have := List.all_eq_true.1 h2 d hd
      unfold Nat.blt at this
      exact Nat.le_of_ble_eq_true this
    | succ j =>
      simp at e
      have := ancOk_spec h3 j o e
      rw [show i + (j + 1) = i + 1 + j by omega]
      exact this
/-- Those from a place on hang on all ahead of it. -/
def wallOk (ancs : List Nat) (b : Nat) (n : Nat) : Bool := (List.range (n - b)).all fun j => Nat.beq (Nat.land ((ancs[b + j]?).getD 0) (2 ^ b - 1)) (2 ^ b - 1)
theorem wallOk_spec {ancs : List Nat} {b n : Nat} (h : wallOk ancs b n = true) {i k : Nat} (h1 : b ≤ i) (h2 : i < n) (hk : k < b) : ((ancs[i]?).getD 0).testBit k = true := by
  have := List.all_eq_true.1 h (i - b) (by simp; omega)
  have := Nat.eq_of_beq_eq_true this
  rw [show b + (i - b) = i by omega] at this
  have h3 : (((ancs[i]?).getD 0) &&& (2 ^ b - 1)).testBit k = (2 ^ b - 1).testBit k := by
    have h4 : ((ancs[i]?).getD 0) &&& (2 ^ b - 1) = 2 ^ b - 1 := this
    rw [h4]
  rw [Nat.testBit_and, Nat.testBit_two_pow_sub_one] at h3
  simpa [hk] using h3
/-- Two of a stretch hang on each other or do not meet. -/
def pairsOk (ops : Array Oper) (ancs : List Nat) : Nat → List Oper → Bool
  | _, [] => true
  | i, o :: r => (r.zipIdx (i + 1)).all (fun p => bit ((ancs[p.2]?).getD 0) i || o.apart ops p.1) && pairsOk ops ancs (i + 1) r
theorem pairsOk_spec {ops : Array Oper} {ancs : List Nat} : ∀ {l : List Oper} {i : Nat}, pairsOk ops ancs i l = true → ∀ j k o p, l[j]? = some o → l[k]? = some p → j < k → ((ancs[i + k]?).getD 0).testBit (i + j) = true ∨ o.apart ops p = true
  | [], i, h, j, k, o, p, e1, e2, hlt => by simp at e1
  | q :: r, i, h, j, k, o, p, e1, e2, hlt => by
    simp only [pairsOk, Bool.and_eq_true] at h
    cases k with
    | zero => omega
    | succ k =>
      simp at e2
      cases j with
      | zero =>
        simp at e1
        subst e1
        have := List.all_eq_true.1 h.1 (p, i + 1 + k) (by
          rw [List.mem_zipIdx_iff_le_and_getElem?_sub]
          exact ⟨by simp, by simpa using e2⟩)
        simp only [bit, Bool.or_eq_true] at this
        rw [show i + (k + 1) = i + 1 + k by omega]
        simpa using this
      | succ j =>
        simp at e1
        have := pairsOk_spec h.2 j k o p e1 e2 (by omega)
        rw [show i + (k + 1) = i + 1 + k by omega, show i + (j + 1) = i + 1 + j by omega]
        exact this
/-- The stretches of a row: as many lengths; all checked. -/
def lensOk (ops : Array Oper) (ancs : List Nat) : Nat → List Nat → Bool
  | a, [] => Nat.beq a ops.size
  | a, m :: r => Nat.ble (a + m) ops.size && wallOk ancs (a + m) ops.size && pairsOk ops ancs a ((ops.toList.drop a).take m) && lensOk ops ancs (a + m) r
/-- Where the walls are. -/
def sufX : List Nat → List Nat
  | [] => []
  | m :: r => match sufX r with
    | [] => [m]
    | s :: t => Nat.land m s :: s :: t
def cutsX : Nat → Nat → List Nat → List Nat
  | _, run, [] => [run]
  | i, run, s :: r => bif Nat.beq i 0 then cutsX (i + 1) 1 r else bif Nat.beq (Nat.land s (2 ^ i - 1)) (2 ^ i - 1) then run :: cutsX (i + 1) 1 r else cutsX (i + 1) (run + 1) r
def planX (ops : Array Oper) : Option (List Nat) :=
  bif ancOk (ancsX ops.toList []) 0 ops.toList && lensOk ops (ancsX ops.toList []) 0 (cutsX 0 0 (sufX (ancsX ops.toList []))) && Region.noSelect ops then some (cutsX 0 0 (sufX (ancsX ops.toList []))) else none
section
variable (P : Program) (T : Nat → Option (List Value))
/-- An operation looks at no more than its operands. -/
theorem opX_congr {ev ev' : Operand → V} (o : Oper) (S : St) (h : ∀ x ∈ o.op.operands, ev x = ev' x) : opX P T ev o S = opX P T ev' o S := by
  obtain ⟨dst, op, type, pos, after, guard⟩ := o
  have lst : ∀ ps : Array Operand, (∀ x ∈ ps, ev x = ev' x) → ps.toList.map ev = ps.toList.map ev' := fun ps hp => List.map_congr_left fun x hx => hp x (by simpa using hx)
  have pairs : ∀ ps : Array (Nat × Operand), (∀ x ∈ (ps.toList.map (·.2)).toArray, ev x = ev' x) → (ps.toList.map fun p => (p.1, ev p.2)) = (ps.toList.map fun p => (p.1, ev' p.2)) := fun ps hp => List.map_congr_left fun p hx => by
    rw [hp p.2 (by simpa using ⟨p.1, by simpa using hx⟩)]
  cases op <;> simp only [Op.operands] at h <;> simp only [opX]
  case build t ps => simp only [buildX, pairs ps h]
  case buildSlice t n ps => simp only [buildSliceX, pairs ps h]
  case makeFunc fn first captured =>
    cases fn <;> try rfl
    simp only
    rw [lst first fun x hx => h x (by simp [hx]), lst captured fun x hx => h x (by simp [hx])]
  case makeMap t r => cases r <;> simp_all
  case slice t x lo hi mx => cases lo <;> cases hi <;> cases mx <;> simp_all
  case call c =>
    obtain ⟨callee, args, ats⟩ := c
    cases callee with
    | builtin b => simp only [lst args fun x hx => h x (by simp [Call.operands, hx])]
    | value f => rfl
    | invoke r m => rfl
  all_goals first | rfl | (simp_all; done)
theorem stepX_congr {call : Caller} {ops : Array Oper} {tm tm' : Tm} {o : Oper} {S : St} (h : ∀ t ∈ o.looksAt ops, tm.get? t = tm'.get? t) : stepX P T call ops tm o S = stepX P T call ops tm' o S := by
  have hev : ∀ x ∈ o.op.operands, evX tm x = evX tm' x := by
    intro x hx
    cases x with
    | tmp t =>
      have := h t (List.mem_append_left _ (List.mem_filterMap.2 ⟨.tmp t, by simpa using hx, rfl⟩))
      rw [evX_get, evX_get, this]
    | _ => rfl
  have hw : wantX ops tm o = wantX ops tm' o := by
    unfold wantX
    cases hg : o.guard with
    | none => rfl
    | some p =>
      obtain ⟨j, want⟩ := p
      simp only
      cases hd : (ops[j]?).bind (·.dst) with
      | none => rfl
      | some t =>
        have := h t (List.mem_append_right _ (by simp [hg, hd]))
        simp only [this]
  unfold stepX
  rw [hw]
  have hop := opX_congr P T o S hev
  cases wantX ops tm' o with
  | none => rfl
  | some b =>
    cases b with
    | false => rfl
    | true =>
      simp only
      obtain ⟨dst, op, type, pos, after, guard⟩ := o
      cases op with
      | call c =>
        obtain ⟨callee, args, ats⟩ := c
        cases callee with
        | value f =>
          have h1 : evX tm f = evX tm' f := hev f (by simp [Op.operands, Call.operands])
          have h2 : args.toList.map (evX tm) = args.toList.map (evX tm') := List.map_congr_left fun x hx => hev x (by simp [Op.operands, Call.operands]; right; simpa using hx)
          simp only [h1, h2]
        | builtin b => simp only [hop]
        | invoke r m => simp only [hop]
      | _ => simp only [hop]
/-- Those that neither look at memory nor turn it. -/
def pureX : Op → Bool
  | .move _ => true
  | .assign _ => true
  | .pick _ _ _ => true
  | .binOp _ _ _ _ _ => true
  | .unOp _ _ _ => true
  | .nilCheck _ => true
  | .makeInterface _ _ => true
  | .makeFunc (.func _) _ _ => true
  | .fieldAddr _ _ _ => true
  | .field _ _ _ => true
  | .indexAddr _ _ _ => true
  | .index _ _ _ => true
  | .extract _ _ => true
  | .call ⟨.builtin .len, _, ats⟩ => match ats[0]? with
    | some t => match P.underlying t with
      | some (.slice _) => true
      | some .string => true
      | _ => false
    | none => false
  | _ => false
theorem pureV_no {e : Sem Value} {v : V} {f : Eff} (h : pureV P e = some (v, f)) : f = .no := by
  unfold pureV at h
  split at h
  · cases h; rfl
  · cases h
theorem binX_no {op : BinOp} {t : TypeId} {p q : Operand} {x y v : V} {f : Eff} (h : binX P op t p q x y = some (v, f)) : f = .no := by
  unfold binX at h
  split at h
  · exact pureV_no P h
  · split at h
    · split at h
      · cases h; rfl
      · cases h
    · split at h
      · cases h; rfl
      · cases h
    · cases h
theorem lenX_map {ats : Array TypeId} {t ty : TypeId} {id : Nat} {S : St} (ht : ats[0]? = some t) (hnm : ∀ k e, P.underlying t ≠ some (.map k e)) : lenX P ats ty (.map id) S = none := by
  unfold lenX
  simp only [ht]
  cases find id S.heap with
  | none => rfl
  | some b =>
    cases b with
    | map es => simp only
    | row cs e tl fz => rfl
    | iter s p => rfl
theorem opX_pure {ev : Operand → V} {o : Oper} {S : St} {v : V} {f : Eff} (hp : pureX P o.op = true) (h : opX P T ev o S = some (v, f)) : f = .no ∧ ∀ S', opX P T ev o S' = some (v, .no) := by
  obtain ⟨dst, op, type, pos, after, guard⟩ := o
  have key : ∀ g : Option (V × Eff), (∀ S, opX P T ev ⟨dst, op, type, pos, after, guard⟩ S = g) → (∀ v f, g = some (v, f) → f = .no) → f = .no ∧ ∀ S', opX P T ev ⟨dst, op, type, pos, after, guard⟩ S' = some (v, .no) := fun g h1 h2 => by
    have h3 := h2 v f (by rw [← h1 S]; exact h)
    subst h3
    exact ⟨rfl, fun S' => by rw [h1 S', ← h1 S]; exact h⟩
  cases op with
  | move x => exact key (some (ev x, .no)) (fun _ => rfl) (fun v f h => by cases h; rfl)
  | assign x => exact key (some (ev x, .no)) (fun _ => rfl) (fun v f h => by cases h; rfl)
  | pick c a b =>
    refine key (match ev c with
      | .s (.bool t) => some (bif t then ev a else ev b, .no)
      | _ => none) (fun _ => rfl) (fun v f h => ?_)
    split at h
    · cases h; rfl
    · cases h
  | binOp op t x y yt => exact key (binX P op t x y (ev x) (ev y)) (fun _ => rfl) (fun v f h => binX_no P h)
  | unOp op t x =>
    refine key (match ev x with
      | .s v => pureV P (Op.unary op v)
      | _ => none) (fun _ => rfl) (fun v f h => ?_)
    split at h
    · exact pureV_no P h
    · cases h
  | nilCheck x =>
    refine key (nilCheckX (ev x)) (fun _ => rfl) (fun v f h => ?_)
    unfold nilCheckX at h
    split at h <;> first | (cases h; rfl) | cases h
  | makeInterface t x =>
    refine key (mkIfcX P t (ev x)) (fun _ => rfl) (fun v f h => ?_)
    unfold mkIfcX at h
    split at h
    · cases h
    · split at h <;> (cases h; rfl)
    · cases h
  | makeFunc fn a c =>
    cases fn with
    | func ff => exact key (some (.fn ff (a.toList.map ev) (c.toList.map ev), .no)) (fun _ => rfl) (fun v f h => by cases h; rfl)
    | method _ => cases hp
    | methodOf _ _ => cases hp
    | via _ _ _ _ => cases hp
    | yield _ => cases hp
  | fieldAddr s x n =>
    refine key (fieldAddrX P s (ev x) n) (fun _ => rfl) (fun v f h => ?_)
    unfold fieldAddrX at h
    split at h
    · exact pureV_no P h
    · split at h
      · split at h
        · split at h
          · simp only [cond_eq_ite] at h
            split at h
            · cases h
            · cases h; rfl
          · cases h
        · cases h
      · cases h
    · cases h
  | field t x n =>
    refine key (fieldX P t (ev x) n) (fun _ => rfl) (fun v f h => ?_)
    unfold fieldX at h
    split at h
    · exact pureV_no P h
    · split at h
      · split at h
        · split at h
          · cases h; rfl
          · cases h
        · cases h
      · cases h
    · cases h
  | indexAddr t x i =>
    refine key (indexAddrX P t (ev x) (ev i)) (fun _ => rfl) (fun v f h => ?_)
    unfold indexAddrX at h
    split at h
    · exact pureV_no P h
    · split at h
      · split at h
        · simp only [cond_eq_ite] at h
          split at h
          · cases h; rfl
          · cases h
        · cases h
      · cases h
    · split at h
      · split at h
        · simp only [cond_eq_ite] at h
          split at h
          · cases h; rfl
          · cases h
        · cases h
      · cases h
    · split at h
      · split at h
        · simp only [cond_eq_ite] at h
          split at h
          · cases h; rfl
          · cases h
        · cases h
      · cases h
    · cases h
  | index t x i =>
    refine key (indexX P t (ev x) (ev i)) (fun _ => rfl) (fun v f h => ?_)
    unfold indexX at h
    split at h
    · exact pureV_no P h
    · split at h
      · split at h
        · simp only [cond_eq_ite] at h
          split at h
          · split at h
            · cases h; rfl
            · cases h
          · cases h
        · cases h
      · cases h
    · cases h
  | extract t i =>
    refine key (extractX P (ev t) i) (fun _ => rfl) (fun v f h => ?_)
    unfold extractX at h
    split at h
    · exact pureV_no P h
    · split at h
      · cases h; rfl
      · cases h
    · cases h
  | call c =>
    obtain ⟨callee, args, ats⟩ := c
    cases callee with
    | builtin b =>
      cases b with
      | len =>
        simp only [pureX] at hp
        split at hp
        · rename_i t ht
          have hnm : ∀ k e, P.underlying t ≠ some (.map k e) := fun k e he => by rw [he] at hp; cases hp
          have hind : ∀ (x : V) (S S' : St), lenX P ats type x S = lenX P ats type x S' := fun x S S' => by
            cases x with
            | map id => rw [lenX_map P ht hnm, lenX_map P ht hnm]
            | _ => rfl
          refine key (match args.toList.map ev with
            | [x] => lenX P ats type x S
            | _ => none) (fun S' => ?_) (fun v f h => ?_)
          · simp only [opX]
            cases hl : args.toList.map ev with
            | nil => rfl
            | cons x r =>
              cases r with
              | nil => exact hind x S' S
              | cons y r => rfl
          · split at h
            · unfold lenX at h
              split at h
              · exact pureV_no P h
              · split at h
                · split at h
                  · cases h; rfl
                  · cases h
                · cases h
              · split at h
                · split at h
                  · cases h; rfl
                  · cases h
                · cases h
              · split at h
                · split at h
                  · cases h; rfl
                  · cases h
                · cases h
              · cases h
            · cases h
        · cases hp
      | _ => cases hp
    | value f => cases hp
    | invoke r m => cases hp
  | _ => cases hp
theorem stepX_pure {call : Caller} {ops : Array Oper} {tm : Tm} {o : Oper} {S S1 : St} {v : V} (hp : pureX P o.op = true) (h : stepX P T call ops tm o S = some (v, S1)) : S1 = S ∧ ∀ S', stepX P T call ops tm o S' = some (v, S') := by
  unfold stepX at h ⊢
  cases hw : wantX ops tm o with
  | none => rw [hw] at h; cases h
  | some b =>
    rw [hw] at h
    cases b with
    | false => cases h; exact ⟨rfl, fun S' => rfl⟩
    | true =>
      simp only at h ⊢
      have hnc : ∀ f args ats, o.op ≠ .call ⟨.value f, args, ats⟩ := fun f args ats e => by rw [e] at hp; cases hp
      split at h
      · rename_i f args ats e
        exact absurd e (hnc _ _ _)
      · split at h
        · rename_i v' f' ho
          have h : some (v', f'.run S) = some (v, S1) := h
          cases h
          obtain ⟨h1, h2⟩ := opX_pure P T hp ho
          subst h1
          refine ⟨rfl, fun S' => ?_⟩
          rw [h2 S']
          rfl
        · cases h
end
end Go.Proofs.YtmpmbnmldmpmiaaGreatDoor.Sim
set_option linter.unusedVariables false
set_option linter.unusedSimpArgs false
namespace Go.Proofs.YtmpmbnmldmpmiaaGreatDoor.Sim
open Go Go.RowKit
structure Out where
  v : V
  c : Nat
  e : Nat
  vis : Heap
  new : Heap
  dst : Option Tmp
def visX (a : Nat) (outs : List Out) : List Nat → Heap
  | [] => []
  | j :: r => (bif Nat.ble a j then (match outs[j - a]? with
    | some u => u.new ++ u.vis
    | none => []) else []) ++ visX a outs r
def newsX (c : Nat) : Heap → Heap
  | [] => []
  | (i, b) :: r => bif Nat.ble c i then (i, b) :: newsX c r else newsX c r
def newAll : List Out → Heap
  | [] => []
  | u :: r => u.new ++ newAll r
theorem find_append {id : Nat} : ∀ {A B : Heap} {b : Blk}, find id (A ++ B) = some b → find id A = some b ∨ find id B = some b
  | [], B, b, h => .inr h
  | (i, c) :: A, B, b, h => by
    simp only [List.cons_append, find] at h ⊢
    by_cases e : Nat.beq i id = true
    · rw [if_pos e] at h ⊢; exact .inl h
    · rw [if_neg e] at h ⊢; exact find_append h
theorem find_news {id c : Nat} : ∀ {H : Heap} {b : Blk}, find id (newsX c H) = some b → find id H = some b
  | [], b, h => h
  | (i, d) :: H, b, h => by
    simp only [newsX] at h
    cases hc : Nat.ble c i with
    | true =>
      rw [hc] at h
      simp only [cond_true, find] at h ⊢
      by_cases e : Nat.beq i id = true
      · rw [if_pos e] at h ⊢; exact h
      · rw [if_neg e] at h ⊢; exact find_news h
    | false =>
      rw [hc] at h
      simp only [cond_false] at h
      simp only [find]
      have hlt : ¬ c ≤ i := fun e => by rw [Nat.ble_eq_true_of_le e] at hc; cases hc
      by_cases e : Nat.beq i id = true
      · have e' := Nat.eq_of_beq_eq_true e
        subst e'
        exact absurd (find_news_ge h) hlt
      · rw [if_neg e]; exact find_news h
where
  find_news_ge {id c : Nat} : ∀ {H : Heap} {b : Blk}, find id (newsX c H) = some b → c ≤ id
    | [], b, h => by cases h
    | (i, d) :: H, b, h => by
      simp only [newsX] at h
      cases hc : Nat.ble c i with
      | true =>
        rw [hc] at h
        simp only [cond_true, find] at h
        by_cases e : Nat.beq i id = true
        · have e' := Nat.eq_of_beq_eq_true e
          subst e'
          exact Nat.le_of_ble_eq_true hc
        · rw [if_neg e] at h; exact find_news_ge h
      | false => rw [hc] at h; exact find_news_ge h
theorem find_vis {id a : Nat} {outs : List Out} {b : Blk} : ∀ {l : List Nat}, find id (visX a outs l) = some b → ∃ j ∈ l, a ≤ j ∧ ∃ (u : Out), outs[j - a]? = some u ∧ find id (u.new ++ u.vis) = some b
  | [], h => by cases h
  | j :: r, h => by
    simp only [visX] at h
    rcases find_append h with h | h
    · cases hc : Nat.ble a j with
      | false => rw [hc] at h; cases h
      | true =>
        rw [hc] at h
        simp only [cond_true] at h
        split at h
        · rename_i u hu
          exact ⟨j, List.mem_cons_self, Nat.le_of_ble_eq_true hc, u, hu, h⟩
        · cases h
    · obtain ⟨i, hi, h⟩ := find_vis h
      exact ⟨i, List.mem_cons_of_mem _ hi, h⟩
theorem find_all {id : Nat} {b : Blk} : ∀ {outs : List Out}, find id (newAll outs) = some b → ∃ (i : Nat) (u : Out), outs[i]? = some u ∧ find id u.new = some b
  | [], h => by cases h
  | u :: r, h => by
    simp only [newAll] at h
    rcases find_append h with h | h
    · exact ⟨0, u, rfl, h⟩
    · obtain ⟨i, v, h1, h2⟩ := find_all h
      exact ⟨i + 1, v, by simpa using h1, h2⟩
/-- The variables behind those operations that a test picks. -/
noncomputable def tmSel (sel : Nat → Bool) : Nat → List Out → Tm → Tm
  | _, [], tm => tm
  | i, u :: r, tm => tmSel sel (i + 1) r (bif sel i then putT tm u.dst u.v else tm)
theorem putT_same {tm tm' : Tm} {d : Nat} {v : V} (h : ∀ t, tm.n = tm'.n ∧ (t < tm.n → tm.tr.has t) ∧ (t < tm.n → tm'.tr.has t)) : (putT tm (some d) v).get? d = (putT tm' (some d) v).get? d := by
  obtain ⟨h1, h2, h3⟩ := h d
  simp only [putT_some]
  rw [← h1]
  simp only [blt_dec]
  by_cases hd : d < tm.n
  · simp only [hd, decide_true, cond_true, Tm.get?, blt_dec]
    rw [Tr.get_set _ (h2 hd), Tr.get_set _ (h3 hd)]
  · simp only [hd, decide_false, cond_false, Tm.get?, blt_dec, ← h1]
def Sound (tm : Tm) : Prop := ∀ t, t < tm.n → tm.tr.has t
theorem putT_sound {tm : Tm} {d : Option Tmp} {v : V} (h : Sound tm) : Sound (putT tm d v) := by
  cases d with
  | none => exact h
  | some e =>
    simp only [putT_some]
    cases Nat.blt e tm.n with
    | true => exact fun t ht => Tr.has_set _ (h t ht)
    | false => exact h
theorem TmOk.sound {ν : Val} {tm : Tm} {a : Act} (h : TmOk ν tm a) : Sound tm := h.has
theorem tmSel_get {sel sel' : Nat → Bool} {t : Nat} : ∀ {outs : List Out} {k : Nat} {tm tm' : Tm}, tm.get? t = tm'.get? t → tm.n = tm'.n → Sound tm → Sound tm' → (∀ j u, outs[j]? = some u → u.dst = some t → sel (k + j) = sel' (k + j)) →
    (tmSel sel k outs tm).get? t = (tmSel sel' k outs tm').get? t
  | [], k, tm, tm', h, hl, s1, s2, hs => h
  | u :: r, k, tm, tm', h, hl, s1, s2, hs => by
    simp only [tmSel]
    refine tmSel_get ?_ ?_ ?_ ?_ (fun j v hj hd => by
      have := hs (j + 1) v (by simpa using hj) hd
      rw [show k + 1 + j = k + (j + 1) by omega]
      exact this)
    · by_cases hd : u.dst = some t
      · have := hs 0 u rfl hd
        rw [Nat.add_zero] at this
        rw [this]
        cases sel' k with
        | true =>
          simp only [cond_true]
          rw [hd]
          exact putT_same fun t => ⟨hl, s1 t, fun ht => s2 t (by rw [← hl]; exact ht)⟩
        | false => exact h
      · have e1 : (bif sel k then putT tm u.dst u.v else tm).get? t = tm.get? t := by cases sel k <;> simp [putT_get hd]
        have e2 : (bif sel' k then putT tm' u.dst u.v else tm').get? t = tm'.get? t := by cases sel' k <;> simp [putT_get hd]
        rw [e1, e2, h]
    · have e1 : (bif sel k then putT tm u.dst u.v else tm).n = tm.n := by cases sel k <;> simp [putT_n]
      have e2 : (bif sel' k then putT tm' u.dst u.v else tm').n = tm'.n := by cases sel' k <;> simp [putT_n]
      rw [e1, e2, hl]
    · cases sel k with
      | true => exact putT_sound s1
      | false => exact s1
    · cases sel' k with
      | true => exact putT_sound s2
      | false => exact s2
theorem tmSel_put {sel : Nat → Bool} {d : Option Tmp} {v : V} : ∀ {outs : List Out} {k : Nat} {tm : Tm}, (∀ j u t, outs[j]? = some u → sel (k + j) = true → d = some t → u.dst ≠ some t) → tmSel sel k outs (putT tm d v) = putT (tmSel sel k outs tm) d v
  | [], k, tm, h => rfl
  | u :: r, k, tm, h => by
    simp only [tmSel]
    have hr := fun tm => tmSel_put (sel := sel) (d := d) (v := v) (outs := r) (k := k + 1) (tm := tm) (fun j w t hj hs hd => h (j + 1) w t (by simpa using hj) (by rw [show k + (j + 1) = k + 1 + j by omega]; exact hs) hd)
    cases hs : sel k with
    | false => simp only [cond_false]; exact hr tm
    | true =>
      simp only [cond_true]
      rw [← hr]
      congr 1
      cases d with
      | none => rfl
      | some t =>
        have := h 0 u t rfl (by simpa using hs) rfl
        cases hu : u.dst with
        | none => rfl
        | some e =>
          have hne : t ≠ e := fun x => this (by rw [hu, x])
          exact putT_comm hne
theorem tmSel_add {sel : Nat → Bool} : ∀ {outs : List Out} {k i : Nat} {u : Out} {tm : Tm}, outs[i]? = some u → sel (k + i) = false → (∀ j w t, outs[j]? = some w → i < j → sel (k + j) = true → u.dst = some t → w.dst ≠ some t) →
    tmSel (fun j => sel j || Nat.beq j (k + i)) k outs tm = putT (tmSel sel k outs tm) u.dst u.v
  | [], k, i, u, tm, h, hs, hw => by simp at h
  | w :: r, k, 0, u, tm, h, hs, hw => by
    simp at h
    subst h
    simp only [tmSel]
    rw [Nat.add_zero] at hs ⊢
    simp only [hs, Bool.false_or, Nat.beq_refl, cond_true, cond_false]
    have e : ∀ (r : List Out) (q : Nat) (tm : Tm), k < q → tmSel (fun j => sel j || Nat.beq j k) q r tm = tmSel sel q r tm := by
      intro r
      induction r with
      | nil => intro q tm hq; rfl
      | cons x r ih =>
        intro q tm hq
        simp only [tmSel]
        have : Nat.beq q k = false := by
          cases hb : Nat.beq q k with
          | false => rfl
          | true => have := Nat.eq_of_beq_eq_true hb; omega
        rw [this, Bool.or_false, ih _ _ (by omega)]
    rw [e r (k + 1) _ (by omega)]
    exact tmSel_put fun j x t hj hsel hd => hw (j + 1) x t (by simpa using hj) (by omega) (by rw [show k + (j + 1) = k + 1 + j by omega]; exact hsel) hd
  | w :: r, k, i + 1, u, tm, h, hs, hw => by
    simp only [tmSel]
    have hne : Nat.beq k (k + (i + 1)) = false := by
      cases hb : Nat.beq k (k + (i + 1)) with
      | false => rfl
      | true => have := Nat.eq_of_beq_eq_true hb; omega
    rw [hne, Bool.or_false, show k + (i + 1) = k + 1 + i by omega]
    exact tmSel_add (by simpa using h) (by rw [show k + 1 + i = k + (i + 1) by omega]; exact hs) (fun j x t hj hij hsel hd => hw (j + 1) x t (by simpa using hj) (by omega) (by rw [show k + (j + 1) = k + 1 + j by omega]; exact hsel) hd)
theorem tmSel_take : ∀ {outs : List Out} {k n : Nat} {tm : Tm}, tmSel (fun j => Nat.blt j (k + n)) k outs tm = (outs.take n).foldl (fun tm u => putT tm u.dst u.v) tm
  | [], k, n, tm => by simp [tmSel]
  | u :: r, k, 0, tm => by
    simp only [tmSel, Nat.add_zero, List.take_zero, List.foldl_nil]
    have : Nat.blt k k = false := by
      cases hb : Nat.blt k k with
      | false => rfl
      | true => unfold Nat.blt at hb; have := Nat.le_of_ble_eq_true hb; omega
    rw [this]
    simp only [cond_false]
    have e : ∀ (r : List Out) (q : Nat) (tm : Tm), k ≤ q → tmSel (fun j => Nat.blt j k) q r tm = tm := by
      intro r
      induction r with
      | nil => intro q tm hq; rfl
      | cons x r ih =>
        intro q tm hq
        simp only [tmSel]
        have : Nat.blt q k = false := by
          cases hb : Nat.blt q k with
          | false => rfl
          | true => unfold Nat.blt at hb; have := Nat.le_of_ble_eq_true hb; omega
        rw [this]
        exact ih _ _ (by omega)
    exact e r (k + 1) tm (by omega)
  | u :: r, k, n + 1, tm => by
    simp only [tmSel, List.take_succ_cons, List.foldl_cons]
    have : Nat.blt k (k + (n + 1)) = true := Nat.ble_eq_true_of_le (by omega)
    rw [this, show k + (n + 1) = k + 1 + n by omega]
    exact tmSel_take
section
variable (P : Program) (T : Nat → Option (List Value))
/-- A stretch of operations that write to nothing elder, each seen from what it hangs on alone. -/
noncomputable def quietX (call : Caller) (ops : Array Oper) (a : Nat) (H0 : Heap) : List Oper → List Out → Tm → Nat → Option (Tm × Nat × List Out)
  | [], outs, tm, c => some (tm, c, outs)
  | o :: r, outs, tm, c => match stepX P T call ops tm o ⟨visX a outs (depsX o) ++ H0, c, c⟩ with
    | some (v, S') => bif Nat.beq S'.low c then quietX call ops a H0 r (outs ++ [⟨v, c, S'.next, visX a outs (depsX o), newsX c S'.heap, o.dst⟩]) (putT tm o.dst v) (S'.next + 1) else none
    | none => none
/-- The only one of a stretch that looks at memory or turns it. -/
def loudsX : Nat → List Oper → List Nat
  | _, [] => []
  | i, o :: r => bif pureX P o.op then loudsX (i + 1) r else i :: loudsX (i + 1) r
def soloX (l : List Oper) : Option Nat := match loudsX P 0 l with
  | [] => some l.length
  | [x] => some x
  | _ => none
theorem louds_spec : ∀ {l : List Oper} {k i : Nat} {o : Oper}, l[i]? = some o → pureX P o.op = true ∨ k + i ∈ loudsX P k l
  | [], k, i, o, h => by simp at h
  | p :: r, k, i, o, h => by
    simp only [loudsX]
    cases i with
    | zero =>
      simp at h
      subst h
      cases hp : pureX P p.op with
      | true => exact .inl rfl
      | false => exact .inr (by simp)
    | succ i =>
      simp at h
      rcases louds_spec (k := k + 1) h with h1 | h1
      · exact .inl h1
      · right
        rw [show k + (i + 1) = k + 1 + i by omega]
        cases hp : pureX P p.op with
        | true => exact h1
        | false => exact List.mem_cons_of_mem _ h1
theorem solo_spec {l : List Oper} {x : Nat} (h : soloX P l = some x) {i : Nat} {o : Oper} (hi : l[i]? = some o) (hx : i ≠ x) : pureX P o.op = true := by
  rcases louds_spec P (k := 0) hi with h1 | h1
  · exact h1
  · rw [Nat.zero_add] at h1
    unfold soloX at h
    split at h
    · rename_i e
      rw [e] at h1
      cases h1
    · rename_i y e
      cases h
      rw [e] at h1
      simp at h1
      exact absurd h1 hx
    · cases h
/-- Does an operation see a block, ahead of it or behind it? -/
def seenV (u : Out) (id : Nat) : Bool := (find id u.vis).isSome
def seenA (u : Out) (id : Nat) : Bool := (find id u.vis).isSome || (find id u.new).isSome
/-- No operation from number i on has turned a block. -/
def keptY (id : Nat) : List (Out × Nat) → Bool
  | [] => true
  | (u, lw) :: r => (!(seenV u id) || Nat.blt id lw) && keptY id r
/-- What an operation sees of the blocks of its own stretch: what those left that it hangs on, where nobody has turned it since. -/
def visY (a : Nat) (outs : List (Out × Nat)) : List Nat → Heap
  | [] => []
  | j :: r => (bif Nat.ble a j then (match outs[j - a]? with
    | some (u, _) => u.new.filter fun p => keptY p.1 (outs.drop (j - a + 1))
    | none => []) else []) ++ visY a outs r
/-- Those that an operation does not hang on have turned nothing that it sees, nor does it turn what they see. -/
def farY (mask : Nat) (vis : Heap) (low : Nat) : Nat → List (Out × Nat) → Bool
  | _, [] => true
  | k, (u, lw) :: r => (bit mask k || vis.all fun p => !(seenA u p.1) || (Nat.blt p.1 lw && Nat.blt p.1 low)) && farY mask vis low (k + 1) r
def chkY (mask a c0 c low : Nat) (vis new : Heap) (outs : List (Out × Nat)) : Bool := Nat.ble c0 low && Nat.ble low c && (vis.all fun p => Nat.blt p.1 c) && (new.all fun p => (find p.1 vis).isSome || Nat.ble c p.1) && farY mask vis low a outs
/-- A stretch of operations that may turn blocks of the stretch's own. -/
noncomputable def mixX (call : Caller) (ops : Array Oper) (ancs : List Nat) (a c0 : Nat) (H0 : Heap) : List Oper → List (Out × Nat) → Tm → Nat → Option (Tm × Nat × List (Out × Nat))
  | [], outs, tm, c => some (tm, c, outs)
  | o :: r, outs, tm, c => match stepX P T call ops tm o ⟨visY a outs (depsX o) ++ H0, c, c⟩ with
    | some (v, S') => bif chkY ((ancs[a + outs.length]?).getD 0) a c0 c S'.low (visY a outs (depsX o)) (newsX c0 S'.heap) outs then
        mixX call ops ancs a c0 H0 r (outs ++ [(⟨v, c, S'.next, visY a outs (depsX o), newsX c0 S'.heap, o.dst⟩, S'.low)]) (putT tm o.dst v) (S'.next + 1) else none
    | none => none
/-- What a stretch leaves. -/
def leftY : List (Out × Nat) → Heap
  | [] => []
  | (u, _) :: r => (u.new.filter fun p => keptY p.1 r) ++ leftY r
noncomputable def segsX (pick : Nat → Bool) (call : Caller) (ops : Array Oper) : Nat → List Oper → List Nat → Tm → St → Option (Tm × St)
  | _, _, [], tm, S => some (tm, S)
  | a, l, m :: r, tm, S => match Nat.beq m 1, l with
    | true, o :: l' => match stepX P T call ops tm o S with
      | some (v, S') => segsX pick call ops (a + 1) l' r (putT tm o.dst v) S'
      | none => none
    | true, [] => none
    | false, l => bif Nat.ble S.low S.next then (match soloX P (l.take m) with
      | some _ => match seqX P T call ops (l.take m) tm S with
        | some (tm', S') => segsX pick call ops (a + m) (l.drop m) r tm' S'
        | none => none
      | none => match (bif pick a then none else quietX P T call ops a S.heap (l.take m) [] tm S.next) with
      | some (tm', c, outs) => segsX pick call ops (a + m) (l.drop m) r tm' ⟨newAll outs ++ S.heap, c, S.low⟩
      | none => match mixX P T call ops (ancsX ops.toList []) a S.next S.heap (l.take m) [] tm S.next with
        | some (tm', c, outs) => segsX pick call ops (a + m) (l.drop m) r tm' ⟨leftY outs ++ S.heap, c, S.low⟩
        | none => none) else none
/-- A row in a drawn order; 'pick' says at which stretches blocks of the stretch's own may be turned. -/
noncomputable def drawP (pick : Nat → Bool) (call : Caller) (ops : Array Oper) (tm : Tm) (S : St) : Option (Tm × St) := match planX ops with
  | some lens => segsX P T pick call ops 0 ops.toList lens tm S
  | none => none
noncomputable def drawX : Caller → Array Oper → Tm → St → Option (Tm × St) := drawP P T fun _ => false
theorem seqX_mixed {call : Caller} {ops : Array Oper} : ∀ {l : List Oper} {x : Nat} {tm tm' : Tm} {S S' : St}, (∀ i o, l[i]? = some o → i ≠ x → pureX P o.op = true) → seqX P T call ops l tm S = some (tm', S') →
    ∃ outs : List Out, outs.length = l.length ∧ tm' = outs.foldl (fun tm u => putT tm u.dst u.v) tm ∧ (∀ i o u, l[i]? = some o → outs[i]? = some u → u.dst = o.dst ∧
      (i = x → stepX P T call ops ((outs.take i).foldl (fun tm u => putT tm u.dst u.v) tm) o S = some (u.v, S')) ∧ (i ≠ x → ∀ S2, stepX P T call ops ((outs.take i).foldl (fun tm u => putT tm u.dst u.v) tm) o S2 = some (u.v, S2))) ∧ (l.length ≤ x → S' = S)
  | [], x, tm, tm', S, S', hp, h => by
    cases h
    exact ⟨[], rfl, rfl, fun i o u h1 h2 => by simp at h1, fun _ => rfl⟩
  | p :: r, x, tm, tm', S, S', hp, h => by
    simp only [seqX] at h
    split at h
    rotate_left
    · cases h
    rename_i v S1 hs
    cases x with
    | zero =>
      obtain ⟨outs, h1, h2, h3, h4⟩ := seqX_mixed (l := r) (x := r.length) (fun i o hi hx => hp (i + 1) o (by simpa using hi) (by omega)) h
      have e := h4 (Nat.le_refl _)
      subst e
      refine ⟨⟨v, 0, 0, [], [], p.dst⟩ :: outs, by simp [h1], by rw [h2]; rfl, fun i o u hi hu => ?_, fun h => by simp at h⟩
      cases i with
      | zero =>
        simp at hi hu
        subst hi
        subst hu
        exact ⟨rfl, fun _ => hs, fun h => absurd rfl h⟩
      | succ i =>
        simp at hi hu
        obtain ⟨g1, g2, g3⟩ := h3 i o u hi hu
        refine ⟨g1, fun h => by omega, fun _ S2 => ?_⟩
        have hlt := (List.getElem?_eq_some_iff.1 hi).1
        exact g3 (by omega) S2
    | succ x =>
      obtain ⟨e, hall⟩ := stepX_pure P T (hp 0 p rfl (by omega)) hs
      subst e
      obtain ⟨outs, h1, h2, h3, h4⟩ := seqX_mixed (l := r) (x := x) (fun i o hi hx => hp (i + 1) o (by simpa using hi) (by omega)) h
      refine ⟨⟨v, 0, 0, [], [], p.dst⟩ :: outs, by simp [h1], by rw [h2]; rfl, fun i o u hi hu => ?_, fun h => h4 (by simpa using h)⟩
      cases i with
      | zero =>
        simp at hi hu
        subst hi
        subst hu
        exact ⟨rfl, fun h => by omega, fun _ S2 => hall S2⟩
      | succ i =>
        simp at hi hu
        obtain ⟨g1, g2, g3⟩ := h3 i o u hi hu
        exact ⟨g1, fun h => g2 (by omega), fun h S2 => g3 (by omega) S2⟩
theorem quietX_spec {w0 : Bs} {call : Caller} (hc : CallOk P w0 call) {ops : Array Oper} {a : Nat} {H0 : Heap} : ∀ {l : List Oper} {outs0 : List Out} {tm tm' : Tm} {c c' : Nat} {outs : List Out}, quietX P T call ops a H0 l outs0 tm c = some (tm', c', outs) →
    ∃ outs1, outs = outs0 ++ outs1 ∧ outs1.length = l.length ∧ tm' = outs1.foldl (fun tm u => putT tm u.dst u.v) tm ∧ c ≤ c' ∧
      ∀ i o u, l[i]? = some o → outs1[i]? = some u → (∃ h, stepX P T call ops ((outs1.take i).foldl (fun tm u => putT tm u.dst u.v) tm) o ⟨visX a (outs0 ++ outs1.take i) (depsX o) ++ H0, u.c, u.c⟩ = some (u.v, ⟨h, u.e, u.c⟩) ∧ u.new = newsX u.c h) ∧
        u.vis = visX a (outs0 ++ outs1.take i) (depsX o) ∧ u.dst = o.dst ∧ c ≤ u.c ∧ u.c ≤ u.e ∧ u.e < c' ∧ ∀ j u', outs1[j]? = some u' → j < i → u'.e < u.c
  | [], outs0, tm, tm', c, c', outs, h => by
    cases h
    exact ⟨[], by simp, rfl, rfl, Nat.le_refl _, fun i o u h1 h2 => by simp at h1⟩
  | p :: r, outs0, tm, tm', c, c', outs, h => by
    simp only [quietX] at h
    split at h
    · rename_i v S' hs
      cases hl : Nat.beq S'.low c with
      | false => rw [hl] at h; cases h
      | true =>
        rw [hl] at h
        simp only [cond_true] at h
        have hlow := Nat.eq_of_beq_eq_true hl
        have hm := stepX_mono P T hc hs
        have hm1 : c ≤ S'.next := hm.1
        obtain ⟨outs1, h1, h2, h3, h4, h5⟩ := quietX_spec hc h
        refine ⟨⟨v, c, S'.next, visX a outs0 (depsX p), newsX c S'.heap, p.dst⟩ :: outs1, by rw [h1]; simp, by simp [h2], by rw [h3]; rfl, by omega, fun i o u hi hu => ?_⟩
        cases i with
        | zero =>
          simp at hi hu
          subst hi
          subst hu
          refine ⟨⟨S'.heap, ?_, rfl⟩, by simp, rfl, Nat.le_refl _, hm1, (by show S'.next < c'; omega), fun j u' _ hj => absurd hj (Nat.not_lt_zero _)⟩
          simp only [List.take_zero, List.foldl_nil, List.append_nil]
          rw [hs]
          have : S' = ⟨S'.heap, S'.next, c⟩ := by cases S'; simp only at hlow; subst hlow; rfl
          exact congrArg (fun x => some (v, x)) this
        | succ i =>
          simp at hi hu
          obtain ⟨⟨hh, g1, g2⟩, g3, g4, g5, g6, g7, g8⟩ := h5 i o u hi hu
          refine ⟨⟨hh, ?_, g2⟩, ?_, g4, by omega, g6, g7, fun j u' hj hlt => ?_⟩
          · simpa using g1
          · simpa using g3
          · cases j with
            | zero => simp at hj; subst hj; simp only; omega
            | succ j => exact g8 j u' (by simpa using hj) (by omega)
    · cases h
end
end Go.Proofs.YtmpmbnmldmpmiaaGreatDoor.Sim
set_option linter.unusedVariables false
set_option linter.unusedSimpArgs false
namespace Go.Proofs.YtmpmbnmldmpmiaaGreatDoor.Sim
open Go Go.RowKit
def ancOf (ancs : List Nat) (i : Nat) : Nat := (ancs[i]?).getD 0
/-- What the checks of a row tell. -/
structure Plan (ops : Array Oper) (ancs : List Nat) : Prop where
  sel : Region.noSelect ops = true
  anc : ∀ i o, ops[i]? = some o → ancOf ancs i = maskX ancs (depsX o) ∧ ∀ d ∈ depsX o, d < i
theorem Plan.bits {ops : Array Oper} {ancs : List Nat} (h : Plan ops ancs) : ∀ (i k : Nat) (o : Oper), ops[i]? = some o → (ancOf ancs i).testBit k = true → k < i := by
  intro i
  induction i using Nat.strongRecOn with
  | ind i ih =>
    intro k o ho hk
    obtain ⟨h1, h2⟩ := h.anc i o ho
    rw [h1] at hk
    obtain ⟨j, hj, hk⟩ := mask_bit hk
    have hji := h2 j hj
    rcases hk with rfl | hk
    · exact hji
    · have hlt : j < ops.size := by have := (Array.getElem?_eq_some_iff.1 ho).1; omega
      exact Nat.lt_trans (ih j hji k _ (Array.getElem?_eq_getElem hlt) hk) hji
theorem deps_ready {ops : Array Oper} {L : Array Bool} {i : Nat} {o : Oper} (ho : ops[i]? = some o) (h : i ∈ Region.ready .any ops L) : ∀ d ∈ depsX o, L.getD d false = true := by
  obtain ⟨_, o', ho', hall⟩ := mem_ready.1 h
  rw [ho] at ho'
  cases ho'
  intro d hd
  simp only [depsX, List.mem_map, List.mem_filter] at hd
  obtain ⟨e, ⟨he, hb⟩, rfl⟩ := hd
  exact hall e (by simpa using he) hb
theorem ready_of {ops : Array Oper} {L : Array Bool} {i : Nat} {o : Oper} (ho : ops[i]? = some o) (hL : L.getD i true = false) (h : ∀ d ∈ depsX o, L.getD d false = true) : i ∈ Region.ready .any ops L := by
  refine mem_ready.2 ⟨hL, o, ho, fun e he hb => h e.on ?_⟩
  simp only [depsX, List.mem_map, List.mem_filter]
  exact ⟨e, ⟨by simpa using he, hb⟩, rfl⟩
/-- The listed are closed under what hangs ahead. -/
def Closed (ops : Array Oper) (ancs : List Nat) (L : Array Bool) : Prop := ∀ i o, ops[i]? = some o → L.getD i false = true → ∀ k, (ancOf ancs i).testBit k = true → L.getD k false = true
theorem anc_ready {ops : Array Oper} {ancs : List Nat} (hp : Plan ops ancs) {L : Array Bool} (hc : Closed ops ancs L) {i : Nat} {o : Oper} (ho : ops[i]? = some o) (h : i ∈ Region.ready .any ops L) : ∀ k, (ancOf ancs i).testBit k = true → L.getD k false = true := by
  intro k hk
  obtain ⟨h1, h2⟩ := hp.anc i o ho
  rw [h1] at hk
  obtain ⟨j, hj, hk⟩ := mask_bit hk
  have hL := deps_ready ho h j hj
  rcases hk with rfl | hk
  · exact hL
  · have hlt : j < ops.size := by have := (Array.getElem?_eq_some_iff.1 ho).1; have := h2 j hj; omega
    exact hc j _ (Array.getElem?_eq_getElem hlt) hL k hk
theorem getD_true {L : Array Bool} {j : Nat} (h : L.getD j false = true) : L.getD j true = true := by
  rcases Nat.lt_or_ge j L.size with h' | h'
  · simp [h'] at h ⊢; exact h
  · simp [Array.getElem?_eq_none h'] at h
theorem getD_false {L : Array Bool} {j : Nat} (h : L.getD j true = false) : L.getD j false = false := by
  rcases Nat.lt_or_ge j L.size with h' | h'
  · simp [h'] at h ⊢; exact h
  · simp [Array.getElem?_eq_none h']
theorem getD_false' {L : Array Bool} {j : Nat} (hj : j < L.size) (h : L.getD j false = false) : L.getD j true = false := by
  simp [hj] at h ⊢; exact h
theorem count_set {L : Array Bool} {i : Nat} (h : L.getD i true = false) : (L.setIfInBounds i true).toList.count false < L.toList.count false := by
  have hlt : i < L.size := by
    rcases Nat.lt_or_ge i L.size with h' | h'
    · exact h'
    · simp [Array.getElem?_eq_none h'] at h
  have hi : L.toList[i]'(by simpa using hlt) = false := by simp [hlt] at h; simpa using h
  rw [Array.toList_setIfInBounds, List.count_set (by simpa using hlt), hi]
  have : 0 < L.toList.count false := List.count_pos_iff.2 (by rw [← hi]; exact List.getElem_mem _)
  simp only [beq_self_eq_true, if_true]
  have e : (true == false) = false := rfl
  rw [e]
  simp only [Bool.false_eq_true, if_false]
  omega
section
variable (P : Program) (T : Nat → Option (List Value))
/-- What holds within a stretch. -/
structure Inv (w0 : Bs) (ops : Array Oper) (ancs : List Nat) (a m : Nat) (outs : List Out) (tm0 : Tm) (H0 : Heap) (c0 c' : Nat) (gs : Gh) (ws : World) (L : Array Bool) (g : Gh) (act : Act) (w : World) : Prop where
  sz : L.size = ops.size
  lo : ∀ j, j < a → L.getD j false = true
  hi : ∀ j, a + m ≤ j → L.getD j false = false
  cl : Closed ops ancs L
  m0 : M w0 g H0 w
  fr : Fr c0 c0 c' gs ws g w
  nw : ∀ i u, outs[i]? = some u → L.getD (a + i) false = true → M w0 g (u.new ++ u.vis) w
  fre : ∀ i u, outs[i]? = some u → L.getD (a + i) false = false → Free g u.c u.e
  tm : TmOk g.ν (tmSel (fun i => L.getD (a + i) false) 0 outs tm0) act
  df : act.defers = []
  sd : Sound tm0
theorem Inv.step {w0 : Bs} (hT : Tab T w0) {call : Caller} (hc : CallOk P w0 call) {ops : Array Oper} {ancs : List Nat} (hp : Plan ops ancs) {a m : Nat} {outs : List Out} {tm0 : Tm} {H0 : Heap} {c0 c' : Nat} {gs : Gh} {ws : World} {L : Array Bool} {g : Gh} {act : Act} {w : World}
    (hlen : outs.length = m) (hbound : a + m ≤ ops.size) (hpair : ∀ j k o p, j < k → k < m → ops[a + j]? = some o → ops[a + k]? = some p → (ancOf ancs (a + k)).testBit (a + j) = true ∨ o.apart ops p = true)
    (hspec : ∀ i o u, ops[a + i]? = some o → outs[i]? = some u → (∃ h, stepX P T call ops ((outs.take i).foldl (fun tm u => putT tm u.dst u.v) tm0) o ⟨visX a (outs.take i) (depsX o) ++ H0, u.c, u.c⟩ = some (u.v, ⟨h, u.e, u.c⟩) ∧ u.new = newsX u.c h) ∧
        u.vis = visX a (outs.take i) (depsX o) ∧ u.dst = o.dst ∧ c0 ≤ u.c ∧ u.c ≤ u.e ∧ u.e < c' ∧ ∀ j u', outs[j]? = some u' → j < i → u'.e < u.c)
    (hI : Inv w0 ops ancs a m outs tm0 H0 c0 c' gs ws L g act w) {i : Nat} (him : i < m) (hr : a + i ∈ Region.ready .any ops L) {K : Act → World → Prop} {Q : Exit → Act → World → Prop}
    (hK : ∀ g' act' w', Inv w0 ops ancs a m outs tm0 H0 c0 c' gs ws (L.setIfInBounds (a + i) true) g' act' w' → K act' w') : wpOp P ops Q (a + i) K act w := by
  obtain ⟨hLi, o, ho, _⟩ := mem_ready.1 hr
  have hLi' := getD_false hLi
  obtain ⟨u, hu⟩ : ∃ u, outs[i]? = some u := ⟨_, List.getElem?_eq_getElem (by omega)⟩
  obtain ⟨⟨h, hstep, hnew⟩, hvis, hdst, hc1, hc2, hc3, hc4⟩ := hspec i o u ho hu
  have hanc := anc_ready hp hI.cl ho hr
  have hdep := deps_ready ho hr
  have hlt : ∀ {j u'}, outs[j]? = some u' → j < m := fun hj => by rw [← hlen]; exact (List.getElem?_eq_some_iff.1 hj).1
  have hget : ∀ j, j < m → ∃ p, ops[a + j]? = some p := fun j hj => ⟨_, Array.getElem?_eq_getElem (by omega)⟩
  -- the variables are as the machine saw them
  have hagree : ∀ t ∈ o.looksAt ops, ((outs.take i).foldl (fun tm u => putT tm u.dst u.v) tm0).get? t = (tmSel (fun i => L.getD (a + i) false) 0 outs tm0).get? t := by
    intro t ht
    have h0 := tmSel_take (outs := outs) (k := 0) (n := i) (tm := tm0)
    simp only [Nat.zero_add] at h0
    rw [← h0]
    refine tmSel_get rfl rfl hI.sd hI.sd fun j v hj hd => ?_
    rw [Nat.zero_add]
    have hjm := hlt hj
    obtain ⟨p, hpj⟩ := hget j hjm
    have hdj := (hspec j p v hpj hj).2.2.1
    rcases Nat.lt_trichotomy j i with hji | hji | hji
    · rw [show Nat.blt j i = true from Nat.ble_eq_true_of_le hji]
      rcases hpair j i p o hji him hpj ho with h1 | h1
      · exact (hanc _ h1).symm
      · exact absurd ht ((Oper.apart_spec h1).1 t (by rw [← hdj, hd]))
    · subst hji
      rw [hLi']
      cases hb : Nat.blt j j with
      | false => rfl
      | true => unfold Nat.blt at hb; have := Nat.le_of_ble_eq_true hb; omega
    · have e : Nat.blt j i = false := by
        cases hb : Nat.blt j i with
        | false => rfl
        | true => unfold Nat.blt at hb; have := Nat.le_of_ble_eq_true hb; omega
      rw [e]
      rcases hpair i j o p hji hjm ho hpj with h1 | h1
      · cases hLj : L.getD (a + j) false with
        | false => rfl
        | true =>
          have := hI.cl _ p hpj hLj _ h1
          rw [hLi'] at this
          cases this
      · exact absurd ht ((Oper.apart_spec h1).2.2 t (by rw [← hdj, hd]))
  have hstep' : stepX P T call ops (tmSel (fun i => L.getD (a + i) false) 0 outs tm0) o ⟨visX a (outs.take i) (depsX o) ++ H0, u.c, u.c⟩ = some (u.v, ⟨h, u.e, u.c⟩) := by
    rw [← stepX_congr P T hagree]
    exact hstep
  -- what the operation sees lies in memory
  have hvisM : ∀ id b, find id (visX a (outs.take i) (depsX o)) = some b → ∃ k c ob, g.ν id = some (k, c) ∧ g.own k = some id ∧ w.heap[k]? = some ob ∧ BlkOk g.ν c b ob := by
    intro id b hb
    obtain ⟨j, hj, haj, u', hu', hf⟩ := find_vis hb
    have hij : j - a < i := by
      have := (List.getElem?_eq_some_iff.1 hu').1
      simp at this
      omega
    rw [List.getElem?_take_of_lt hij] at hu'
    have hLj := hdep j hj
    rw [show j = a + (j - a) by omega] at hLj
    exact (hI.nw _ _ hu' hLj).blk id b hf
  have hM : M w0 g (visX a (outs.take i) (depsX o) ++ H0) w := by
    refine ⟨fun id b hb => ?_, hI.m0.mine, hI.m0.base⟩
    rcases find_append hb with hb | hb
    · exact hvisM id b hb
    · exact hI.m0.blk id b hb
  have hfree := hI.fre i u hu hLi'
  have hout : ∀ id p, g.ν id = some p → id < u.c ∨ u.e ≤ id := fun id p hid => by
    rcases Nat.lt_or_ge id u.c with h1 | h1
    · exact .inl h1
    · rcases Nat.lt_or_ge u.e id with h2 | h2
      · exact .inr (by omega)
      · have := hfree id h1 h2
        rw [this] at hid
        cases hid
  refine wpOp_step ho fun K' hK' => ?_
  refine stepX_good P T hT hc hstep' hM hI.tm hfree ?_
  rintro u' w' ⟨g', hM', hfr0, hrel'⟩
  have hfr' : Fr u.c u.c u.e g w g' w' := hfr0
  clear hfr0
  refine hK' _ _ (hK g' _ w' ?_)
  have hLset : ∀ j, (L.setIfInBounds (a + i) true).getD j false = (L.getD j false || Nat.beq j (a + i)) := by
    intro j
    by_cases e : j = a + i
    · subst e
      have hsz : a + i < L.size := by rw [hI.sz]; exact (Array.getElem?_eq_some_iff.1 ho).1
      simp [hsz]
    · have : Nat.beq j (a + i) = false := by
        cases hb : Nat.beq j (a + i) with
        | false => rfl
        | true => exact absurd (Nat.eq_of_beq_eq_true hb) e
      rw [getD_set_ne false (Ne.symm e), this, Bool.or_false]
  refine ⟨by simpa using hI.sz, fun j hj => ?_, fun j hj => ?_, ?_, hI.m0.keep hfr' hM' hout, ?_, ?_, ?_, ?_, by rw [put_defers]; exact hI.df, hI.sd⟩
  · rw [hLset, hI.lo j hj]
    rfl
  · rw [hLset, hI.hi j hj, Bool.false_or]
    cases hb : Nat.beq j (a + i) with
    | false => rfl
    | true => have := Nat.eq_of_beq_eq_true hb; omega
  · intro j p hpj hLj k hk
    rw [hLset] at hLj ⊢
    rw [Bool.or_eq_true] at hLj ⊢
    left
    rcases hLj with hLj | hLj
    · exact hI.cl j p hpj hLj k hk
    · have := Nat.eq_of_beq_eq_true hLj
      subst this
      exact hanc k hk
  · refine ⟨hI.fr.ext.trans hfr'.ext, fun id hid => ?_, Nat.le_trans hI.fr.size hfr'.size, fun k hk hd => ?_⟩
    · rw [hfr'.rng id (by omega), hI.fr.rng id hid]
    · obtain ⟨e1, e2⟩ := hI.fr.old k hk hd
      obtain ⟨e3, e4⟩ := hfr'.old k (Nat.lt_of_lt_of_le hk hI.fr.size) (fun id hid => by rw [e2] at hid; have := hd id hid; omega)
      exact ⟨e3.trans e1, e4.trans e2⟩
  · intro j v hj hLj
    rw [hLset, Bool.or_eq_true] at hLj
    by_cases hji : j = i
    · rw [hji, hu] at hj
      cases hj
      refine ⟨fun id b hb => ?_, hM'.mine, hM'.base⟩
      rcases find_append hb with hb | hb
      · rw [hnew] at hb
        exact hM'.blk id b (find_news hb)
      · rw [hvis] at hb
        exact (M.keep (H := visX a (outs.take i) (depsX o)) ⟨hvisM, hI.m0.mine, hI.m0.base⟩ hfr' hM' hout).blk id b hb
    · have hLj' : L.getD (a + j) false = true := by
        rcases hLj with h1 | h1
        · exact h1
        · have := Nat.eq_of_beq_eq_true h1; omega
      exact (hI.nw j v hj hLj').keep hfr' hM' hout
  · intro j v hj hLj
    rw [hLset, Bool.or_eq_false_iff] at hLj
    have hji : j ≠ i := fun e => by subst e; have := hLj.2; simp at this
    have hF := hI.fre j v hj hLj.1
    obtain ⟨p, hpj⟩ := hget j (hlt hj)
    obtain ⟨_, _, _, d1, d2, d3, d4⟩ := hspec j p v hpj hj
    intro id h1 h2
    rw [hfr'.rng id ?_]
    · exact hF id h1 h2
    · rcases Nat.lt_or_gt_of_ne hji with h3 | h3
      · have := hc4 j v hj h3
        left
        omega
      · have := d4 i u hu h3
        right
        omega
  · have hsel : (fun j => (L.setIfInBounds (a + i) true).getD (a + j) false) = (fun j => L.getD (a + j) false || Nat.beq j (0 + i)) := by
      funext j
      rw [hLset, Nat.zero_add]
      congr 1
      cases hb : Nat.beq j i with
      | true => have := Nat.eq_of_beq_eq_true hb; subst this; simp
      | false =>
        cases hb2 : Nat.beq (a + j) (a + i) with
        | false => rfl
        | true => have := Nat.eq_of_beq_eq_true hb2; rw [show j = i by omega] at hb; simp at hb
    rw [hsel, tmSel_add (sel := fun j => L.getD (a + j) false) hu (by rw [Nat.zero_add]; exact hLi') ?_, ← hdst]
    · exact putT_rels (hI.tm.mono hfr'.ext) _ hrel'
    · intro j v t hj hij hLj hd
      rw [Nat.zero_add] at hLj
      obtain ⟨p, hpj⟩ := hget j (hlt hj)
      have hdj := (hspec j p v hpj hj).2.2.1
      rcases hpair i j o p hij (hlt hj) ho hpj with h1 | h1
      · have := hI.cl _ p hpj hLj _ h1
        rw [hLi'] at this
        cases this
      · rw [hdj]
        exact (Oper.apart_spec h1).2.1 t (by rw [← hdst, hd])
theorem plan_of {ops : Array Oper} {lens : List Nat} (h : planX ops = some lens) : Plan ops (ancsX ops.toList []) ∧ lensOk ops (ancsX ops.toList []) 0 lens = true := by
  unfold planX at h
  cases hb : (ancOk (ancsX ops.toList []) 0 ops.toList && lensOk ops (ancsX ops.toList []) 0 (cutsX 0 0 (sufX (ancsX ops.toList []))) && Region.noSelect ops) with
  | false => rw [hb] at h; cases h
  | true =>
    rw [hb] at h
    cases h
    simp only [Bool.and_eq_true] at hb
    refine ⟨⟨hb.2, fun i o ho => ?_⟩, hb.1.2⟩
    have := ancOk_spec hb.1.1 i o (by simpa using ho)
    simpa [ancOf] using this
/-- A stretch, in whatever order. -/
theorem seg_good {w0 : Bs} (hT : Tab T w0) {call : Caller} (hc : CallOk P w0 call) {ops : Array Oper} {ancs : List Nat} (hp : Plan ops ancs) {a m : Nat} {outs : List Out} {tm0 : Tm} {H0 : Heap} {c0 c' : Nat} {gs : Gh} {ws : World}
    (hlen : outs.length = m) (hbound : a + m ≤ ops.size) (hpair : ∀ j k o p, j < k → k < m → ops[a + j]? = some o → ops[a + k]? = some p → (ancOf ancs (a + k)).testBit (a + j) = true ∨ o.apart ops p = true)
    (hwall : ∀ i k, a + m ≤ i → i < ops.size → k < a + m → (ancOf ancs i).testBit k = true)
    (hspec : ∀ i o u, ops[a + i]? = some o → outs[i]? = some u → (∃ h, stepX P T call ops ((outs.take i).foldl (fun tm u => putT tm u.dst u.v) tm0) o ⟨visX a (outs.take i) (depsX o) ++ H0, u.c, u.c⟩ = some (u.v, ⟨h, u.e, u.c⟩) ∧ u.new = newsX u.c h) ∧
        u.vis = visX a (outs.take i) (depsX o) ∧ u.dst = o.dst ∧ c0 ≤ u.c ∧ u.c ≤ u.e ∧ u.e < c' ∧ ∀ j u', outs[j]? = some u' → j < i → u'.e < u.c) {Q : Exit → Act → World → Prop}
    (hend : ∀ L g act w, Inv w0 ops ancs a m outs tm0 H0 c0 c' gs ws L g act w → (∀ j, j < a + m → L.getD j false = true) → ∀ fuel, L.toList.count false ≤ fuel → wpAny P .any ops Q fuel L act w) :
    ∀ fuel L g act w, Inv w0 ops ancs a m outs tm0 H0 c0 c' gs ws L g act w → L.toList.count false ≤ fuel → wpAny P .any ops Q fuel L act w := by
  intro fuel
  induction fuel with
  | zero =>
    intro L g act w hI hcnt
    refine hend L g act w hI (fun j hj => ?_) 0 hcnt
    cases hL : L.getD j false with
    | true => rfl
    | false =>
      have hlt : j < L.size := by rw [hI.sz]; omega
      have hmem : false ∈ L.toList := by
        have : L[j] = false := by simp [hlt] at hL; exact hL
        rw [← this]
        exact Array.mem_toList_iff.2 (Array.getElem_mem hlt)
      have := List.count_pos_iff.2 hmem
      omega
  | succ fuel ih =>
    intro L g act w hI hcnt
    by_cases hall : ∀ j, j < a + m → L.getD j false = true
    · exact hend L g act w hI hall _ hcnt
    · -- one that is not yet listed, the first
      have hex : ∃ i, (i < a + m ∧ L.getD i false = false) ∧ ∀ j, j < i → L.getD j false = true := by
        have : ∃ i, i < a + m ∧ L.getD i false = false := by
          refine Classical.byContradiction fun hn => hall fun j hj => ?_
          cases hL : L.getD j false with
          | true => rfl
          | false => exact absurd ⟨j, hj, hL⟩ hn
        obtain ⟨i, hi, hL⟩ := this
        induction i using Nat.strongRecOn with
        | ind i ihh =>
          by_cases hall2 : ∀ j, j < i → L.getD j false = true
          · exact ⟨i, ⟨hi, hL⟩, hall2⟩
          · have : ∃ j, j < i ∧ L.getD j false = false := by
              refine Classical.byContradiction fun hn => hall2 fun j hj => ?_
              cases hL : L.getD j false with
              | true => rfl
              | false => exact absurd ⟨j, hj, hL⟩ hn
            obtain ⟨j, hj, hLj⟩ := this
            exact ihh j hj (by omega) hLj
      obtain ⟨i, ⟨hi, hLi⟩, hmin⟩ := hex
      have hisz : i < ops.size := by omega
      have hir : i ∈ Region.ready .any ops L := ready_of (Array.getElem?_eq_getElem hisz) (getD_false' (by rw [hI.sz]; exact hisz) hLi) fun d hd => hmin d ((hp.anc i _ (Array.getElem?_eq_getElem hisz)).2 d hd)
      refine ⟨fun h0 => (by rw [h0] at hir; cases hir), fun k hk => ?_⟩
      obtain ⟨hLk, o, hok, _⟩ := mem_ready.1 hk
      have hksz := (Array.getElem?_eq_some_iff.1 hok).1
      have hka : a ≤ k := Nat.le_of_not_lt fun h => by
        have := getD_true (hI.lo k h)
        rw [hLk] at this
        cases this
      have hkm : k < a + m := Nat.lt_of_not_le fun h => by
        have := anc_ready hp hI.cl hok hk i (hwall k i h hksz hi)
        rw [hLi] at this
        cases this
      obtain ⟨q, rfl⟩ : ∃ q, k = a + q := ⟨k - a, by omega⟩
      refine Inv.step P T hT hc hp hlen hbound hpair hspec hI (by omega) hk fun g' act' w' hI' => ih _ _ _ _ hI' ?_
      have := count_set hLk
      omega
end
end Go.Proofs.YtmpmbnmldmpmiaaGreatDoor.Sim
set_option linter.unusedVariables false
set_option linter.unusedSimpArgs false
namespace Go.Proofs.YtmpmbnmldmpmiaaGreatDoor.Sim
open Go Go.RowKit
section
variable {ops : Array Oper} {ancs : List Nat} {a m : Nat} {outs : List Out} {tm0 : Tm} {L : Array Bool}
theorem blt_iff (j i : Nat) : Nat.blt j i = decide (j < i) := by
  cases h : Nat.blt j i with
  | true => unfold Nat.blt at h; have := Nat.le_of_ble_eq_true h; simp; omega
  | false =>
    have : ¬ j < i := fun e => by rw [show Nat.blt j i = true from Nat.ble_eq_true_of_le e] at h; cases h
    simp [this]
/-- The variables are as the machine saw them. -/
theorem agree_of (hsd : Sound tm0) (hp : Plan ops ancs) (hlen : outs.length = m) (hbound : a + m ≤ ops.size) (hpair : ∀ j k o p, j < k → k < m → ops[a + j]? = some o → ops[a + k]? = some p → (ancOf ancs (a + k)).testBit (a + j) = true ∨ o.apart ops p = true)
    (hdst : ∀ j p u, ops[a + j]? = some p → outs[j]? = some u → u.dst = p.dst) (hcl : Closed ops ancs L) {i : Nat} {o : Oper} (him : i < m) (ho : ops[a + i]? = some o) (hLi : L.getD (a + i) false = false)
    (hanc : ∀ k, (ancOf ancs (a + i)).testBit k = true → L.getD k false = true) :
    ∀ t ∈ o.looksAt ops, ((outs.take i).foldl (fun tm u => putT tm u.dst u.v) tm0).get? t = (tmSel (fun i => L.getD (a + i) false) 0 outs tm0).get? t := by
  have hlt : ∀ {j u'}, outs[j]? = some u' → j < m := fun hj => by rw [← hlen]; exact (List.getElem?_eq_some_iff.1 hj).1
  have hget : ∀ j, j < m → ∃ p, ops[a + j]? = some p := fun j hj => ⟨_, Array.getElem?_eq_getElem (by omega)⟩
  intro t ht
  have h0 := tmSel_take (outs := outs) (k := 0) (n := i) (tm := tm0)
  simp only [Nat.zero_add] at h0
  rw [← h0]
  refine tmSel_get rfl rfl hsd hsd fun j v hj hd => ?_
  rw [Nat.zero_add, blt_iff]
  have hjm := hlt hj
  obtain ⟨p, hpj⟩ := hget j hjm
  have hdj := hdst j p v hpj hj
  rcases Nat.lt_trichotomy j i with hji | hji | hji
  · rw [decide_eq_true hji]
    rcases hpair j i p o hji him hpj ho with h1 | h1
    · exact (hanc _ h1).symm
    · exact absurd ht ((Oper.apart_spec h1).1 t (by rw [← hdj, hd]))
  · subst hji
    rw [hLi, decide_eq_false (Nat.lt_irrefl _)]
  · rw [decide_eq_false (by omega)]
    rcases hpair i j o p hji hjm ho hpj with h1 | h1
    · cases hLj : L.getD (a + j) false with
      | false => rfl
      | true =>
        have := hcl _ p hpj hLj _ h1
        rw [hLi] at this
        cases this
    · exact absurd ht ((Oper.apart_spec h1).2.2 t (by rw [← hdj, hd]))
theorem getD_set {i : Nat} (h : i < L.size) (j : Nat) : (L.setIfInBounds i true).getD j false = (L.getD j false || Nat.beq j i) := by
  by_cases e : j = i
  · subst e
    simp [h]
  · have : Nat.beq j i = false := by
      cases hb : Nat.beq j i with
      | false => rfl
      | true => exact absurd (Nat.eq_of_beq_eq_true hb) e
    rw [getD_set_ne false (Ne.symm e), this, Bool.or_false]
theorem sel_next (hsz : L.size = ops.size) (hlen : outs.length = m) (hbound : a + m ≤ ops.size) (hpair : ∀ j k o p, j < k → k < m → ops[a + j]? = some o → ops[a + k]? = some p → (ancOf ancs (a + k)).testBit (a + j) = true ∨ o.apart ops p = true)
    (hdst : ∀ j p u, ops[a + j]? = some p → outs[j]? = some u → u.dst = p.dst) (hcl : Closed ops ancs L) {i : Nat} {o : Oper} {u : Out} (him : i < m) (ho : ops[a + i]? = some o) (hu : outs[i]? = some u) (hLi : L.getD (a + i) false = false) :
    tmSel (fun j => (L.setIfInBounds (a + i) true).getD (a + j) false) 0 outs tm0 = putT (tmSel (fun j => L.getD (a + j) false) 0 outs tm0) o.dst u.v := by
  have hlt : ∀ {j u'}, outs[j]? = some u' → j < m := fun hj => by rw [← hlen]; exact (List.getElem?_eq_some_iff.1 hj).1
  have hget : ∀ j, j < m → ∃ p, ops[a + j]? = some p := fun j hj => ⟨_, Array.getElem?_eq_getElem (by omega)⟩
  have hsel : (fun j => (L.setIfInBounds (a + i) true).getD (a + j) false) = (fun j => L.getD (a + j) false || Nat.beq j (0 + i)) := by
    funext j
    rw [getD_set (by rw [hsz]; omega), Nat.zero_add]
    congr 1
    cases hb : Nat.beq j i with
    | true => have := Nat.eq_of_beq_eq_true hb; subst this; simp
    | false =>
      cases hb2 : Nat.beq (a + j) (a + i) with
      | false => rfl
      | true => have := Nat.eq_of_beq_eq_true hb2; rw [show j = i by omega] at hb; simp at hb
  rw [hsel, tmSel_add (sel := fun j => L.getD (a + j) false) hu (by rw [Nat.zero_add]; exact hLi) ?_, hdst i o u ho hu]
  intro j v t hj hij hLj hd
  rw [Nat.zero_add] at hLj
  obtain ⟨p, hpj⟩ := hget j (hlt hj)
  have hdj := hdst j p v hpj hj
  rcases hpair i j o p hij (hlt hj) ho hpj with h1 | h1
  · have := hcl _ p hpj hLj _ h1
    rw [hLi] at this
    cases this
  · rw [hdj]
    exact (Oper.apart_spec h1).2.1 t (by rw [← hdst i o u ho hu, hd])
end
section
variable (P : Program) (T : Nat → Option (List Value))
def cur (L : Array Bool) (k : Nat) (S S' : St) : St := if L.getD k false = true then S' else S
structure Inv2 (w0 : Bs) (ops : Array Oper) (ancs : List Nat) (a m x : Nat) (outs : List Out) (tm0 : Tm) (S S' : St) (gs : Gh) (ws : World) (L : Array Bool) (g : Gh) (act : Act) (w : World) : Prop where
  sz : L.size = ops.size
  lo : ∀ j, j < a → L.getD j false = true
  hi : ∀ j, a + m ≤ j → L.getD j false = false
  cl : Closed ops ancs L
  m0 : M w0 g (cur L (a + x) S S').heap w
  fr : Fr S.next (cur L (a + x) S S').low (cur L (a + x) S S').next gs ws g w
  tm : TmOk g.ν (tmSel (fun i => L.getD (a + i) false) 0 outs tm0) act
  df : act.defers = []
  sd : Sound tm0
theorem Inv2.step {w0 : Bs} (hT : Tab T w0) {call : Caller} (hc : CallOk P w0 call) {ops : Array Oper} {ancs : List Nat} (hp : Plan ops ancs) {a m x : Nat} {outs : List Out} {tm0 : Tm} {S S' : St} {gs : Gh} {ws : World} {L : Array Bool} {g : Gh} {act : Act} {w : World}
    (hlen : outs.length = m) (hbound : a + m ≤ ops.size) (hpair : ∀ j k o p, j < k → k < m → ops[a + j]? = some o → ops[a + k]? = some p → (ancOf ancs (a + k)).testBit (a + j) = true ∨ o.apart ops p = true)
    (hspec : ∀ i o u, ops[a + i]? = some o → outs[i]? = some u → u.dst = o.dst ∧ (i = x → stepX P T call ops ((outs.take i).foldl (fun tm u => putT tm u.dst u.v) tm0) o S = some (u.v, S')) ∧
      (i ≠ x → ∀ S2, stepX P T call ops ((outs.take i).foldl (fun tm u => putT tm u.dst u.v) tm0) o S2 = some (u.v, S2)))
    (hS1 : S.next ≤ S'.next) (hS2 : S'.low ≤ S.low) (hS3 : S.low ≤ S.next) (hfs : Free gs S.next S'.next)
    (hI : Inv2 w0 ops ancs a m x outs tm0 S S' gs ws L g act w) {i : Nat} (him : i < m) (hr : a + i ∈ Region.ready .any ops L) {K : Act → World → Prop} {Q : Exit → Act → World → Prop}
    (hK : ∀ g' act' w', Inv2 w0 ops ancs a m x outs tm0 S S' gs ws (L.setIfInBounds (a + i) true) g' act' w' → K act' w') : wpOp P ops Q (a + i) K act w := by
  obtain ⟨hLi, o, ho, _⟩ := mem_ready.1 hr
  have hLi' := getD_false hLi
  obtain ⟨u, hu⟩ : ∃ u, outs[i]? = some u := ⟨_, List.getElem?_eq_getElem (by omega)⟩
  obtain ⟨hdst, hsx, hsp⟩ := hspec i o u ho hu
  have hanc := anc_ready hp hI.cl ho hr
  have hagree := agree_of (tm0 := tm0) hI.sd hp hlen hbound hpair (fun j p u hj hu => (hspec j p u hj hu).1) hI.cl him ho hLi' hanc
  have hasz : a + i < L.size := by rw [hI.sz]; omega
  have hLset := fun j => getD_set hasz j
  have hnext := sel_next (tm0 := tm0) hI.sz hlen hbound hpair (fun j p u hj hu => (hspec j p u hj hu).1) hI.cl him ho hu hLi'
  have rest : (∀ j, j < a → (L.setIfInBounds (a + i) true).getD j false = true) ∧ (∀ j, a + m ≤ j → (L.setIfInBounds (a + i) true).getD j false = false) ∧ Closed ops ancs (L.setIfInBounds (a + i) true) := by
    refine ⟨fun j hj => by rw [hLset, hI.lo j hj]; rfl, fun j hj => ?_, fun j p hpj hLj k hk => ?_⟩
    · rw [hLset, hI.hi j hj, Bool.false_or]
      cases hb : Nat.beq j (a + i) with
      | false => rfl
      | true => have := Nat.eq_of_beq_eq_true hb; omega
    · rw [hLset] at hLj ⊢
      rw [Bool.or_eq_true] at hLj ⊢
      left
      rcases hLj with hLj | hLj
      · exact hI.cl j p hpj hLj k hk
      · have := Nat.eq_of_beq_eq_true hLj
        subst this
        exact hanc k hk
  refine wpOp_step ho fun K' hK' => ?_
  by_cases hix : i = x
  · have hc1 : cur L (a + x) S S' = S := by unfold cur; rw [← hix, hLi']; rfl
    have hc2 : cur (L.setIfInBounds (a + i) true) (a + x) S S' = S' := by unfold cur; rw [hLset, hix]; simp
    have hm0 := hI.m0
    have hfr := hI.fr
    rw [hc1] at hm0 hfr
    have hstep := hsx hix
    rw [stepX_congr P T hagree] at hstep
    have hfree : Free g S.next S'.next := fun id e1 e2 => by rw [hfr.rng id (.inr e1)]; exact hfs id e1 e2
    refine stepX_good P T hT hc hstep hm0 hI.tm hfree ?_
    rintro u' w' ⟨g', hM', hfr', hrel'⟩
    refine hK' _ _ (hK g' _ w' ⟨by simpa using hI.sz, rest.1, rest.2.1, rest.2.2, by rw [hc2]; exact hM', ?_, ?_, by rw [put_defers]; exact hI.df, hI.sd⟩)
    · rw [hc2]
      exact hfr.trans hfr' hS2 (Nat.le_refl _) hS1
    · rw [hnext]
      exact putT_rels (hI.tm.mono hfr'.ext) _ hrel'
  · have hc2 : cur (L.setIfInBounds (a + i) true) (a + x) S S' = cur L (a + x) S S' := by
      unfold cur
      rw [hLset]
      have : Nat.beq (a + x) (a + i) = false := by
        cases hb : Nat.beq (a + x) (a + i) with
        | false => rfl
        | true => exact absurd (show i = x by have := Nat.eq_of_beq_eq_true hb; omega) hix
      rw [this, Bool.or_false]
    have hcn : S.next ≤ (cur L (a + x) S S').next ∧ (cur L (a + x) S S').next ≤ S'.next ∧ (cur L (a + x) S S').low ≤ (cur L (a + x) S S').next := by
      unfold cur
      split <;> omega
    have hstep := hsp hix ⟨(cur L (a + x) S S').heap, (cur L (a + x) S S').next, (cur L (a + x) S S').next⟩
    rw [stepX_congr P T hagree] at hstep
    have hfree : Free g (cur L (a + x) S S').next (cur L (a + x) S S').next := fun id e1 e2 => by rw [hI.fr.rng id (.inr e1)]; exact hfs id (by omega) (by omega)
    refine stepX_good P T hT hc hstep hI.m0 hI.tm hfree ?_
    rintro u' w' ⟨g', hM', hfr0, hrel'⟩
    have hfr' : Fr (cur L (a + x) S S').next (cur L (a + x) S S').next (cur L (a + x) S S').next g w g' w' := hfr0
    refine hK' _ _ (hK g' _ w' ⟨by simpa using hI.sz, rest.1, rest.2.1, rest.2.2, by rw [hc2]; exact hM', ?_, ?_, by rw [put_defers]; exact hI.df, hI.sd⟩)
    · rw [hc2]
      exact hI.fr.trans (hfr'.weaken (lo2 := (cur L (a + x) S S').low) hcn.2.2 (Nat.le_refl _)) (Nat.le_refl _) hcn.1 (Nat.le_refl _)
    · rw [hnext]
      exact putT_rels (hI.tm.mono hfr'.ext) _ hrel'
/-- A stretch with one such operation, in whatever order. -/
theorem seg_good2 {w0 : Bs} (hT : Tab T w0) {call : Caller} (hc : CallOk P w0 call) {ops : Array Oper} {ancs : List Nat} (hp : Plan ops ancs) {a m x : Nat} {outs : List Out} {tm0 : Tm} {S S' : St} {gs : Gh} {ws : World}
    (hlen : outs.length = m) (hbound : a + m ≤ ops.size) (hpair : ∀ j k o p, j < k → k < m → ops[a + j]? = some o → ops[a + k]? = some p → (ancOf ancs (a + k)).testBit (a + j) = true ∨ o.apart ops p = true)
    (hwall : ∀ i k, a + m ≤ i → i < ops.size → k < a + m → (ancOf ancs i).testBit k = true)
    (hspec : ∀ i o u, ops[a + i]? = some o → outs[i]? = some u → u.dst = o.dst ∧ (i = x → stepX P T call ops ((outs.take i).foldl (fun tm u => putT tm u.dst u.v) tm0) o S = some (u.v, S')) ∧
      (i ≠ x → ∀ S2, stepX P T call ops ((outs.take i).foldl (fun tm u => putT tm u.dst u.v) tm0) o S2 = some (u.v, S2)))
    (hS1 : S.next ≤ S'.next) (hS2 : S'.low ≤ S.low) (hS3 : S.low ≤ S.next) (hfs : Free gs S.next S'.next) {Q : Exit → Act → World → Prop}
    (hend : ∀ L g act w, Inv2 w0 ops ancs a m x outs tm0 S S' gs ws L g act w → (∀ j, j < a + m → L.getD j false = true) → ∀ fuel, L.toList.count false ≤ fuel → wpAny P .any ops Q fuel L act w) :
    ∀ fuel L g act w, Inv2 w0 ops ancs a m x outs tm0 S S' gs ws L g act w → L.toList.count false ≤ fuel → wpAny P .any ops Q fuel L act w := by
  intro fuel
  induction fuel with
  | zero =>
    intro L g act w hI hcnt
    refine hend L g act w hI (fun j hj => ?_) 0 hcnt
    cases hL : L.getD j false with
    | true => rfl
    | false =>
      have hlt : j < L.size := by rw [hI.sz]; omega
      have hmem : false ∈ L.toList := by
        have : L[j] = false := by simp [hlt] at hL; exact hL
        rw [← this]
        exact Array.mem_toList_iff.2 (Array.getElem_mem hlt)
      have := List.count_pos_iff.2 hmem
      omega
  | succ fuel ih =>
    intro L g act w hI hcnt
    by_cases hall : ∀ j, j < a + m → L.getD j false = true
    · exact hend L g act w hI hall _ hcnt
    · have hex : ∃ i, (i < a + m ∧ L.getD i false = false) ∧ ∀ j, j < i → L.getD j false = true := by
        have : ∃ i, i < a + m ∧ L.getD i false = false := by
          refine Classical.byContradiction fun hn => hall fun j hj => ?_
          cases hL : L.getD j false with
          | true => rfl
          | false => exact absurd ⟨j, hj, hL⟩ hn
        obtain ⟨i, hi, hL⟩ := this
        induction i using Nat.strongRecOn with
        | ind i ihh =>
          by_cases hall2 : ∀ j, j < i → L.getD j false = true
          · exact ⟨i, ⟨hi, hL⟩, hall2⟩
          · have : ∃ j, j < i ∧ L.getD j false = false := by
              refine Classical.byContradiction fun hn => hall2 fun j hj => ?_
              cases hL : L.getD j false with
              | true => rfl
              | false => exact absurd ⟨j, hj, hL⟩ hn
            obtain ⟨j, hj, hLj⟩ := this
            exact ihh j hj (by omega) hLj
      obtain ⟨i, ⟨hi, hLi⟩, hmin⟩ := hex
      have hisz : i < ops.size := by omega
      have hir : i ∈ Region.ready .any ops L := ready_of (Array.getElem?_eq_getElem hisz) (getD_false' (by rw [hI.sz]; exact hisz) hLi) fun d hd => hmin d ((hp.anc i _ (Array.getElem?_eq_getElem hisz)).2 d hd)
      refine ⟨fun h0 => (by rw [h0] at hir; cases hir), fun k hk => ?_⟩
      obtain ⟨hLk, o, hok, _⟩ := mem_ready.1 hk
      have hksz := (Array.getElem?_eq_some_iff.1 hok).1
      have hka : a ≤ k := Nat.le_of_not_lt fun h => by
        have := getD_true (hI.lo k h)
        rw [hLk] at this
        cases this
      have hkm : k < a + m := Nat.lt_of_not_le fun h => by
        have := anc_ready hp hI.cl hok hk i (hwall k i h hksz hi)
        rw [hLi] at this
        cases this
      obtain ⟨q, rfl⟩ : ∃ q, k = a + q := ⟨k - a, by omega⟩
      refine Inv2.step P T hT hc hp hlen hbound hpair hspec hS1 hS2 hS3 hfs hI (by omega) hk fun g' act' w' hI' => ih _ _ _ _ hI' ?_
      have := count_set hLk
      omega
end
end Go.Proofs.YtmpmbnmldmpmiaaGreatDoor.Sim
set_option linter.unusedVariables false
set_option linter.unusedSimpArgs false
namespace Go.Proofs.YtmpmbnmldmpmiaaGreatDoor.Sim
open Go Go.RowKit
/-- A block lies as told. -/
def BlkAt (g : Gh) (w : World) (id : Nat) (b : Blk) : Prop := ∃ k c o, g.ν id = some (k, c) ∧ g.own k = some id ∧ w.heap[k]? = some o ∧ BlkOk g.ν c b o
/-- Those behind number i that are listed have not turned a block. -/
def StillY (L : Array Bool) (a : Nat) (outs : List (Out × Nat)) (i id : Nat) : Prop := ∀ j u lw, outs[j]? = some (u, lw) → i < j → L.getD (a + j) false = true → seenV u id = true → id < lw
section
variable (P : Program) (T : Nat → Option (List Value))
/-- What holds within a stretch. -/
structure Inv3 (w0 : Bs) (ops : Array Oper) (ancs : List Nat) (a m : Nat) (outs : List (Out × Nat)) (tm0 : Tm) (H0 : Heap) (c0 c' : Nat) (gs : Gh) (ws : World) (L : Array Bool) (g : Gh) (act : Act) (w : World) : Prop where
  sz : L.size = ops.size
  lo : ∀ j, j < a → L.getD j false = true
  hi : ∀ j, a + m ≤ j → L.getD j false = false
  cl : Closed ops ancs L
  m0 : M w0 g H0 w
  fr : Fr c0 c0 c' gs ws g w
  nw : ∀ i u lw, outs[i]? = some (u, lw) → L.getD (a + i) false = true → ∀ id b, find id u.new = some b → StillY L a outs i id → BlkAt g w id b
  fre : ∀ i u lw, outs[i]? = some (u, lw) → L.getD (a + i) false = false → Free g u.c u.e
  base : ∀ id p, find id H0 = some p → id < c0 ∨ c' ≤ id
  tm : TmOk g.ν (tmSel (fun i => L.getD (a + i) false) 0 (outs.map (·.1)) tm0) act
  df : act.defers = []
  sd : Sound tm0
theorem kept_spec {id : Nat} : ∀ {l : List (Out × Nat)}, keptY id l = true → ∀ (j : Nat) (u : Out) (lw : Nat), l[j]? = some (u, lw) → seenV u id = true → id < lw
  | [], _, j, u, lw, h, _ => by simp at h
  | (v, x) :: r, hk, j, u, lw, h, hs => by
    simp only [keptY, Bool.and_eq_true] at hk
    cases j with
    | zero =>
      simp at h
      obtain ⟨rfl, rfl⟩ := h
      have := hk.1
      rw [hs] at this
      simp only [Bool.not_true, Bool.false_or] at this
      rw [blt_dec] at this
      exact of_decide_eq_true this
    | succ j => exact kept_spec hk.2 j u lw (by simpa using h) hs
/-- A filter by names keeps the first. -/
theorem find_filter_name {id : Nat} {q : Nat → Bool} : ∀ {H : Heap} {b : Blk}, find id (H.filter fun p => q p.1) = some b → q id = true ∧ find id H = some b
  | [], b, h => by cases h
  | (i, d) :: H, b, h => by
    simp only [List.filter] at h
    cases hp : q i with
    | true =>
      rw [hp] at h
      simp only [find] at h ⊢
      by_cases e : Nat.beq i id = true
      · rw [if_pos e] at h ⊢
        have e' := Nat.eq_of_beq_eq_true e
        subst e'
        exact ⟨hp, h⟩
      · rw [if_neg e] at h ⊢
        exact find_filter_name h
    | false =>
      rw [hp] at h
      obtain ⟨h1, h2⟩ := find_filter_name h
      refine ⟨h1, ?_⟩
      simp only [find]
      rw [if_neg fun e => by have e' := Nat.eq_of_beq_eq_true e; subst e'; rw [hp] at h1; cases h1]
      exact h2
theorem find_visY {id a : Nat} {outs : List (Out × Nat)} {b : Blk} : ∀ {l : List Nat}, find id (visY a outs l) = some b → ∃ j ∈ l, a ≤ j ∧ ∃ u lw, outs[j - a]? = some (u, lw) ∧ find id u.new = some b ∧ keptY id (outs.drop (j - a + 1)) = true
  | [], h => by cases h
  | j :: r, h => by
    simp only [visY] at h
    rcases find_append h with h | h
    · cases hc : Nat.ble a j with
      | false => rw [hc] at h; cases h
      | true =>
        rw [hc] at h
        simp only [cond_true] at h
        split at h
        · rename_i u lw hu
          obtain ⟨h1, h2⟩ := find_filter_name (q := fun n => keptY n (outs.drop (j - a + 1))) h
          exact ⟨j, List.mem_cons_self, Nat.le_of_ble_eq_true hc, u, lw, hu, h2, h1⟩
        · cases h
    · obtain ⟨i, hi, h⟩ := find_visY h
      exact ⟨i, List.mem_cons_of_mem _ hi, h⟩
theorem find_left {id : Nat} {b : Blk} : ∀ {outs : List (Out × Nat)}, find id (leftY outs) = some b → ∃ (i : Nat) (u : Out) (lw : Nat), outs[i]? = some (u, lw) ∧ find id u.new = some b ∧ keptY id (outs.drop (i + 1)) = true
  | [], h => by cases h
  | (u, lw) :: r, h => by
    simp only [leftY] at h
    rcases find_append h with h | h
    · obtain ⟨h1, h2⟩ := find_filter_name (q := fun n => keptY n r) h
      exact ⟨0, u, lw, rfl, h2, by simpa using h1⟩
    · obtain ⟨i, v, x, h1, h2, h3⟩ := find_left h
      exact ⟨i + 1, v, x, by simpa using h1, h2, by simpa using h3⟩
theorem find_mem {id : Nat} : ∀ {H : Heap} {b : Blk}, find id H = some b → (id, b) ∈ H
  | [], b, h => by cases h
  | (i, d) :: H, b, h => by
    simp only [find] at h
    by_cases e : Nat.beq i id = true
    · rw [if_pos e] at h
      cases h
      have e' := Nat.eq_of_beq_eq_true e
      subst e'
      exact List.mem_cons_self
    · rw [if_neg e] at h
      exact List.mem_cons_of_mem _ (find_mem h)
theorem far_spec {mask low : Nat} {vis : Heap} : ∀ {l : List (Out × Nat)} {k : Nat}, farY mask vis low k l = true → ∀ (j : Nat) (u : Out) (lw : Nat), l[j]? = some (u, lw) → mask.testBit (k + j) = false → ∀ id b, find id vis = some b → seenA u id = true → id < lw ∧ id < low
  | [], k, _, j, u, lw, h, _, id, b, _, _ => by simp at h
  | (v, x) :: r, k, hk, j, u, lw, h, hb, id, b, hf, hs => by
    simp only [farY, Bool.and_eq_true, Bool.or_eq_true] at hk
    cases j with
    | zero =>
      simp at h
      obtain ⟨rfl, rfl⟩ := h
      rcases hk.1 with h1 | h1
      · rw [Nat.add_zero] at hb
        unfold bit at h1
        rw [hb] at h1
        cases h1
      · have := List.all_eq_true.1 h1 _ (find_mem hf)
        simp only [hs, Bool.not_true, Bool.false_or, Bool.and_eq_true, blt_dec, decide_eq_true_eq] at this
        exact this
    | succ j => exact far_spec hk.2 j u lw (by simpa using h) (by rw [show k + 1 + j = k + (j + 1) by omega]; exact hb) id b hf hs
/-- What the evaluation of a stretch has shown of each of its operations. -/
structure Spec3 (call : Caller) (ops : Array Oper) (ancs : List Nat) (a c0 c' : Nat) (H0 : Heap) (tm0 : Tm) (outs : List (Out × Nat)) (i : Nat) (o : Oper) (u : Out) (lw : Nat) : Prop where
  step : ∃ h, stepX P T call ops ((outs.take i).foldl (fun tm u => putT tm u.1.dst u.1.v) tm0) o ⟨visY a (outs.take i) (depsX o) ++ H0, u.c, u.c⟩ = some (u.v, ⟨h, u.e, lw⟩) ∧ u.new = newsX c0 h
  vis : u.vis = visY a (outs.take i) (depsX o)
  dst : u.dst = o.dst
  c1 : c0 ≤ u.c
  c2 : u.c ≤ u.e
  c3 : u.e < c'
  c4 : ∀ j u' lw', outs[j]? = some (u', lw') → j < i → u'.e < u.c
  lw1 : c0 ≤ lw
  lw2 : lw ≤ u.c
  below : ∀ id b, find id u.vis = some b → id < u.c
  mine : ∀ id b, find id u.new = some b → seenV u id = true ∨ u.c ≤ id
  far : ∀ j u' lw', outs[j]? = some (u', lw') → j < i → (ancOf ancs (a + i)).testBit (a + j) = false → ∀ id b, find id u.vis = some b → seenA u' id = true → id < lw' ∧ id < lw
theorem map_take_fold {outs : List (Out × Nat)} {i : Nat} {tm0 : Tm} : (outs.take i).foldl (fun tm u => putT tm u.1.dst u.1.v) tm0 = ((outs.map (·.1)).take i).foldl (fun tm u => putT tm u.dst u.v) tm0 := by
  rw [← List.map_take, List.foldl_map]
theorem Inv3.step {w0 : Bs} (hT : Tab T w0) {call : Caller} (hc : CallOk P w0 call) {ops : Array Oper} {ancs : List Nat} (hp : Plan ops ancs) {a m : Nat} {outs : List (Out × Nat)} {tm0 : Tm} {H0 : Heap} {c0 c' : Nat} {gs : Gh} {ws : World} {L : Array Bool} {g : Gh} {act : Act} {w : World}
    (hlen : outs.length = m) (hbound : a + m ≤ ops.size) (hpair : ∀ j k o p, j < k → k < m → ops[a + j]? = some o → ops[a + k]? = some p → (ancOf ancs (a + k)).testBit (a + j) = true ∨ o.apart ops p = true)
    (hspec : ∀ i o u lw, ops[a + i]? = some o → outs[i]? = some (u, lw) → Spec3 P T call ops ancs a c0 c' H0 tm0 outs i o u lw)
    (hI : Inv3 w0 ops ancs a m outs tm0 H0 c0 c' gs ws L g act w) {i : Nat} (him : i < m) (hr : a + i ∈ Region.ready .any ops L) {K : Act → World → Prop} {Q : Exit → Act → World → Prop}
    (hK : ∀ g' act' w', Inv3 w0 ops ancs a m outs tm0 H0 c0 c' gs ws (L.setIfInBounds (a + i) true) g' act' w' → K act' w') : wpOp P ops Q (a + i) K act w := by
  obtain ⟨hLi, o, ho, _⟩ := mem_ready.1 hr
  have hLi' := getD_false hLi
  obtain ⟨⟨u, lw⟩, hu⟩ : ∃ u, outs[i]? = some u := ⟨_, List.getElem?_eq_getElem (by omega)⟩
  have hsp := hspec i o u lw ho hu
  obtain ⟨h, hstep, hnew⟩ := hsp.step
  have hvis := hsp.vis
  have hdst := hsp.dst
  have hc1 := hsp.c1
  have hc2 := hsp.c2
  have hc3 := hsp.c3
  have hanc := anc_ready hp hI.cl ho hr
  have hdep := deps_ready ho hr
  have hlt : ∀ {j u'}, outs[j]? = some u' → j < m := fun hj => by rw [← hlen]; exact (List.getElem?_eq_some_iff.1 hj).1
  have hget : ∀ j, j < m → ∃ p, ops[a + j]? = some p := fun j hj => ⟨_, Array.getElem?_eq_getElem (by omega)⟩
  have hum : (outs.map (·.1))[i]? = some u := by rw [List.getElem?_map, hu]; rfl
  have hmap : ∀ {j v}, (outs.map (·.1))[j]? = some v → ∃ x, outs[j]? = some (v, x) := fun {j v} hj => by
    rw [List.getElem?_map] at hj
    obtain ⟨⟨v', x⟩, h1, h2⟩ := Option.map_eq_some_iff.1 hj
    cases h2
    exact ⟨x, h1⟩
  have hagree : ∀ t ∈ o.looksAt ops, ((outs.take i).foldl (fun tm u => putT tm u.1.dst u.1.v) tm0).get? t = (tmSel (fun i => L.getD (a + i) false) 0 (outs.map (·.1)) tm0).get? t := by
    intro t ht
    rw [map_take_fold]
    have h0 := tmSel_take (outs := outs.map (·.1)) (k := 0) (n := i) (tm := tm0)
    simp only [Nat.zero_add] at h0
    rw [← h0]
    refine tmSel_get rfl rfl hI.sd hI.sd fun j v hj hd => ?_
    rw [Nat.zero_add]
    obtain ⟨x, hj⟩ := hmap hj
    have hjm := hlt hj
    obtain ⟨p, hpj⟩ := hget j hjm
    have hdj := (hspec j p v x hpj hj).dst
    rcases Nat.lt_trichotomy j i with hji | hji | hji
    · rw [show Nat.blt j i = true from Nat.ble_eq_true_of_le hji]
      rcases hpair j i p o hji him hpj ho with h1 | h1
      · exact (hanc _ h1).symm
      · exact absurd ht ((Oper.apart_spec h1).1 t (by rw [← hdj, hd]))
    · subst hji
      rw [hLi']
      cases hb : Nat.blt j j with
      | false => rfl
      | true => unfold Nat.blt at hb; have := Nat.le_of_ble_eq_true hb; omega
    · have e : Nat.blt j i = false := by
        cases hb : Nat.blt j i with
        | false => rfl
        | true => unfold Nat.blt at hb; have := Nat.le_of_ble_eq_true hb; omega
      rw [e]
      rcases hpair i j o p hji hjm ho hpj with h1 | h1
      · cases hLj : L.getD (a + j) false with
        | false => rfl
        | true =>
          have := hI.cl _ p hpj hLj _ h1
          rw [hLi'] at this
          cases this
      · exact absurd ht ((Oper.apart_spec h1).2.2 t (by rw [← hdj, hd]))
  have hstep' : stepX P T call ops (tmSel (fun i => L.getD (a + i) false) 0 (outs.map (·.1)) tm0) o ⟨visY a (outs.take i) (depsX o) ++ H0, u.c, u.c⟩ = some (u.v, ⟨h, u.e, lw⟩) := by
    rw [← stepX_congr P T hagree]
    exact hstep
  -- what the operation sees lies in memory
  have hvisM : ∀ id b, find id u.vis = some b → BlkAt g w id b := by
    intro id b hb
    have hb' := hb
    rw [hvis] at hb
    obtain ⟨j, hj, haj, u', lw', hu', hf, hk⟩ := find_visY hb
    have hij : j - a < i := by
      have := (List.getElem?_eq_some_iff.1 hu').1
      simp at this
      omega
    rw [List.getElem?_take_of_lt hij] at hu'
    have hLj := hdep j hj
    rw [show j = a + (j - a) by omega] at hLj
    refine hI.nw _ _ _ hu' hLj id b hf fun k v x hkv hjk hLk hs => ?_
    rcases Nat.lt_trichotomy k i with hki | hki | hki
    · refine kept_spec hk (k - (j - a + 1)) v x ?_ hs
      rw [List.getElem?_drop, show j - a + 1 + (k - (j - a + 1)) = k by omega, List.getElem?_take_of_lt hki]
      exact hkv
    · subst hki
      rw [hLi'] at hLk
      cases hLk
    · obtain ⟨p, hpk⟩ := hget k (hlt hkv)
      have hspk := hspec k p v x hpk hkv
      have hna : (ancOf ancs (a + k)).testBit (a + i) = false := by
        cases hbt : (ancOf ancs (a + k)).testBit (a + i) with
        | false => rfl
        | true =>
          have := hI.cl _ p hpk hLk _ hbt
          rw [hLi'] at this
          cases this
      obtain ⟨b2, hb2⟩ := Option.isSome_iff_exists.1 hs
      exact (hspk.far i u lw hu hki hna id b2 hb2 (by simp only [seenA, hb', Option.isSome_some, Bool.true_or])).2
  -- the owners that it is to know
  let gi : Gh := ⟨g.ν, fun k => match g.own k with
    | some id => if (find id u.vis).isSome = true ∨ id < c0 ∨ c' ≤ id then some id else none
    | none => none⟩
  have gown : ∀ k id, gi.own k = some id ↔ g.own k = some id ∧ ((find id u.vis).isSome = true ∨ id < c0 ∨ c' ≤ id) := by
    intro k id
    show (match g.own k with | some id => if (find id u.vis).isSome = true ∨ id < c0 ∨ c' ≤ id then some id else none | none => none) = some id ↔ _
    cases hk : g.own k with
    | none => simp
    | some id' =>
      simp only [Option.some.injEq]
      by_cases hd : (find id' u.vis).isSome = true ∨ id' < c0 ∨ c' ≤ id'
      · rw [if_pos hd]
        constructor
        · intro e; cases e; exact ⟨rfl, hd⟩
        · rintro ⟨e, _⟩; rw [e]
      · rw [if_neg hd]
        constructor
        · intro e; cases e
        · rintro ⟨e, h'⟩; subst e; exact absurd h' hd
  have gnone : ∀ k, gi.own k = none → ∀ id, g.own k = some id → ¬ ((find id u.vis).isSome = true ∨ id < c0 ∨ c' ≤ id) := by
    intro k hk id hid hd
    rw [(gown k id).2 ⟨hid, hd⟩] at hk
    cases hk
  have hM : M w0 gi (visY a (outs.take i) (depsX o) ++ H0) w := by
    refine ⟨fun id b hb => ?_, fun k id hk => hI.m0.mine k id ((gown k id).1 hk).1, hI.m0.base⟩
    rcases find_append hb with hb | hb
    · rw [← hvis] at hb
      obtain ⟨k, c, ob, h1, h2, h3, h4⟩ := hvisM id b hb
      exact ⟨k, c, ob, h1, (gown k id).2 ⟨h2, .inl (by rw [hb]; rfl)⟩, h3, h4⟩
    · obtain ⟨k, c, ob, h1, h2, h3, h4⟩ := hI.m0.blk id b hb
      exact ⟨k, c, ob, h1, (gown k id).2 ⟨h2, .inr (hI.base id b hb)⟩, h3, h4⟩
  have hfree := hI.fre i u lw hu hLi'
  refine wpOp_step ho fun K' hK' => ?_
  refine stepX_good P T hT hc hstep' hM hI.tm hfree ?_
  rintro u' w' ⟨g1, hM', hfr0, hrel'⟩
  have hfr' : Fr u.c lw u.e gi w g1 w' := hfr0
  clear hfr0
  let g' : Gh := ⟨g1.ν, fun k => match g1.own k with
    | some id => some id
    | none => g.own k⟩
  have own1 : ∀ k id, g1.own k = some id → g'.own k = some id := fun k id hk => by
    show (match g1.own k with | some id => some id | none => g.own k) = some id
    rw [hk]
  have own2 : ∀ k, g1.own k = none → g'.own k = g.own k := fun k hk => by
    show (match g1.own k with | some id => some id | none => g.own k) = g.own k
    rw [hk]
  have hext : Ext g.ν g1.ν := hfr'.ext
  have hrng : ∀ id, id < u.c ∨ u.e ≤ id → g1.ν id = g.ν id := hfr'.rng
  -- a block that the operation does not turn
  have still : ∀ k id b c ob, g.ν id = some (k, c) → g.own k = some id → w.heap[k]? = some ob → BlkOk g.ν c b ob → ((find id u.vis).isSome = true ∨ id < c0 ∨ c' ≤ id → id < lw ∨ u.e ≤ id) → BlkAt g' w' id b := by
    intro k id b c ob h1 h2 h3 h4 hlow
    obtain ⟨e1, e2⟩ := hfr'.old k (hI.m0.mine k id h2).2.1 (fun id' hid' => by
      obtain ⟨q1, q2⟩ := (gown k id').1 hid'
      rw [h2] at q1
      cases q1
      exact hlow q2)
    refine ⟨k, c, ob, hext _ _ h1, ?_, by rw [e1]; exact h3, h4.mono hext⟩
    cases hg : g1.own k with
    | none => rw [own2 k hg]; exact h2
    | some id' =>
      rw [own1 k id' hg]
      rw [e2] at hg
      rw [← ((gown k id').1 hg).1]
      exact h2
  have hlw1 := hsp.lw1
  have hM0' : M w0 g' H0 w' := by
    refine ⟨fun id b hb => ?_, fun k id hk => ?_, hM'.base⟩
    · obtain ⟨k, c, ob, h1, h2, h3, h4⟩ := hI.m0.blk id b hb
      exact still k id b c ob h1 h2 h3 h4 fun _ => by have := hI.base id b hb; omega
    · cases hg : g1.own k with
      | none =>
        rw [own2 k hg] at hk
        obtain ⟨q1, q2, c, q3⟩ := hI.m0.mine k id hk
        exact ⟨q1, Nat.lt_of_lt_of_le q2 hfr'.size, c, hext _ _ q3⟩
      | some id' =>
        rw [own1 k id' hg] at hk
        cases hk
        exact hM'.mine k id hg
  refine hK' _ _ (hK g' _ w' ?_)
  have hLset : ∀ j, (L.setIfInBounds (a + i) true).getD j false = (L.getD j false || Nat.beq j (a + i)) := by
    intro j
    by_cases e : j = a + i
    · subst e
      have hsz : a + i < L.size := by rw [hI.sz]; exact (Array.getElem?_eq_some_iff.1 ho).1
      simp [hsz]
    · have : Nat.beq j (a + i) = false := by
        cases hb : Nat.beq j (a + i) with
        | false => rfl
        | true => exact absurd (Nat.eq_of_beq_eq_true hb) e
      rw [getD_set_ne false (Ne.symm e), this, Bool.or_false]
  have hsub : ∀ i' id, StillY (L.setIfInBounds (a + i) true) a outs i' id → StillY L a outs i' id := fun i' id hst j v x hj hij hLj hs => hst j v x hj hij (by rw [hLset, hLj]; rfl) hs
  refine ⟨by simpa using hI.sz, fun j hj => ?_, fun j hj => ?_, ?_, hM0', ?_, ?_, ?_, hI.base, ?_, by rw [put_defers]; exact hI.df, hI.sd⟩
  · rw [hLset, hI.lo j hj]
    rfl
  · rw [hLset, hI.hi j hj, Bool.false_or]
    cases hb : Nat.beq j (a + i) with
    | false => rfl
    | true => have := Nat.eq_of_beq_eq_true hb; omega
  · intro j p hpj hLj k hk
    rw [hLset] at hLj ⊢
    rw [Bool.or_eq_true] at hLj ⊢
    left
    rcases hLj with hLj | hLj
    · exact hI.cl j p hpj hLj k hk
    · have := Nat.eq_of_beq_eq_true hLj
      subst this
      exact hanc k hk
  · refine ⟨hI.fr.ext.trans hext, fun id hid => ?_, Nat.le_trans hI.fr.size hfr'.size, fun k hk hd => ?_⟩
    · rw [show g'.ν id = g1.ν id from rfl, hrng id (by omega), hI.fr.rng id hid]
    · obtain ⟨e1, e2⟩ := hI.fr.old k hk hd
      obtain ⟨e3, e4⟩ := hfr'.old k (Nat.lt_of_lt_of_le hk hI.fr.size) (fun id hid => by
        have := ((gown k id).1 hid).1
        rw [e2] at this
        have := hd id this
        omega)
      refine ⟨e3.trans e1, ?_⟩
      rw [← e2]
      cases hg : g1.own k with
      | none => exact own2 k hg
      | some id' =>
        rw [own1 k id' hg]
        rw [e4] at hg
        exact ((gown k id').1 hg).1.symm
  · intro j v x hj hLj id b hf hst
    rw [hLset, Bool.or_eq_true] at hLj
    by_cases hji : j = i
    · rw [hji, hu] at hj
      cases hj
      rw [hnew] at hf
      obtain ⟨k, c, ob, h1, h2, h3, h4⟩ := hM'.blk id b (find_news hf)
      exact ⟨k, c, ob, h1, own1 k id h2, h3, h4⟩
    · have hLj' : L.getD (a + j) false = true := by
        rcases hLj with h1 | h1
        · exact h1
        · have := Nat.eq_of_beq_eq_true h1; omega
      obtain ⟨k, c, ob, h1, h2, h3, h4⟩ := hI.nw j v x hj hLj' id b hf (hsub j id hst)
      refine still k id b c ob h1 h2 h3 h4 fun hd => ?_
      rcases hd with hd | hd
      · rcases Nat.lt_or_gt_of_ne hji with hlt' | hlt'
        · exact .inl (hst i u lw hu hlt' (by rw [hLset]; simp) hd)
        · obtain ⟨p, hpj⟩ := hget j (hlt hj)
          have hspj := hspec j p v x hpj hj
          have hna : (ancOf ancs (a + j)).testBit (a + i) = false := by
            cases hbt : (ancOf ancs (a + j)).testBit (a + i) with
            | false => rfl
            | true =>
              have := hI.cl _ p hpj hLj' _ hbt
              rw [hLi'] at this
              cases this
          obtain ⟨b2, hb2⟩ := Option.isSome_iff_exists.1 hd
          have hidc := hsp.below id b2 hb2
          rcases hspj.mine id b hf with h5 | h5
          · obtain ⟨b3, hb3⟩ := Option.isSome_iff_exists.1 h5
            exact .inl (hspj.far i u lw hu hlt' hna id b3 hb3 (by simp only [seenA, hd, Bool.true_or])).1
          · have := hspj.c4 i u lw hu hlt'
            omega
      · omega
  · intro j v x hj hLj
    rw [hLset, Bool.or_eq_false_iff] at hLj
    have hji : j ≠ i := fun e => by subst e; have := hLj.2; simp at this
    have hF := hI.fre j v x hj hLj.1
    obtain ⟨p, hpj⟩ := hget j (hlt hj)
    have hspj := hspec j p v x hpj hj
    have d2 := hspj.c2
    intro id h1 h2
    rw [show g'.ν id = g1.ν id from rfl, hrng id ?_]
    · exact hF id h1 h2
    · rcases Nat.lt_or_gt_of_ne hji with h3 | h3
      · have := hsp.c4 j v x hj h3
        left
        omega
      · have := hspj.c4 i u lw hu h3
        right
        omega
  · have hsel : (fun j => (L.setIfInBounds (a + i) true).getD (a + j) false) = (fun j => L.getD (a + j) false || Nat.beq j (0 + i)) := by
      funext j
      rw [hLset, Nat.zero_add]
      congr 1
      cases hb : Nat.beq j i with
      | true => have := Nat.eq_of_beq_eq_true hb; subst this; simp
      | false =>
        cases hb2 : Nat.beq (a + j) (a + i) with
        | false => rfl
        | true => have := Nat.eq_of_beq_eq_true hb2; rw [show j = i by omega] at hb; simp at hb
    rw [hsel, tmSel_add (sel := fun j => L.getD (a + j) false) hum (by rw [Nat.zero_add]; exact hLi') ?_, ← hdst]
    · exact putT_rels (hI.tm.mono hext) _ hrel'
    · intro j v t hj hij hLj hd
      rw [Nat.zero_add] at hLj
      obtain ⟨x, hj⟩ := hmap hj
      obtain ⟨p, hpj⟩ := hget j (hlt hj)
      have hdj := (hspec j p v x hpj hj).dst
      rcases hpair i j o p hij (hlt hj) ho hpj with h1 | h1
      · have := hI.cl _ p hpj hLj _ h1
        rw [hLi'] at this
        cases this
      · rw [hdj]
        exact (Oper.apart_spec h1).2.1 t (by rw [← hdst, hd])
theorem chk_spec {mask a c0 c low : Nat} {vis new : Heap} {outs : List (Out × Nat)} (h : chkY mask a c0 c low vis new outs = true) : c0 ≤ low ∧ low ≤ c ∧ (∀ id b, find id vis = some b → id < c) ∧ (∀ id b, find id new = some b → (find id vis).isSome = true ∨ c ≤ id) ∧ farY mask vis low a outs = true := by
  simp only [chkY, Bool.and_eq_true] at h
  obtain ⟨⟨⟨⟨h1, h2⟩, h3⟩, h4⟩, h5⟩ := h
  refine ⟨Nat.le_of_ble_eq_true h1, Nat.le_of_ble_eq_true h2, fun id b hb => ?_, fun id b hb => ?_, h5⟩
  · have := List.all_eq_true.1 h3 _ (find_mem hb)
    rw [blt_dec] at this
    exact of_decide_eq_true this
  · have := List.all_eq_true.1 h4 _ (find_mem hb)
    rw [Bool.or_eq_true] at this
    exact this.imp (fun h => h) Nat.le_of_ble_eq_true
theorem mixX_spec {w0 : Bs} {call : Caller} (hc : CallOk P w0 call) {ops : Array Oper} {ancs : List Nat} {a c0 : Nat} {H0 : Heap} {tm0 : Tm} : ∀ {l : List Oper} {outs0 : List (Out × Nat)} {tm tm' : Tm} {c c' : Nat} {outs : List (Out × Nat)}, mixX P T call ops ancs a c0 H0 l outs0 tm c = some (tm', c', outs) →
    tm = outs0.foldl (fun tm u => putT tm u.1.dst u.1.v) tm0 → (∀ (j : Nat) u lw, outs0[j]? = some (u, lw) → u.e < c) → c0 ≤ c →
    outs.length = outs0.length + l.length ∧ outs.take outs0.length = outs0 ∧ tm' = outs.foldl (fun tm u => putT tm u.1.dst u.1.v) tm0 ∧ c ≤ c' ∧
      ∀ i o u lw, l[i]? = some o → outs[outs0.length + i]? = some (u, lw) → Spec3 P T call ops ancs a c0 c' H0 tm0 outs (outs0.length + i) o u lw
  | [], outs0, tm, tm', c, c', outs, h, ht, he, h0 => by
    cases h
    exact ⟨rfl, List.take_length, ht, Nat.le_refl _, fun i o u lw h1 _ => by simp at h1⟩
  | p :: r, outs0, tm, tm', c, c', outs, h, ht, he, h0 => by
    simp only [mixX] at h
    split at h
    rotate_left
    · cases h
    rename_i v S' hs
    cases hk : chkY ((ancs[a + outs0.length]?).getD 0) a c0 c S'.low (visY a outs0 (depsX p)) (newsX c0 S'.heap) outs0 with
    | false => rw [hk] at h; cases h
    | true =>
      rw [hk] at h
      simp only [cond_true] at h
      have hm := stepX_mono P T hc hs
      have hm1 : c ≤ S'.next := hm.1
      obtain ⟨k1, k2, k3, k4, k5⟩ := chk_spec hk
      obtain ⟨h1, h2, h3, h4, h5⟩ := mixX_spec hc h (by rw [List.foldl_append, ← ht]; rfl) (fun j u lw hj => by
        rcases Nat.lt_or_ge j outs0.length with hlt | hge
        · rw [List.getElem?_append_left hlt] at hj
          have := he j u lw hj
          omega
        · rw [List.getElem?_append_right hge] at hj
          have : j - outs0.length = 0 := by
            have := (List.getElem?_eq_some_iff.1 hj).1
            simp at this
            omega
          rw [this] at hj
          simp at hj
          obtain ⟨rfl, rfl⟩ := hj
          exact Nat.lt_succ_self _) (by omega)
      simp only [List.length_append, List.length_singleton] at h1 h2 h5
      have ht0 : outs.take outs0.length = outs0 := by
        have h6 : (outs.take (outs0.length + 1)).take outs0.length = outs.take outs0.length := by rw [List.take_take, Nat.min_eq_left (Nat.le_succ _)]
        rw [h2, List.take_append_of_le_length (Nat.le_refl _), List.take_length] at h6
        exact h6.symm
      refine ⟨by simp only [List.length_cons]; omega, ht0, h3, by omega, fun i o u lw hi hu => ?_⟩
      cases i with
      | zero =>
        simp at hi
        subst hi
        rw [Nat.add_zero] at hu ⊢
        have hx : outs[outs0.length]? = some (⟨v, c, S'.next, visY a outs0 (depsX p), newsX c0 S'.heap, p.dst⟩, S'.low) := by
          have := congrArg (fun l => l[outs0.length]?) h2
          simp only [List.getElem?_take_of_lt (Nat.lt_succ_self _)] at this
          rw [this]
          simp
        rw [hx] at hu
        simp only [Option.some.injEq, Prod.mk.injEq] at hu
        obtain ⟨rfl, rfl⟩ := hu
        refine ⟨⟨S'.heap, ?_, rfl⟩, by rw [ht0], rfl, h0, hm1, (by show S'.next < c'; omega), fun j u' lw' hj hlt => ?_, k1, k2, k3, fun id b hb => k4 id b hb, fun j u' lw' hj hlt hb id b hf hsn => ?_⟩
        · rw [ht0, ← ht]
          exact hs
        · have : outs0[j]? = some (u', lw') := by rw [← ht0, List.getElem?_take_of_lt hlt]; exact hj
          exact he j u' lw' this
        · have : outs0[j]? = some (u', lw') := by rw [← ht0, List.getElem?_take_of_lt hlt]; exact hj
          exact far_spec k5 j u' lw' this hb id b hf hsn
      | succ i =>
        simp at hi
        rw [show outs0.length + (i + 1) = outs0.length + 1 + i by omega] at hu ⊢
        exact h5 i o u lw hi hu
/-- Such a stretch, in whatever order. -/
theorem seg_good3 {w0 : Bs} (hT : Tab T w0) {call : Caller} (hc : CallOk P w0 call) {ops : Array Oper} {ancs : List Nat} (hp : Plan ops ancs) {a m : Nat} {outs : List (Out × Nat)} {tm0 : Tm} {H0 : Heap} {c0 c' : Nat} {gs : Gh} {ws : World}
    (hlen : outs.length = m) (hbound : a + m ≤ ops.size) (hpair : ∀ j k o p, j < k → k < m → ops[a + j]? = some o → ops[a + k]? = some p → (ancOf ancs (a + k)).testBit (a + j) = true ∨ o.apart ops p = true)
    (hwall : ∀ i k, a + m ≤ i → i < ops.size → k < a + m → (ancOf ancs i).testBit k = true)
    (hspec : ∀ i o u lw, ops[a + i]? = some o → outs[i]? = some (u, lw) → Spec3 P T call ops ancs a c0 c' H0 tm0 outs i o u lw) {Q : Exit → Act → World → Prop}
    (hend : ∀ L g act w, Inv3 w0 ops ancs a m outs tm0 H0 c0 c' gs ws L g act w → (∀ j, j < a + m → L.getD j false = true) → ∀ fuel, L.toList.count false ≤ fuel → wpAny P .any ops Q fuel L act w) :
    ∀ fuel L g act w, Inv3 w0 ops ancs a m outs tm0 H0 c0 c' gs ws L g act w → L.toList.count false ≤ fuel → wpAny P .any ops Q fuel L act w := by
  intro fuel
  induction fuel with
  | zero =>
    intro L g act w hI hcnt
    refine hend L g act w hI (fun j hj => ?_) 0 hcnt
    cases hL : L.getD j false with
    | true => rfl
    | false =>
      have hlt : j < L.size := by rw [hI.sz]; omega
      have hmem : false ∈ L.toList := by
        have : L[j] = false := by simp [hlt] at hL; exact hL
        rw [← this]
        exact Array.mem_toList_iff.2 (Array.getElem_mem hlt)
      have := List.count_pos_iff.2 hmem
      omega
  | succ fuel ih =>
    intro L g act w hI hcnt
    by_cases hall : ∀ j, j < a + m → L.getD j false = true
    · exact hend L g act w hI hall _ hcnt
    · have hex : ∃ i, (i < a + m ∧ L.getD i false = false) ∧ ∀ j, j < i → L.getD j false = true := by
        have : ∃ i, i < a + m ∧ L.getD i false = false := by
          refine Classical.byContradiction fun hn => hall fun j hj => ?_
          cases hL : L.getD j false with
          | true => rfl
          | false => exact absurd ⟨j, hj, hL⟩ hn
        obtain ⟨i, hi, hL⟩ := this
        induction i using Nat.strongRecOn with
        | ind i ihh =>
          by_cases hall2 : ∀ j, j < i → L.getD j false = true
          · exact ⟨i, ⟨hi, hL⟩, hall2⟩
          · have : ∃ j, j < i ∧ L.getD j false = false := by
              refine Classical.byContradiction fun hn => hall2 fun j hj => ?_
              cases hL : L.getD j false with
              | true => rfl
              | false => exact absurd ⟨j, hj, hL⟩ hn
            obtain ⟨j, hj, hLj⟩ := this
            exact ihh j hj (by omega) hLj
      obtain ⟨i, ⟨hi, hLi⟩, hmin⟩ := hex
      have hisz : i < ops.size := by omega
      have hir : i ∈ Region.ready .any ops L := ready_of (Array.getElem?_eq_getElem hisz) (getD_false' (by rw [hI.sz]; exact hisz) hLi) fun d hd => hmin d ((hp.anc i _ (Array.getElem?_eq_getElem hisz)).2 d hd)
      refine ⟨fun h0 => (by rw [h0] at hir; cases hir), fun k hk => ?_⟩
      obtain ⟨hLk, o, hok, _⟩ := mem_ready.1 hk
      have hksz := (Array.getElem?_eq_some_iff.1 hok).1
      have hka : a ≤ k := Nat.le_of_not_lt fun h => by
        have := getD_true (hI.lo k h)
        rw [hLk] at this
        cases this
      have hkm : k < a + m := Nat.lt_of_not_le fun h => by
        have := anc_ready hp hI.cl hok hk i (hwall k i h hksz hi)
        rw [hLi] at this
        cases this
      obtain ⟨q, rfl⟩ : ∃ q, k = a + q := ⟨k - a, by omega⟩
      refine Inv3.step P T hT hc hp hlen hbound hpair hspec hI (by omega) hk fun g' act' w' hI' => ih _ _ _ _ hI' ?_
      have := count_set hLk
      omega
end
end Go.Proofs.YtmpmbnmldmpmiaaGreatDoor.Sim
set_option linter.unusedVariables false
set_option linter.unusedSimpArgs false
namespace Go.Proofs.YtmpmbnmldmpmiaaGreatDoor.Sim
open Go Go.RowKit
section
variable (P : Program) (T : Nat → Option (List Value))
theorem tmSel_all {sel : Nat → Bool} : ∀ {outs : List Out} {k : Nat} {tm : Tm}, (∀ j, j < outs.length → sel (k + j) = true) → tmSel sel k outs tm = outs.foldl (fun tm u => putT tm u.dst u.v) tm
  | [], k, tm, h => rfl
  | u :: r, k, tm, h => by
    simp only [tmSel, List.foldl_cons]
    have := h 0 (by simp)
    rw [Nat.add_zero] at this
    rw [this]
    exact tmSel_all fun j hj => by
      rw [show k + 1 + j = k + (j + 1) by omega]
      exact h (j + 1) (by simp; omega)
theorem tmSel_none {sel : Nat → Bool} : ∀ {outs : List Out} {k : Nat} {tm : Tm}, (∀ j, j < outs.length → sel (k + j) = false) → tmSel sel k outs tm = tm
  | [], k, tm, h => rfl
  | u :: r, k, tm, h => by
    simp only [tmSel]
    have := h 0 (by simp)
    rw [Nat.add_zero] at this
    rw [this]
    exact tmSel_none fun j hj => by
      rw [show k + 1 + j = k + (j + 1) by omega]
      exact h (j + 1) (by simp; omega)
theorem drop_get {ops : Array Oper} {a i : Nat} : (ops.toList.drop a)[i]? = ops[a + i]? := by simp
/-- The lists of a row's stretches, one behind the other. -/
theorem segs_good {w0 : Bs} (hT : Tab T w0) {pick : Nat → Bool} {call : Caller} (hc : CallOk P w0 call) {ops : Array Oper} {ancs : List Nat} (hancs : ancsX ops.toList [] = ancs) (hp : Plan ops ancs) : ∀ (lens : List Nat) (a : Nat) (tm : Tm) (S : St) (tm' : Tm) (S' : St),
    segsX P T pick call ops a (ops.toList.drop a) lens tm S = some (tm', S') → lensOk ops ancs a lens = true → a ≤ ops.size → (S.next ≤ S'.next ∧ S'.low ≤ S.low) ∧
    ∀ g w act, M w0 g S.heap w → TmOk g.ν tm act → act.defers = [] → Free g S.next S'.next → ∀ Q : Exit → Act → World → Prop, (∀ g' a' w', Left w0 g S w tm' S' g' a' w' → Q .normal a' w') →
      ∀ L : Array Bool, L.size = ops.size → (∀ j, j < a → L.getD j false = true) → (∀ j, a ≤ j → L.getD j false = false) → ∀ fuel, L.toList.count false ≤ fuel → wpAny P .any ops Q fuel L act w := by
  intro lens
  induction lens with
  | nil =>
    intro a tm S tm' S' h hl ha
    simp only [segsX, Option.some.injEq, Prod.mk.injEq] at h
    obtain ⟨rfl, rfl⟩ := h
    refine ⟨⟨Nat.le_refl _, Nat.le_refl _⟩, fun g w act hM ht hd hf Q hQ L hsz hlo hhi fuel hcnt => wpAny_done ?_ (hQ g act w ⟨hM, Fr.refl _ _ _ _, ht, hd⟩) fuel⟩
    have ha2 := Nat.eq_of_beq_eq_true hl
    cases hr : Region.ready .any ops L with
    | nil => rfl
    | cons x r =>
      have hx : x ∈ Region.ready .any ops L := by rw [hr]; exact List.mem_cons_self
      obtain ⟨h1, o, ho, _⟩ := mem_ready.1 hx
      have := getD_true (hlo x (by rw [ha2]; exact (Array.getElem?_eq_some_iff.1 ho).1))
      rw [h1] at this
      cases this
  | cons m r ih =>
    intro a tm S tm' S' h hl ha
    simp only [lensOk, Bool.and_eq_true] at hl
    obtain ⟨⟨⟨l1, l2⟩, l3⟩, l4⟩ := hl
    have l1 := Nat.le_of_ble_eq_true l1
    have hwall : ∀ i k, a + m ≤ i → i < ops.size → k < a + m → (ancOf ancs i).testBit k = true := fun i k h1 h2 h3 => wallOk_spec l2 h1 h2 h3
    simp only [segsX] at h
    split at h
    · -- one operation by itself
      rename_i o l' hm hlst
      have hm := Nat.eq_of_beq_eq_true hm
      subst hm
      have ho : ops[a]? = some o := by
        have := drop_get (ops := ops) (a := a) (i := 0)
        rw [hlst] at this
        simpa using this.symm
      have hl' : l' = ops.toList.drop (a + 1) := by
        have : (ops.toList.drop a).tail = ops.toList.drop (a + 1) := by simp
        rw [← this, hlst]
        rfl
      split at h
      · rename_i v S1 hs
        rw [hl'] at h
        have h1 := stepX_mono P T hc hs
        obtain ⟨h2, hw⟩ := ih (a + 1) _ _ _ _ h l4 l1
        refine ⟨by omega, fun g w act hM ht hd hf Q hQ L hsz hlo hhi fuel hcnt => ?_⟩
        have hasz : a < ops.size := (Array.getElem?_eq_some_iff.1 ho).1
        have hLa : L.getD a true = false := getD_false' (by omega) (hhi a (Nat.le_refl _))
        have har : a ∈ Region.ready .any ops L := ready_of ho hLa fun d hdd => hlo d ((hp.anc a o ho).2 d hdd)
        cases fuel with
        | zero =>
          have := count_set hLa
          omega
        | succ fuel =>
          refine ⟨fun h0 => (by rw [h0] at har; cases har), fun k hk => ?_⟩
          obtain ⟨hLk, p, hpk, _⟩ := mem_ready.1 hk
          have hksz := (Array.getElem?_eq_some_iff.1 hpk).1
          have hcl : Closed ops ancs L := fun i q hq hLi j hj => hlo j (by
            have := hp.bits i j q hq hj
            have : i < a := Nat.lt_of_not_le fun h => by rw [hhi i h] at hLi; cases hLi
            omega)
          have hka : k = a := by
            rcases Nat.lt_trichotomy k a with h3 | h3 | h3
            · have := getD_true (hlo k h3)
              rw [hLk] at this
              cases this
            · exact h3
            · have := anc_ready hp hcl hpk hk a (hwall k a (by omega) hksz (by omega))
              rw [hhi a (Nat.le_refl _)] at this
              cases this
          subst hka
          rw [ho] at hpk
          cases hpk
          refine wpOp_step ho fun K' hK' => ?_
          refine stepX_good P T hT hc hs hM ht (hf.sub (Nat.le_refl _) h2.1) ?_
          rintro u w' ⟨g', e1, e2, e3⟩
          refine hK' _ _ (hw g' w' _ e1 (putT_rels (ht.mono e2.ext) o.dst e3) (by rw [put_defers]; exact hd) (hf.next e2 h1.1) Q (fun g2 a2 w2 hl => hQ g2 a2 w2 ⟨hl.m, e2.trans hl.fr h2.2 h1.1 h2.1, hl.tm, hl.df⟩) _ (by simpa using hsz) ?_ ?_ fuel ?_)
          · intro j hj
            by_cases e : j = k
            · subst e
              simp [show j < L.size by omega]
            · rw [getD_set_ne false (Ne.symm e)]
              exact hlo j (by omega)
          · intro j hj
            rw [getD_set_ne false (by omega)]
            exact hhi j (by omega)
          · have := count_set hLa
            omega
      · cases h
    · cases h
    · -- a stretch
      rename_i l0 hm
      cases hlow : Nat.ble S.low S.next with
      | false => rw [hlow] at h; cases h
      | true =>
        rw [hlow] at h
        simp only [cond_true] at h
        have hlow := Nat.le_of_ble_eq_true hlow
        split at h
        · -- one alone that looks at memory or turns it
          rename_i x hx
          split at h
          rotate_left
          · cases h
          rename_i tm1 S1 hq
          obtain ⟨outs, q2, q3, q5, q6⟩ := seqX_mixed P T (fun i o hi hne => solo_spec P hx hi hne) hq
          have hlen : outs.length = m := by
            rw [q2]
            simp
            omega
          have hml : ((ops.toList.drop a).take m).length = m := by rw [← q2, hlen]
          rw [List.drop_drop] at h
          have hsm := seqX_mono P T hc hq
          obtain ⟨h2, hw⟩ := ih (a + m) _ _ _ _ h l4 l1
          refine ⟨by omega, fun g w act hM ht hd hf Q hQ L hsz hlo hhi fuel hcnt => ?_⟩
          have hget : ∀ i, i < m → ((ops.toList.drop a).take m)[i]? = ops[a + i]? := fun i hi => by
            rw [List.getElem?_take_of_lt hi]
            exact drop_get
          have hspec : ∀ i o u, ops[a + i]? = some o → outs[i]? = some u → u.dst = o.dst ∧ (i = x → stepX P T call ops ((outs.take i).foldl (fun tm u => putT tm u.dst u.v) tm) o S = some (u.v, S1)) ∧
              (i ≠ x → ∀ S2, stepX P T call ops ((outs.take i).foldl (fun tm u => putT tm u.dst u.v) tm) o S2 = some (u.v, S2)) := by
            intro i o u ho hu
            have hi : i < m := by rw [← hlen]; exact (List.getElem?_eq_some_iff.1 hu).1
            exact q5 i o u (by rw [hget i hi]; exact ho) hu
          have hpair : ∀ j k o p, j < k → k < m → ops[a + j]? = some o → ops[a + k]? = some p → (ancOf ancs (a + k)).testBit (a + j) = true ∨ o.apart ops p = true := fun j k o p hjk hkm hj hk =>
            pairsOk_spec l3 j k o p (by rw [hget j (by omega)]; exact hj) (by rw [hget k hkm]; exact hk) hjk
          have hcl : Closed ops ancs L := fun i q hq hLi j hj => hlo j (by
            have := hp.bits i j q hq hj
            have : i < a := Nat.lt_of_not_le fun h => by rw [hhi i h] at hLi; cases hLi
            omega)
          have hcur : cur L (a + x) S S1 = S := by unfold cur; rw [hhi _ (by omega)]; rfl
          have hI0 : Inv2 w0 ops ancs a m x outs tm S S1 g w L g act w := by
            refine ⟨hsz, hlo, fun j hj => hhi j (by omega), hcl, by rw [hcur]; exact hM, by rw [hcur]; exact Fr.refl _ _ _ _, ?_, hd, ht.sound⟩
            rw [tmSel_none fun j hj => by rw [Nat.zero_add]; exact hhi _ (by omega)]
            exact ht
          refine seg_good2 P T hT hc hp hlen l1 hpair hwall hspec hsm.1 hsm.2 hlow (hf.sub (Nat.le_refl _) h2.1) ?_ fuel L g act w hI0 hcnt
          intro L1 g1 act1 w1 hI hall fuel1 hcnt1
          have hcur1 : cur L1 (a + x) S S1 = S1 := by
            unfold cur
            rcases Nat.lt_or_ge x m with hxm | hxm
            · rw [hall _ (by omega)]; rfl
            · rw [q6 (by omega)]
              split <;> rfl
          have hm1 := hI.m0
          have hfr1 := hI.fr
          rw [hcur1] at hm1 hfr1
          refine hw g1 w1 act1 hm1 ?_ hI.df (hf.next hfr1 hsm.1) Q (fun g2 a2 w2 hl => hQ g2 a2 w2 ⟨hl.m, hfr1.trans hl.fr h2.2 hsm.1 h2.1, hl.tm, hl.df⟩) L1 hI.sz hall hI.hi fuel1 hcnt1
          have := hI.tm
          rw [tmSel_all fun j hj => by rw [Nat.zero_add]; exact hall _ (by omega)] at this
          rw [q3]
          exact this
        split at h
        · rename_i tm1 c outs hq
          replace hq : quietX P T call ops a S.heap ((ops.toList.drop a).take m) [] tm S.next = some (tm1, c, outs) := by
            cases hpk : pick a with
            | true => rw [hpk] at hq; cases hq
            | false => rw [hpk] at hq; exact hq
          obtain ⟨outs1, q1, q2, q3, q4, q5⟩ := quietX_spec P T hc hq
          rw [List.nil_append] at q1
          subst q1
          have hlen : outs.length = m := by
            rw [q2]
            simp
            omega
          rw [List.drop_drop] at h
          obtain ⟨h2, hw⟩ := ih (a + m) _ _ _ _ h l4 l1
          simp only at h2
          refine ⟨by omega, fun g w act hM ht hd hf Q hQ L hsz hlo hhi fuel hcnt => ?_⟩
          have hget : ∀ i, i < m → ((ops.toList.drop a).take m)[i]? = ops[a + i]? := fun i hi => by
            rw [List.getElem?_take_of_lt hi]
            exact drop_get
          have hspec : ∀ i o u, ops[a + i]? = some o → outs[i]? = some u → (∃ h, stepX P T call ops ((outs.take i).foldl (fun tm u => putT tm u.dst u.v) tm) o ⟨visX a (outs.take i) (depsX o) ++ S.heap, u.c, u.c⟩ = some (u.v, ⟨h, u.e, u.c⟩) ∧ u.new = newsX u.c h) ∧
              u.vis = visX a (outs.take i) (depsX o) ∧ u.dst = o.dst ∧ S.next ≤ u.c ∧ u.c ≤ u.e ∧ u.e < c ∧ ∀ j u', outs[j]? = some u' → j < i → u'.e < u.c := by
            intro i o u ho hu
            have hi : i < m := by rw [← hlen]; exact (List.getElem?_eq_some_iff.1 hu).1
            have := q5 i o u (by rw [hget i hi]; exact ho) hu
            simpa only [List.nil_append] using this
          have hpair : ∀ j k o p, j < k → k < m → ops[a + j]? = some o → ops[a + k]? = some p → (ancOf ancs (a + k)).testBit (a + j) = true ∨ o.apart ops p = true := fun j k o p hjk hkm hj hk =>
            pairsOk_spec l3 j k o p (by rw [hget j (by omega)]; exact hj) (by rw [hget k hkm]; exact hk) hjk
          have hcl : Closed ops ancs L := fun i q hq hLi j hj => hlo j (by
            have := hp.bits i j q hq hj
            have : i < a := Nat.lt_of_not_le fun h => by rw [hhi i h] at hLi; cases hLi
            omega)
          have hI0 : Inv w0 ops ancs a m outs tm S.heap S.next c g w L g act w := by
            refine ⟨hsz, hlo, fun j hj => hhi j (by omega), hcl, hM, Fr.refl _ _ _ _ |>.weaken (Nat.le_refl _) q4, fun i u hu hL => ?_, fun i u hu hL => ?_, ?_, hd, ht.sound⟩
            · rw [hhi (a + i) (by omega)] at hL
              cases hL
            · have hi : i < m := by rw [← hlen]; exact (List.getElem?_eq_some_iff.1 hu).1
              have ho : ops[a + i]? = some _ := Array.getElem?_eq_getElem (by omega)
              obtain ⟨_, _, _, d1, d2, d3, _⟩ := hspec i _ u ho hu
              exact hf.sub d1 (by omega)
            · rw [tmSel_none fun j hj => by rw [Nat.zero_add]; exact hhi _ (by omega)]
              exact ht
          refine seg_good P T hT hc hp hlen l1 hpair hwall hspec ?_ fuel L g act w hI0 hcnt
          intro L1 g1 act1 w1 hI hall fuel1 hcnt1
          have hfree1 : Free g1 c S'.next := fun id e1 e2 => by
            rw [hI.fr.rng id (.inr e1)]
            exact hf id (by omega) e2
          refine hw g1 w1 act1 ?_ ?_ hI.df hfree1 Q (fun g2 a2 w2 hl => hQ g2 a2 w2 ⟨hl.m, ?_, hl.tm, hl.df⟩) L1 hI.sz hall hI.hi fuel1 hcnt1
          · refine ⟨fun id b hb => ?_, hI.m0.mine, hI.m0.base⟩
            rcases find_append hb with hb | hb
            · obtain ⟨i, u, hu, hb⟩ := find_all hb
              have hi : i < m := by rw [← hlen]; exact (List.getElem?_eq_some_iff.1 hu).1
              have hMu := hI.nw i u hu (hall _ (by omega))
              refine hMu.blk id b ?_
              have : ∀ (A B : Heap), find id A = some b → find id (A ++ B) = some b := fun A B hA => by
                induction A with
                | nil => cases hA
                | cons p A ihA =>
                  obtain ⟨j, d⟩ := p
                  simp only [List.cons_append, find] at hA ⊢
                  by_cases e : Nat.beq j id = true
                  · rw [if_pos e] at hA ⊢; exact hA
                  · rw [if_neg e] at hA ⊢; exact ihA hA
              exact this _ _ hb
            · exact hI.m0.blk id b hb
          · have := hI.tm
            rw [tmSel_all fun j hj => by rw [Nat.zero_add]; exact hall _ (by omega)] at this
            rw [q3]
            exact this
          · exact Fr.trans (hI.fr.weaken (lo2 := S.low) hlow (Nat.le_refl _)) hl.fr (by have := h2.2; exact this) q4 h2.1
        · split at h
          rotate_left
          · cases h
          rename_i tm1 c outs hq
          obtain ⟨q2, _, q3, q4, q5⟩ := mixX_spec P T hc hq rfl (fun j u lw hj => by simp at hj) (Nat.le_refl _)
          simp only [List.length_nil, Nat.zero_add] at q2 q5
          have hlen : outs.length = m := by
            rw [q2]
            simp
            omega
          rw [List.drop_drop] at h
          obtain ⟨h2, hw⟩ := ih (a + m) _ _ _ _ h l4 l1
          simp only at h2
          refine ⟨by omega, fun g w act hM ht hd hf Q hQ L hsz hlo hhi fuel hcnt => ?_⟩
          have hget : ∀ i, i < m → ((ops.toList.drop a).take m)[i]? = ops[a + i]? := fun i hi => by
            rw [List.getElem?_take_of_lt hi]
            exact drop_get
          have hanceq : ancsX ops.toList [] = ancs := hancs
          have hspec : ∀ i o u lw, ops[a + i]? = some o → outs[i]? = some (u, lw) → Spec3 P T call ops ancs a S.next c S.heap tm outs i o u lw := by
            intro i o u lw ho hu
            have hi : i < m := by rw [← hlen]; exact (List.getElem?_eq_some_iff.1 hu).1
            have := q5 i o u lw (by rw [hget i hi]; exact ho) hu
            rw [hanceq] at this
            exact this
          have hpair : ∀ j k o p, j < k → k < m → ops[a + j]? = some o → ops[a + k]? = some p → (ancOf ancs (a + k)).testBit (a + j) = true ∨ o.apart ops p = true := fun j k o p hjk hkm hj hk =>
            pairsOk_spec l3 j k o p (by rw [hget j (by omega)]; exact hj) (by rw [hget k hkm]; exact hk) hjk
          have hcl : Closed ops ancs L := fun i q hq hLi j hj => hlo j (by
            have := hp.bits i j q hq hj
            have : i < a := Nat.lt_of_not_le fun h => by rw [hhi i h] at hLi; cases hLi
            omega)
          have hI0 : Inv3 w0 ops ancs a m outs tm S.heap S.next c g w L g act w := by
            refine ⟨hsz, hlo, fun j hj => hhi j (by omega), hcl, hM, Fr.refl _ _ _ _ |>.weaken (Nat.le_refl _) q4, fun i u lw hu hL => ?_, fun i u lw hu hL => ?_, fun id p hid => ?_, ?_, hd, ht.sound⟩
            · rw [hhi (a + i) (by omega)] at hL
              cases hL
            · have hi : i < m := by rw [← hlen]; exact (List.getElem?_eq_some_iff.1 hu).1
              have ho : ops[a + i]? = some _ := Array.getElem?_eq_getElem (by omega)
              have hs := hspec i _ u lw ho hu
              have := hs.c1
              have := hs.c3
              exact hf.sub hs.c1 (by omega)
            · obtain ⟨k, c2, o2, e1, _⟩ := hM.blk id p hid
              rcases Nat.lt_or_ge id S.next with h3 | h3
              · exact .inl h3
              · rcases Nat.lt_or_ge id c with h4 | h4
                · rw [hf id h3 (by omega)] at e1
                  cases e1
                · exact .inr h4
            · rw [tmSel_none fun j hj => by rw [Nat.zero_add]; exact hhi _ (by omega)]
              exact ht
          refine seg_good3 P T hT hc hp hlen l1 hpair hwall hspec ?_ fuel L g act w hI0 hcnt
          intro L1 g1 act1 w1 hI hall fuel1 hcnt1
          have hfree1 : Free g1 c S'.next := fun id e1 e2 => by
            rw [hI.fr.rng id (.inr e1)]
            exact hf id (by omega) e2
          refine hw g1 w1 act1 ?_ ?_ hI.df hfree1 Q (fun g2 a2 w2 hl => hQ g2 a2 w2 ⟨hl.m, ?_, hl.tm, hl.df⟩) L1 hI.sz hall hI.hi fuel1 hcnt1
          · refine ⟨fun id b hb => ?_, hI.m0.mine, hI.m0.base⟩
            rcases find_append hb with hb | hb
            · obtain ⟨i, u, lw, hu, hb, hk⟩ := find_left hb
              have hi : i < m := by rw [← hlen]; exact (List.getElem?_eq_some_iff.1 hu).1
              refine hI.nw i u lw hu (hall _ (by omega)) id b hb fun j v x hj hij _ hs => ?_
              refine kept_spec hk (j - (i + 1)) v x ?_ hs
              rw [List.getElem?_drop, show i + 1 + (j - (i + 1)) = j by omega]
              exact hj
            · exact hI.m0.blk id b hb
          · have := hI.tm
            rw [tmSel_all fun j hj => by rw [Nat.zero_add]; exact hall _ (by simp at hj; omega)] at this
            rw [q3]
            rw [List.foldl_map] at this
            exact this
          · exact Fr.trans (hI.fr.weaken (lo2 := S.low) hlow (Nat.le_refl _)) hl.fr (by have := h2.2; exact this) q4 h2.1
theorem drawP_ok {w0 : Bs} (hT : Tab T w0) (hm : P.follows .mixedOrders = true) (pick : Nat → Bool) : DrawOk P w0 (drawP P T pick) := by
  intro call hc ops tm S tm' S' h
  unfold drawP at h
  split at h
  · rename_i lens hpl
    obtain ⟨hp, hl⟩ := plan_of hpl
    have h' : segsX P T pick call ops 0 (ops.toList.drop 0) lens tm S = some (tm', S') := h
    obtain ⟨h1, h2⟩ := segs_good P T hT hc rfl hp lens 0 tm S tm' S' h' hl (Nat.zero_le _)
    refine ⟨h1, fun g w a hM ht hd hf Q id hQ => wp_region_any hm ?_⟩
    refine h2 g _ a (hM.drew _) ht hd hf Q (fun g' a' w' hl => hQ g' a' w' ⟨hl.m, hl.fr.drew_left, hl.tm, hl.df⟩) _ (by simp) (fun j hj => absurd hj (Nat.not_lt_zero _)) (fun j _ => ?_) _ ?_
    · rcases Nat.lt_or_ge j ops.size with h3 | h3 <;> simp [h3]
    · have : ((Array.replicate ops.size false).toList.count false) ≤ (Array.replicate ops.size false).toList.length := List.count_le_length
      simp at this ⊢
  · cases h
theorem drawX_ok {w0 : Bs} (hT : Tab T w0) (hm : P.follows .mixedOrders = true) : DrawOk P w0 (drawX P T) := drawP_ok P T hT hm _
/-- The machine's word on a call. -/
theorem callX_calls (E : Env P) (hm : P.follows .mixedOrders = true) {w0 : World} (hT : Tab T (Bs.of w0)) (k n : Nat) {f : FuncId} {args : List V} {us : List Value} {v : V} {S' : St} (h : callX P T E (drawX P T) k n f args ⟨[], 0, 0⟩ = some (v, S')) (hr : V.rels (fun _ => none) args us) (hb : (P.funcs[f]?.bind (·.body)).isSome = true) :
    Calls P f us.toArray w0 fun e w' => ∃ u ν, e = .returned u ∧ V.rel ν v u ∧ Below w0.heap.size w0 w' := by
  have hM := M.start w0
  have := (callX_ok P T E (drawX P T) k hT (drawX_ok P T hT hm) n _ _ _ _ _ h).2 _ w0 us hM hr (fun _ _ _ => rfl)
  rcases this with ⟨u, w', e1, _⟩ | ⟨e1, e2⟩
  · exfalso
    unfold callFunc at e1
    simp only [Sem.run_bind, run_program, Result.andThen_ok] at e1
    cases hf : P.funcs[f]? with
    | none => rw [hf] at hb; cases hb
    | some F =>
      rw [hf] at hb
      simp only [hf] at e1
      simp only [Option.bind_some] at hb
      by_cases hn : (F.name == "runtime.NumGoroutine") = true
      · rw [if_pos hn] at e1
        cases e1
      · rw [if_neg hn] at e1
        rw [if_neg (by simp at hb ⊢; obtain ⟨c, hc⟩ := Option.isSome_iff_exists.1 hb; rw [hc]; simp)] at e1
        cases e1
  · refine Calls.mono e2 ?_
    rintro e w' ⟨u, rfl, g', hM', hfr, hrel⟩
    exact ⟨u, g'.ν, rfl, hrel, hM'.base.bel⟩
end
end Go.Proofs.YtmpmbnmldmpmiaaGreatDoor.Sim
set_option linter.unusedVariables false
set_option linter.unusedSimpArgs false
namespace Go.Proofs.YtmpmbnmldmpmiaaGreatDoor.Sim
open Go Go.RowKit
inductive Tree where
  | leaf
  | node (l : Tree) (k : Nat) (F : Func) (r : Tree)
def Tree.get : Tree → Nat → Option Func
  | .leaf, _ => none
  | .node l k F r, n => bif Nat.beq n k then some F else bif Nat.blt n k then l.get n else r.get n
def Tree.All (p : Nat → Func → Prop) : Tree → Prop
  | .leaf => True
  | .node l k F r => l.All p ∧ p k F ∧ r.All p
theorem Tree.get_all {p : Nat → Func → Prop} : ∀ {t : Tree} (h : t.All p) {n : Nat} {F : Func}, t.get n = some F → p n F
  | .leaf, _, n, F, h => by cases h
  | .node l k G r, hA, n, F, h => by
    obtain ⟨h1, h2, h3⟩ := hA
    simp only [Tree.get] at h
    cases hk : Nat.beq n k with
    | true =>
      rw [hk] at h
      cases h
      rw [Nat.eq_of_beq_eq_true hk]
      exact h2
    | false =>
      rw [hk] at h
      simp only [cond_false] at h
      cases hb : Nat.blt n k with
      | true => rw [hb] at h; exact Tree.get_all h1 h
      | false => rw [hb] at h; exact Tree.get_all h3 h
section
variable {P : Program} {f : FuncId} {fn : Func}
theorem ext_run {e : Array Value → Sem Value} (hf : P.funcs[f]? = some fn) (hname : (fn.name == "runtime.NumGoroutine") = false) (hb : fn.body.isNone = true) (hn : Extern.findNext fn = none) (he : Extern.find fn = some e) (args : Array Value) (w : World) :
    (callFunc f args).run P w = (do pure (.value (← e args)) : Sem Next).run P w := by
  unfold callFunc
  simp only [Sem.run_bind, run_program, Result.andThen_ok, hf, hname, Bool.false_eq_true, if_false, hb, if_true, hn, he, run_mark]
theorem digits_size : ∀ (n t : Nat) (acc : Array Value), (Extern.BytealgMakeNoZero.digits n t acc).toList.length = acc.size + n
  | 0, t, acc => by simp [Extern.BytealgMakeNoZero.digits]
  | n + 1, t, acc => by
    simp only [Extern.BytealgMakeNoZero.digits]
    rw [digits_size n]
    simp
    omega
theorem mnz_run (hf : P.funcs[f]? = some fn) (hname : (fn.name == "runtime.NumGoroutine") = false) (hb : fn.body.isNone = true) (hn : Extern.findNext fn = none) (he : Extern.find fn = some (Extern.BytealgMakeNoZero.makeNoZero fn.params fn.resultTypes)) {t e : TypeId} (hr : fn.resultTypes[0]? = some t) (ht : P.underlying t = some (.slice e)) (n : Int) (w : World) (h0 : 0 ≤ n) (h1 : n ≤ 1000000) :
    ∃ (c : Nat) (w' : World), n.toNat ≤ c ∧ ∃ l : List Value, l.length = c ∧ w'.heap = w.heap ∧ w'.os = w.os ∧ w'.tape = w.tape ∧ w'.output = w.output ∧ (callFunc f #[.int .i64 n]).run P w = .ok (.value (.slice (some ⟨w.heap.size, 0, none⟩) n.toNat c)) (w'.alloc (.cells l.toArray e)) := by
  refine ⟨n.toNat + w.tape w.drawn (.appendCap n.toNat 0 e) % (2 ^ 63 - n.toNat), { w with drawn := w.drawn + 1 + 1 }, by omega, (Extern.BytealgMakeNoZero.digits (n.toNat + w.tape w.drawn (.appendCap n.toNat 0 e) % (2 ^ 63 - n.toNat)) (w.tape (w.drawn + 1) (.extern "internal/bytealg.MakeNoZero.bytes" 0)) #[]).toList, by rw [digits_size]; simp, rfl, rfl, rfl, rfl, ?_⟩
  rw [ext_run hf hname hb hn he]
  have e1 : (n < 0 || n > 2 ^ 48) = false := by simp; omega
  have eq : Extern.BytealgMakeNoZero.makeNoZero fn.params fn.resultTypes #[.int .i64 n] = (do
    let some t := fn.resultTypes[0]? | stuck "bytealg.MakeNoZero: no result type"
    let .slice elem ← underlying t | stuck "bytealg.MakeNoZero: slice type expected"
    if n < 0 || n > 2 ^ 48 then runtimePanic (.error "makeslice: len out of range")
    let cap ← choose (.appendCap n.toNat 0 elem)
    askRoom cap
    let bytes ← choose (.extern "internal/bytealg.MakeNoZero.bytes" 0)
    let a ← newRow elem (Extern.BytealgMakeNoZero.digits cap bytes #[])
    pure (.slice (some a) n.toNat cap)) := rfl
  rw [eq]
  simp only [hr, Sem.run_bind, run_underlying ht, Result.andThen_ok, e1, Bool.false_eq_true, if_false, run_choose, Question.forced, Question.cut, run_askRoom, newRow_run, Sem.run_pure, Nat.reduceEqDiff, decide_false, if_true]
end
end Go.Proofs.YtmpmbnmldmpmiaaGreatDoor.Sim
set_option linter.unusedVariables false
set_option linter.unusedSimpArgs false
namespace Go.Proofs.YtmpmbnmldmpmiaaGreatDoor.Sim
open Go Go.RowKit
/-- No name from here on is used. -/
def Up (g : Gh) (n : Nat) : Prop := ∀ id, n ≤ id → g.ν id = none
theorem Up.free {g : Gh} {n : Nat} (h : Up g n) (m : Nat) : Free g n m := fun id e _ => h id e
theorem Up.fr {g g' : Gh} {w w' : World} {n lo m : Nat} (h : Up g n) (k : Fr n lo m g w g' w') (hnm : n ≤ m) : Up g' m := fun id e => by
  rw [k.rng id (.inr e)]
  exact h id (by omega)
section
variable (P : Program) (T : Nat → Option (List Value)) (w0 : Bs)
/-- What a call comes to. -/
def Ok (f : FuncId) (args : List V) (S : St) (Q : V → St → Prop) : Prop :=
  ∀ g w us, M w0 g S.heap w → V.rels g.ν args us → Up g S.next →
    CallSem P f us.toArray w fun u w' => ∃ v S', Q v S' ∧ S.next ≤ S'.next ∧ S'.low ≤ S.low ∧ After w0 g S w v S' u w'
variable {P T w0}
theorem CallSem.mono {f : FuncId} {us : Array Value} {w : World} {R R' : Value → World → Prop} (h : CallSem P f us w R) (k : ∀ u w', R u w' → R' u w') : CallSem P f us w R' := by
  rcases h with ⟨u, w', h1, h2⟩ | ⟨h1, h2⟩
  · exact .inl ⟨u, w', h1, k _ _ h2⟩
  · exact .inr ⟨h1, h2.mono fun e w' ⟨u, h3, h4⟩ => ⟨u, h3, k _ _ h4⟩⟩
def noCall : Caller := fun _ _ _ => none
theorem noCall_ok : CallOk P w0 noCall := fun f args S v S' h => by cases h
/-- From a contract of the world's: a call that leaves all that was. -/
theorem M.under {g : Gh} {H : Heap} {w w' : World} (h : M w0 g H w) (b : Below w.heap.size w w') : M w0 g H w' :=
  ⟨fun id bl hb => by
    obtain ⟨k, c, o, g1, g2, g3, g4⟩ := h.blk id bl hb
    exact ⟨k, c, o, g1, g2, by rw [b.block k (h.mine k id g2).2.1]; exact g3, g4⟩, fun k id hk => by
    obtain ⟨g1, g2, g3⟩ := h.mine k id hk
    exact ⟨g1, Nat.lt_of_lt_of_le g2 b.size, g3⟩, h.base.under b⟩
theorem Fr.under {g : Gh} {w w' : World} (n lo : Nat) (b : Below w.heap.size w w') : Fr n lo n g w g w' := ⟨Ext.refl _, fun _ _ => rfl, b.size, fun k hk _ => ⟨b.block k hk, rfl⟩⟩
theorem callSem_of {f : FuncId} {F : Func} {us : Array Value} {w : World} {R : Value → World → Prop} (hf : P.funcs[f]? = some F) (hn : (F.name == "runtime.NumGoroutine") = false) (hb : F.body.isSome = true) (h : Calls P f us w fun e w' => ∃ u, e = .returned u ∧ R u w') : CallSem P f us w R := by
  obtain ⟨c, hb⟩ := Option.isSome_iff_exists.1 hb
  refine .inr ⟨?_, h⟩
  unfold callFunc
  simp only [Sem.run_bind, run_program, Result.andThen_ok, hf, hn, hb, Option.isNone_some, Bool.false_eq_true, if_false, Sem.run_pure]
/-- To a contract of the world's. -/
theorem Ok.calls {w0 : World} {f : FuncId} {args : List V} {us : List Value} {Q : V → St → Prop} (h : Ok P (Bs.of w0) f args ⟨[], 0, 0⟩ Q) (hr : V.rels (fun _ => none) args us) {F : Func} (hf : P.funcs[f]? = some F) (hn : (F.name == "runtime.NumGoroutine") = false) (hb : F.body.isSome = true) :
    Calls P f us.toArray w0 fun e w' => ∃ u v S' ν, e = .returned u ∧ Q v S' ∧ V.rel ν v u ∧ Below w0.heap.size w0 w' := by
  have hM := M.start w0
  rcases h _ w0 us hM hr (fun _ _ => rfl) with ⟨u, w', e1, _⟩ | ⟨_, e2⟩
  · exfalso
    obtain ⟨c, hb⟩ := Option.isSome_iff_exists.1 hb
    unfold callFunc at e1
    simp only [Sem.run_bind, run_program, Result.andThen_ok, hf, hn, hb, Option.isNone_some, Bool.false_eq_true, if_false, Sem.run_pure] at e1
    cases e1
  · refine Calls.mono e2 ?_
    rintro e w' ⟨u, rfl, v, S', hq, _, _, g', hM', _, hrel⟩
    exact ⟨u, v, S', g'.ν, rfl, hq, hrel, hM'.base.bel⟩
end
/-- All that lies in memory. -/
def whole (w : World) (k : Nat) : Option (List Value) := match w.heap[k]? with
  | some (.cells cs _ _) => if cs.size = 0 then none else some cs.toList
  | _ => none
theorem whole_cells {w : World} {k : Nat} {cs : Array Value} {e : TypeId} {fr : Nat × Nat} (h : w.heap[k]? = some (.cells cs e fr)) (hc : cs.size ≠ 0) : whole w k = some cs.toList := by
  unfold whole
  rw [h]
  simp only [if_neg hc]
theorem whole_tab (b : Bs) : Tab (whole b.v) b := fun k cs h => by
  unfold whole at h
  split at h
  · rename_i cs' e fr hk
    split at h
    · cases h
    · rename_i hc
      cases h
      exact ⟨fun e => hc (by rw [← Array.length_toList, e]; rfl), e, fr, by rw [hk]⟩
  · cases h
end Go.Proofs.YtmpmbnmldmpmiaaGreatDoor.Sim
set_option linter.unusedVariables false
set_option linter.unusedSimpArgs false
namespace Go.Proofs.YtmpmbnmldmpmiaaGreatDoor.Sim
open Go Go.RowKit
abbrev Fm := Nat → V
def evF (F : Fm) : Operand → V
  | .tmp t => F t
  | .const v => .s v
  | .global g => .s (.pointer (some ⟨g, 0, none⟩))
  | .func f => .s (.func (.func f) #[] #[])
def putF (F : Fm) (dst : Option Tmp) (v : V) : Fm := match dst with
  | some d => fun t => if t = d then v else F t
  | none => F
/-- The variables are as the function says. -/
structure FmOk (ν : Val) (n : Nat) (F : Fm) (a : Act) : Prop where
  size : a.tmps.size = n
  get : ∀ t, t < n → ∃ u, a.tmps[t]? = some u ∧ V.rel ν (F t) u
structure Agree (n : Nat) (tm : Tm) (F : Fm) : Prop where
  num : tm.n = n
  has : Sound tm
  get : ∀ t, t < n → tm.tr.get t = F t
theorem Agree.ok {n : Nat} {tm : Tm} {F : Fm} (h : Agree n tm F) {ν : Val} {a : Act} : TmOk ν tm a ↔ FmOk ν n F a := by
  constructor
  · intro k
    refine ⟨k.size.trans h.num, fun t ht => ?_⟩
    obtain ⟨u, h1, h2⟩ := k.get t (by rw [h.num]; exact ht)
    rw [h.get t ht] at h2
    exact ⟨u, h1, h2⟩
  · intro k
    refine ⟨k.size.trans h.num.symm, h.has, fun t ht => ?_⟩
    rw [h.num] at ht
    rw [h.get t ht]
    exact k.get t ht
noncomputable def tmOf (n : Nat) (F : Fm) : Tm := mkTm ((List.range n).map F) n
theorem tmOf_agree {n : Nat} (h : n ≤ 2000) (F : Fm) : Agree n (tmOf n F) F := by
  have hfull : ∀ t, t < n → (Tr.full 11).has t := fun t ht => Tr.full_has 11 t (by have : (2 : Nat) ^ 11 = 2048 := by decide
                                                                                   omega)
  refine ⟨rfl, fun t ht => fillT_has _ _ _ _ (hfull t ht), fun t ht => ?_⟩
  have := fillT_get ((List.range n).map F) 0 (Tr.full 11) t (F t) (by rw [Nat.zero_add]; exact hfull t ht) (by simp [ht])
  rw [Nat.zero_add] at this
  exact this
theorem Agree.put {n : Nat} {tm : Tm} {F : Fm} (h : Agree n tm F) {dst : Option Tmp} {v : V} : Agree n (putT tm dst v) (putF F dst v) := by
  cases dst with
  | none => exact h
  | some d =>
    simp only [putT_some, putF]
    cases hb : Nat.blt d tm.n with
    | true =>
      simp only [cond_true]
      refine ⟨h.num, fun t ht => Tr.has_set _ (h.has t ht), fun t ht => ?_⟩
      by_cases e : t = d
      · subst e
        simp only [if_true]
        exact Tr.get_set _ (h.has t (by rw [h.num]; exact ht))
      · rw [if_neg e, Tr.get_set_ne _ (fun x => e x.symm)]
        exact h.get t ht
    | false =>
      simp only [cond_false]
      refine ⟨h.num, h.has, fun t ht => ?_⟩
      rw [blt_dec] at hb
      have hb := of_decide_eq_false hb
      rw [h.num] at hb
      rw [if_neg (by omega)]
      exact h.get t ht
/-- Do the variables that are named lie within the call's? -/
def inO (n : Nat) : Operand → Bool
  | .tmp t => Nat.blt t n
  | _ => true
theorem Agree.ev {n : Nat} {tm : Tm} {F : Fm} (h : Agree n tm F) {x : Operand} (hx : inO n x = true) : evX tm x = evF F x := by
  cases x with
  | tmp t =>
    have hx : Nat.blt t n = true := hx
    have ht : t < n := by rw [blt_dec] at hx; exact of_decide_eq_true hx
    rw [evX_get, Tm.get?_lt (by rw [h.num]; exact ht)]
    exact h.get t ht
  | const v => rfl
  | global g => rfl
  | func f => rfl
def wantF (ops : Array Oper) (F : Fm) (o : Oper) : Option Bool := match o.guard with
  | none => some true
  | some (j, want) => match (ops[j]?).bind (·.dst) with
    | none => some false
    | some t => match F t with
      | .s (.bool b) => some (b == want)
      | .s (.tuple _) => some false
      | _ => none
section
variable (P : Program) (T : Nat → Option (List Value))
def stepF (call : Caller) (ops : Array Oper) (F : Fm) (o : Oper) (S : St) : Option (V × St) := match wantF ops F o with
  | some true => match o.op with
    | .call ⟨.value f, args, _⟩ => match calleeX (evF F f) with
      | some (fid, first, captured) => call fid (first ++ args.toList.map (evF F) ++ captured) S
      | none => none
    | _ => match opX P T (evF F) o S with
      | some (v, f) => some (v, f.run S)
      | none => none
  | some false => some (undefV, S)
  | none => none
/-- All operands of an operation lie within the call's variables, its guard's too. -/
def inOp (n : Nat) (ops : Array Oper) (o : Oper) : Bool := o.op.operands.toList.all (inO n) && (match o.guard with
  | none => true
  | some (j, _) => match (ops[j]?).bind (·.dst) with
    | none => true
    | some t => Nat.blt t n)
theorem stepX_eq {n : Nat} {call : Caller} {ops : Array Oper} {tm : Tm} {F : Fm} (h : Agree n tm F) {o : Oper} {S : St} (hi : inOp n ops o = true) : stepX P T call ops tm o S = stepF P T call ops F o S := by
  simp only [inOp, Bool.and_eq_true] at hi
  obtain ⟨h1, h2⟩ := hi
  have hev : ∀ x ∈ o.op.operands, evX tm x = evF F x := fun x hx => h.ev (List.all_eq_true.1 h1 x (by simpa using hx))
  have hop := opX_congr P T o S hev
  have hw : wantX ops tm o = wantF ops F o := by
    unfold wantX wantF
    cases hg : o.guard with
    | none => rfl
    | some p =>
      obtain ⟨j, want⟩ := p
      rw [hg] at h2
      simp only at h2 ⊢
      cases hd : (ops[j]?).bind (·.dst) with
      | none => rfl
      | some t =>
        rw [hd] at h2
        simp only at h2 ⊢
        have ht : t < n := by rw [blt_dec] at h2; exact of_decide_eq_true h2
        rw [Tm.get?_lt (by rw [h.num]; exact ht), h.get t ht]
        cases F t with
        | s v => cases v <;> rfl
        | _ => rfl
  unfold stepX stepF
  rw [hw]
  cases wantF ops F o with
  | none => rfl
  | some b =>
    cases b with
    | false => rfl
    | true =>
      simp only
      obtain ⟨dst, op, type, pos, after, guard⟩ := o
      cases op with
      | call c =>
        obtain ⟨callee, args, ats⟩ := c
        cases callee with
        | value f =>
          have g1 : evX tm f = evF F f := hev f (by simp [Op.operands, Call.operands])
          have g2 : args.toList.map (evX tm) = args.toList.map (evF F) := List.map_congr_left fun x hx => hev x (by simp [Op.operands, Call.operands]; right; simpa using hx)
          simp only [g1, g2]
          all_goals (cases calleeX (evF F f) <;> rfl)
        | builtin b => simp only [hop]; try rfl
        | invoke r m => simp only [hop]; try rfl
      | _ => simp only [hop]; try rfl
/-- What is left, with the variables as a function. -/
structure LeftF (w0 : Bs) (n : Nat) (g : Gh) (S : St) (w : World) (F' : Fm) (S' : St) (g' : Gh) (a' : Act) (w' : World) : Prop where
  m : M w0 g' S'.heap w'
  fr : Fr S.next S'.low S'.next g w g' w'
  fm : FmOk g'.ν n F' a'
  df : a'.defers = []
variable (w0 : Bs)
/-- What a stretch of code comes to. -/
def WpF (n : Nat) (c : Code) (F : Fm) (S : St) (Q : Ex → Fm → St → Prop) : Prop :=
  ∀ g w a, M w0 g S.heap w → FmOk g.ν n F a → a.defers = [] → Up g S.next → ∀ R : Exit → Act → World → Prop,
    (∀ ex F' S' g' a' w', Q ex F' S' → S.next ≤ S'.next → S'.low ≤ S.low → LeftF w0 n g S w F' S' g' a' w' → R ex.exit' a' w') → c.wp P R a w
/-- What operations one behind the other come to. -/
def SeqF (n : Nat) (ops : Array Oper) (l : List Oper) (F : Fm) (S : St) (K : Fm → St → Prop) : Prop :=
  ∀ g w a, M w0 g S.heap w → FmOk g.ν n F a → a.defers = [] → Up g S.next → ∀ R : Exit → Act → World → Prop,
    (∀ F' S' g' a' w', K F' S' → S.next ≤ S'.next → S'.low ≤ S.low → LeftF w0 n g S w F' S' g' a' w' → R .normal a' w') → wpList P ops R l a w
variable {P T w0}
theorem WpF.mono {n : Nat} {c : Code} {F : Fm} {S : St} {Q Q' : Ex → Fm → St → Prop} (h : WpF P w0 n c F S Q) (k : ∀ ex F' S', Q ex F' S' → S.next ≤ S'.next → S'.low ≤ S.low → Q' ex F' S') : WpF P w0 n c F S Q' :=
  fun g w a hM ht hd hu R hR => h g w a hM ht hd hu R fun ex F' S' g' a' w' hq h1 h2 hl => hR ex F' S' g' a' w' (k _ _ _ hq h1 h2) h1 h2 hl
theorem WpF.skip {n : Nat} {F : Fm} {S : St} {Q : Ex → Fm → St → Prop} (h : Q .normal F S) : WpF P w0 n .skip F S Q :=
  fun g w a hM ht hd hu R hR => wp_skip (hR .normal _ _ g a w h (Nat.le_refl _) (Nat.le_refl _) ⟨hM, Fr.refl _ _ _ _, ht, hd⟩)
theorem WpF.exit {n : Nat} {i : Nat} {F : Fm} {S : St} {Q : Ex → Fm → St → Prop} (h : Q (.exit i) F S) : WpF P w0 n (.exit i) F S Q :=
  fun g w a hM ht hd hu R hR => wp_exit (hR (.exit i) _ _ g a w h (Nat.le_refl _) (Nat.le_refl _) ⟨hM, Fr.refl _ _ _ _, ht, hd⟩)
theorem WpF.ret {n : Nat} {F : Fm} {S : St} {Q : Ex → Fm → St → Prop} (h : Q .ret F S) : WpF P w0 n .ret F S Q :=
  fun g w a hM ht hd hu R hR => wp_ret (hR .ret _ _ g a w h (Nat.le_refl _) (Nat.le_refl _) ⟨hM, Fr.refl _ _ _ _, ht, hd⟩)
theorem LeftF.trans {n : Nat} {g g1 g2 : Gh} {S S1 S2 : St} {w w1 w2 : World} {F1 F2 : Fm} {a1 a2 : Act} (h : LeftF w0 n g S w F1 S1 g1 a1 w1) (k : LeftF w0 n g1 S1 w1 F2 S2 g2 a2 w2) (h1 : S.next ≤ S1.next) (h2 : S1.next ≤ S2.next) (h3 : S2.low ≤ S1.low) : LeftF w0 n g S w F2 S2 g2 a2 w2 :=
  ⟨k.m, h.fr.trans k.fr h3 h1 h2, k.fm, k.df⟩
/-- What comes behind the first part. -/
def ThenF (P : Program) (w0 : Bs) (n : Nat) (y : Code) (Q : Ex → Fm → St → Prop) : Ex → Fm → St → Prop
  | .normal, F, S => WpF P w0 n y F S Q
  | .exit i, F, S => Q (.exit i) F S
  | .ret, F, S => Q .ret F S
theorem WpF.seq {n : Nat} {x y : Code} {F : Fm} {S : St} {Q : Ex → Fm → St → Prop} (h : WpF P w0 n x F S (ThenF P w0 n y Q)) : WpF P w0 n (.seq x y) F S Q := by
  intro g w a hM ht hd hu R hR
  refine wp_seq (h g w a hM ht hd hu _ fun ex F1 S1 g1 a1 w1 hq h1 h2 hl => ?_)
  cases ex with
  | normal => exact hq g1 w1 a1 hl.m hl.fm hl.df (hu.fr hl.fr h1) R fun ex F' S' g' a' w' hq' h3 h4 hl' => hR _ _ _ _ _ _ hq' (Nat.le_trans h1 h3) (Nat.le_trans h4 h2) (hl.trans hl' h1 h3 h4)
  | exit i => exact hR _ _ _ _ _ _ hq h1 h2 hl
  | ret => exact hR _ _ _ _ _ _ hq h1 h2 hl
theorem evF_rel {ν : Val} {n : Nat} {F : Fm} {a : Act} (h : FmOk ν n F a) (x : Operand) (hx : inO n x = true) : V.rel ν (evF F x) (a.eval x) := by
  cases x with
  | tmp t =>
    have ht : t < n := by have hx : Nat.blt t n = true := hx; rw [blt_dec] at hx; exact of_decide_eq_true hx
    obtain ⟨u, h1, h2⟩ := h.get t ht
    show V.rel ν (F t) (a.tmps.getD t undef)
    have : a.tmps.getD t undef = u := by simp [h1]
    rw [this]
    exact h2
  | const v => exact rel_s
  | global g => exact rel_s
  | func f => exact rel_s
theorem WpF.cond {n : Nat} {c : Operand} {t e : Code} {F : Fm} {S : St} {Q : Ex → Fm → St → Prop} {b : Bool} (hi : inO n c = true) (hc : evF F c = .s (.bool b)) (ht : b = true → WpF P w0 n t F S Q) (he : b = false → WpF P w0 n e F S Q) : WpF P w0 n (.cond c t e) F S Q := by
  intro g w a hM htm hd hu R hR
  have hev := evF_rel htm c hi
  rw [hc] at hev
  simp only [V.rel] at hev
  cases b with
  | true => exact wp_cond_true hev (ht rfl g w a hM htm hd hu R hR)
  | false => exact wp_cond_false hev (he rfl g w a hM htm hd hu R hR)
def inBlockF (id : Nat) (Q : Ex → Fm → St → Prop) : Ex → Fm → St → Prop
  | .exit i, F, S => if i = id then Q .normal F S else Q (.exit i) F S
  | .normal, F, S => Q .normal F S
  | .ret, F, S => Q .ret F S
theorem WpF.block {n : Nat} {id : Nat} {c : Code} {F : Fm} {S : St} {Q : Ex → Fm → St → Prop} (h : WpF P w0 n c F S (inBlockF id Q)) : WpF P w0 n (.block id c) F S Q := by
  intro g w a hM ht hd hu R hR
  refine wp_block (h g w a hM ht hd hu _ fun ex F1 S1 g1 a1 w1 hq h1 h2 hl => ?_)
  cases ex with
  | normal => exact hR .normal _ _ _ _ _ hq h1 h2 hl
  | ret => exact hR .ret _ _ _ _ _ hq h1 h2 hl
  | exit i =>
    simp only [Ex.exit', Exit.inBlock]
    by_cases hi : i = id
    · rw [if_pos hi]
      simp only [inBlockF, if_pos hi] at hq
      exact hR .normal _ _ _ _ _ hq h1 h2 hl
    · rw [if_neg hi]
      simp only [inBlockF, if_neg hi] at hq
      exact hR (.exit i) _ _ _ _ _ hq h1 h2 hl
def againF (I : Nat → Fm → St → Prop) (m : Nat) (Q : Ex → Fm → St → Prop) : Ex → Fm → St → Prop
  | .normal, F, S => ∃ j, j < m ∧ I j F S
  | .exit i, F, S => Q (.exit i) F S
  | .ret, F, S => Q .ret F S
/-- A loop: I m stands ahead of a round, and each round that goes on has a lesser m. -/
theorem WpF.loop {n : Nat} {c : Code} {Q : Ex → Fm → St → Prop} (I : Nat → Fm → St → Prop) (m : Nat) {F : Fm} {S : St} (h0 : I m F S) (h : ∀ m F S, I m F S → WpF P w0 n c F S (againF I m Q)) : WpF P w0 n (.loop c) F S Q := by
  have key : ∀ N m F S, m < N → I m F S → ∀ g w a, M w0 g S.heap w → FmOk g.ν n F a → a.defers = [] → Up g S.next → ∀ R : Exit → Act → World → Prop,
      (∀ ex F' S' g' a' w', Q ex F' S' → S.next ≤ S'.next → S'.low ≤ S.low → LeftF w0 n g S w F' S' g' a' w' → R ex.exit' a' w') → Code.rounds P c R N a w := by
    intro N
    induction N with
    | zero => intro m F S hm; exact absurd hm (Nat.not_lt_zero _)
    | succ N ih =>
      intro m F S hm hI g w a hM ht hd hu R hR
      rw [rounds_succ]
      refine h m F S hI g w a hM ht hd hu _ fun ex F1 S1 g1 a1 w1 hq h1 h2 hl => ?_
      cases ex with
      | normal =>
        obtain ⟨j, hj, hIj⟩ := hq
        exact ih j F1 S1 (by omega) hIj g1 w1 a1 hl.m hl.fm hl.df (hu.fr hl.fr h1) R fun ex F' S' g' a' w' hq' h3 h4 hl' => hR _ _ _ _ _ _ hq' (Nat.le_trans h1 h3) (Nat.le_trans h4 h2) (hl.trans hl' h1 h3 h4)
      | exit i => exact hR (.exit i) _ _ _ _ _ hq h1 h2 hl
      | ret => exact hR .ret _ _ _ _ _ hq h1 h2 hl
  intro g w a hM ht hd hu R hR
  exact wp_loop_rounds (m + 1) (key (m + 1) m F S (Nat.lt_succ_self _) h0 g w a hM ht hd hu R hR)
theorem WpF.region {n : Nat} {id : Nat} {ops : Array Oper} {F : Fm} {S : St} {Q : Ex → Fm → St → Prop} (h : SeqF P w0 n ops ops.toList F S (fun F' S' => Q .normal F' S')) : WpF P w0 n (.region id ops false) F S Q :=
  fun g w a hM ht hd hu R hR => wp_region_list (h g w a hM ht hd hu R fun F' S' g' a' w' hk h1 h2 hl => hR .normal _ _ _ _ _ hk h1 h2 hl)
theorem SeqF.nil {n : Nat} {ops : Array Oper} {F : Fm} {S : St} {K : Fm → St → Prop} (h : K F S) : SeqF P w0 n ops [] F S K :=
  fun g w a hM ht hd hu R hR => wpList_nil (hR _ _ g a w h (Nat.le_refl _) (Nat.le_refl _) ⟨hM, Fr.refl _ _ _ _, ht, hd⟩)
/-- An operation that is no call: what opX says. -/
theorem SeqF.op (hT : Tab T w0) {n : Nat} (hn : n ≤ 2000) {ops : Array Oper} {o : Oper} {r : List Oper} {F : Fm} {S S' : St} {v : V} {K : Fm → St → Prop} (hi : inOp n ops o = true) (h : stepF P T noCall ops F o S = some (v, S')) (k : SeqF P w0 n ops r (putF F o.dst v) S' K) : SeqF P w0 n ops (o :: r) F S K := by
  intro g w a hM ht hd hu R hR
  have hag := tmOf_agree hn F
  have hx : stepX P T noCall ops (tmOf n F) o S = some (v, S') := (stepX_eq P T hag hi).trans h
  have hm := stepX_mono P T (w0 := w0) noCall_ok hx
  refine wpList_step fun K' hK' => ?_
  refine stepX_good P T hT noCall_ok hx hM (hag.ok.2 ht) (hu.free _) ?_
  rintro u w' ⟨g', e1, e2, e3⟩
  refine hK' _ _ (k g' w' _ e1 (hag.put.ok.1 (putT_rels ((hag.ok.2 ht).mono e2.ext) o.dst e3)) (by rw [put_defers]; exact hd) (hu.fr e2 hm.1) R fun F' S'' g2 a2 w2 hk h1 h2 hl => ?_)
  exact hR _ _ _ _ _ hk (Nat.le_trans hm.1 h1) (Nat.le_trans h2 hm.2) ⟨hl.m, e2.trans hl.fr h2 hm.1 h1, hl.fm, hl.df⟩
theorem SeqF.call {n : Nat} (hn : n ≤ 2000) {ops : Array Oper} {o : Oper} {r : List Oper} {F : Fm} {S : St} {K : Fm → St → Prop} {f : Operand} {args : Array Operand} {ats : Array TypeId} {fid : FuncId} {first captured : List V} {Q : V → St → Prop}
    (hi : inOp n ops o = true) (hw : wantF ops F o = some true) (hop : o.op = .call ⟨.value f, args, ats⟩) (hcal : calleeX (evF F f) = some (fid, first, captured)) (ok : Ok P w0 fid (first ++ args.toList.map (evF F) ++ captured) S Q)
    (k : ∀ v S', Q v S' → S.next ≤ S'.next → S'.low ≤ S.low → SeqF P w0 n ops r (putF F o.dst v) S' K) : SeqF P w0 n ops (o :: r) F S K := by
  intro g w a hM ht hd hu R hR
  have hag := tmOf_agree hn F
  have hi0 := hi
  simp only [inOp, Bool.and_eq_true] at hi
  obtain ⟨i1, i2⟩ := hi
  have hall : ∀ x ∈ o.op.operands, inO n x = true := fun x hx => List.all_eq_true.1 i1 x (by simpa using hx)
  have hwant : Region.wanted o (yielded ops a.tmps) = true := by
    refine wantX_spec (tm := tmOf n F) ?_ (hag.ok.2 ht)
    rw [← hw]
    unfold wantX wantF
    cases hg : o.guard with
    | none => rfl
    | some p =>
      obtain ⟨j, want⟩ := p
      rw [hg] at i2
      simp only at i2 ⊢
      cases hd : (ops[j]?).bind (·.dst) with
      | none => rfl
      | some t =>
        rw [hd] at i2
        simp only at i2 ⊢
        have ht : t < n := by rw [blt_dec] at i2; exact of_decide_eq_true i2
        rw [Tm.get?_lt (by rw [hag.num]; exact ht), hag.get t ht]
        cases F t with
        | s v => cases v <;> rfl
        | _ => rfl
  refine wpList_step fun K' hK' => ?_
  rw [if_pos hwant]
  obtain ⟨xs, ys, h1, h2, h3⟩ := calleeX_spec hcal (evF_rel ht f (hall f (by rw [hop]; simp [Op.operands, Call.operands])))
  have hmid : V.rels g.ν (args.toList.map (evF F)) (args.toList.map a.eval) := by
    have : ∀ (l : List Operand), (∀ x ∈ l, inO n x = true) → V.rels g.ν (l.map (evF F)) (l.map a.eval) := by
      intro l
      induction l with
      | nil => intro _; exact rels_nil
      | cons x l ih => intro hl; exact rels_cons (evF_rel ht x (hl x List.mem_cons_self)) (ih fun y hy => hl y (List.mem_cons_of_mem _ hy))
    exact this _ fun x hx => hall x (by rw [hop]; simp [Op.operands, Call.operands]; right; simpa using hx)
  have hargs := rels_append (rels_append h2 hmid) h3
  have hgo : ∀ u w', (∃ v S', Q v S' ∧ S.next ≤ S'.next ∧ S'.low ≤ S.low ∧ After w0 g S w v S' u w') → K' (a.put o.dst u) w' := by
    rintro u w' ⟨v, S', hq, m1, m2, g', e1, e2, e3⟩
    refine hK' _ _ (k v S' hq m1 m2 g' w' _ e1 (hag.put.ok.1 (putT_rels ((hag.ok.2 ht).mono e2.ext) o.dst e3)) (by rw [put_defers]; exact hd) (hu.fr e2 m1) R fun F' S'' g2 a2 w2 hk h4 h5 hl => ?_)
    exact hR _ _ _ _ _ hk (Nat.le_trans m1 h4) (Nat.le_trans h5 m2) ⟨hl.m, e2.trans hl.fr h5 m1 h4, hl.fm, hl.df⟩
  have hrun : execOp a.eval o = callFunc fid (xs ++ args.toList.map a.eval ++ ys).toArray := by
    obtain ⟨dst, op, ty, pos, after, guard⟩ := o
    simp only at hop
    subst hop
    simp only [execOp, resolve, h1, Deferred.ofValue, pure_bind, invoke]
    congr 1
    apply Array.ext'
    simp
  unfold Oper.wp
  rw [hrun]
  rcases ok g w _ hM hargs hu with ⟨u, w', e1, e2⟩ | ⟨e1, e2⟩
  · rw [e1]
    exact hgo u w' e2
  · rw [e1]
    refine Calls.mono e2 ?_
    rintro e w' ⟨u, rfl, hR'⟩
    exact hgo u w' hR'
/-- What comes out as results. -/
def resF (P : Program) (T : Nat → Option (List Value)) : List ResultVar → Fm → Heap → Option (List V)
  | [], _, _ => some []
  | .tmp t :: r, F, H => match resF P T r F H with
    | some l => some (F t :: l)
    | none => none
  | .cell a t :: r, F, H => match loadX P T t (F a) H, resF P T r F H with
    | some v, some l => some (v :: l)
    | _, _ => none
def inRes (n : Nat) : List ResultVar → Bool
  | [] => true
  | .tmp t :: r => Nat.blt t n && inRes n r
  | .cell t _ :: r => Nat.blt t n && inRes n r
theorem resX_eq {n : Nat} {tm : Tm} {F : Fm} (h : Agree n tm F) {H : Heap} : ∀ (l : List ResultVar), inRes n l = true → resX P T l tm H = resF P T l F H
  | [], _ => rfl
  | .tmp t :: r, hi => by
    simp only [inRes, Bool.and_eq_true] at hi
    simp only [resX, resF, resX_eq h r hi.2, h.ev (x := .tmp t) hi.1]
    rfl
  | .cell t ty :: r, hi => by
    simp only [inRes, Bool.and_eq_true] at hi
    simp only [resX, resF, resX_eq h r hi.2, h.ev (x := .tmp t) hi.1]
    rfl
/-- The variables as a call begins. -/
def argF (args : List V) : Fm := fun t => (args[t]?).getD undefV
theorem argF_ok {ν : Val} {args : List V} {us : List Value} {n : Nat} (h : V.rels ν args us) (h1 : args.length ≤ n) : FmOk ν n (argF args) { tmps := us.toArray ++ Array.replicate (n - us.toArray.size) undef, defers := [] } := by
  have hl := rels_length h
  refine ⟨by simp; omega, fun t ht => ?_⟩
  rcases Nat.lt_or_ge t args.length with h3 | h3
  · have he : args[t]? = some args[t] := List.getElem?_eq_getElem h3
    obtain ⟨u, g1, g2⟩ := rels_get h he
    refine ⟨u, ?_, ?_⟩
    · rw [Array.getElem?_append_left (by simp; omega)]
      simpa using g1
    · show V.rel ν ((args[t]?).getD undefV) u
      rw [he]
      exact g2
  · refine ⟨undef, ?_, ?_⟩
    · rw [Array.getElem?_append_right (by simp; omega), Array.getElem?_replicate]
      simp
      omega
    · show V.rel ν ((args[t]?).getD undefV) undef
      rw [List.getElem?_eq_none (by omega)]
      exact rel_s
/-- A function by its body. -/
theorem Ok.bodyF (hT : Tab T w0) {f : FuncId} {Fn : Func} {c : Code} {args : List V} {S : St} {Q : V → St → Prop} (hf : P.funcs[f]? = some Fn) (hn : (Fn.name == "runtime.NumGoroutine") = false) (hb : Fn.body = some c) (h1 : args.length ≤ Fn.ntmps) (h2 : Fn.ntmps ≤ 2000) (hi : inRes Fn.ntmps Fn.results.toList = true)
    (h : WpF P w0 Fn.ntmps c (argF args) ⟨S.heap, S.next, S.next⟩ fun ex F S' => (ex = .normal ∨ ex = .ret) ∧ ∃ l, resF P T Fn.results.toList F S'.heap = some l ∧ Q (packX l) ⟨S'.heap, S'.next, min S'.low S.low⟩) : Ok P w0 f args S Q := by
  intro g w us hM hr hu
  refine callSem_of hf hn (by rw [hb]; rfl) (calls_of_wp hf hb ?_)
  refine h g w _ hM (argF_ok hr h1) rfl hu _ fun ex F' S' g' a' w' ⟨hex, l, hres, hq⟩ m1 m2 hl => ?_
  have hag := tmOf_agree h2 F'
  rw [← resX_eq hag _ hi] at hres
  obtain ⟨u, hu1, hu2⟩ := packX_run P T (S := S') hT hl.m (hag.ok.2 hl.fm) hres
  have hA : ∃ v S'', Q v S'' ∧ S.next ≤ S''.next ∧ S''.low ≤ S.low ∧ After w0 g S w v S'' u w' := ⟨packX l, _, hq, m1, Nat.min_le_right _ _, g', hl.m, hl.fr.weaken (Nat.min_le_left _ _) (Nat.le_refl _), hu2⟩
  rcases hex with rfl | rfl
  · exact ⟨hl.df, u, hu1, u, rfl, hA⟩
  · exact ⟨hl.df, u, hu1, u, rfl, hA⟩
/-- A function that turns no elder block and answers a plain value: all is as it was. -/
theorem Ok.quietF (hT : Tab T w0) {f : FuncId} {Fn : Func} {c : Code} {args : List V} {S : St} {Q : Value → Prop} (hf : P.funcs[f]? = some Fn) (hn : (Fn.name == "runtime.NumGoroutine") = false) (hb : Fn.body = some c) (h1 : args.length ≤ Fn.ntmps) (h2 : Fn.ntmps ≤ 2000) (hi : inRes Fn.ntmps Fn.results.toList = true)
    (h : WpF P w0 Fn.ntmps c (argF args) ⟨S.heap, S.next, S.next⟩ fun ex F S' => (ex = .normal ∨ ex = .ret) ∧ S'.low = S.next ∧ ∃ l x, resF P T Fn.results.toList F S'.heap = some l ∧ packX l = .s x ∧ Q x) : Ok P w0 f args S fun v S' => ∃ x, v = .s x ∧ Q x ∧ S' = S := by
  intro g w us hM hr hu
  refine callSem_of hf hn (by rw [hb]; rfl) (calls_of_wp hf hb ?_)
  refine h g w _ hM (argF_ok hr h1) rfl hu _ fun ex F' S' g' a' w' ⟨hex, hlow, l, x, hres, hpk, hq⟩ m1 m2 hl => ?_
  have hag := tmOf_agree h2 F'
  rw [← resX_eq hag _ hi] at hres
  obtain ⟨u, hu1, hu2⟩ := packX_run P T (S := S') hT hl.m (hag.ok.2 hl.fm) hres
  rw [hpk] at hu2
  simp only [V.rel] at hu2
  subst hu2
  have hold := hl.fr.old
  rw [hlow] at hold
  have hlt : ∀ k id, g.own k = some id → id < S.next := fun k id hk => by
    obtain ⟨_, _, c', hc'⟩ := hM.mine k id hk
    rcases Nat.lt_or_ge id S.next with h3 | h3
    · exact h3
    · rw [hu id h3] at hc'; cases hc'
  have hA : ∃ v S'', (∃ x, v = .s x ∧ Q x ∧ S'' = S) ∧ S.next ≤ S''.next ∧ S''.low ≤ S.low ∧ After w0 g S w v S'' u w' := by
    refine ⟨.s u, S, ⟨u, rfl, hq, rfl⟩, Nat.le_refl _, Nat.le_refl _, g, ⟨fun id b hb' => ?_, fun k id hk => ?_, hl.m.base⟩, ⟨Ext.refl _, fun _ _ => rfl, hl.fr.size, fun k hk _ => ⟨(hold k hk fun id hid => .inl (hlt k id hid)).1, rfl⟩⟩, rel_s⟩
    · obtain ⟨k, c', o, g1, g2, g3, g4⟩ := hM.blk id b hb'
      refine ⟨k, c', o, g1, g2, ?_, g4⟩
      rw [(hold k (hM.mine k id g2).2.1 fun i hi => .inl (hlt k i hi)).1]
      exact g3
    · obtain ⟨g1, g2, g3⟩ := hM.mine k id hk
      exact ⟨g1, Nat.lt_of_lt_of_le g2 hl.fr.size, g3⟩
  rcases hex with rfl | rfl
  · exact ⟨hl.df, u, hu1, u, rfl, hA⟩
  · exact ⟨hl.df, u, hu1, u, rfl, hA⟩
def quietF (P : Program) (T : Nat → Option (List Value)) (call : Caller) (ops : Array Oper) (a : Nat) (H0 : Heap) : List Oper → List Out → Fm → Nat → Option (Fm × Nat × List Out)
  | [], outs, F, c => some (F, c, outs)
  | o :: r, outs, F, c => match stepF P T call ops F o ⟨visX a outs (depsX o) ++ H0, c, c⟩ with
    | some (v, S') => bif Nat.beq S'.low c then quietF P T call ops a H0 r (outs ++ [⟨v, c, S'.next, visX a outs (depsX o), newsX c S'.heap, o.dst⟩]) (putF F o.dst v) (S'.next + 1) else none
    | none => none
def seqF (P : Program) (T : Nat → Option (List Value)) (call : Caller) (ops : Array Oper) : List Oper → Fm → St → Option (Fm × St)
  | [], F, S => some (F, S)
  | o :: r, F, S => match stepF P T call ops F o S with
    | some (v, S') => seqF P T call ops r (putF F o.dst v) S'
    | none => none
def mixF (P : Program) (T : Nat → Option (List Value)) (call : Caller) (ops : Array Oper) (ancs : List Nat) (a c0 : Nat) (H0 : Heap) : List Oper → List (Out × Nat) → Fm → Nat → Option (Fm × Nat × List (Out × Nat))
  | [], outs, F, c => some (F, c, outs)
  | o :: r, outs, F, c => match stepF P T call ops F o ⟨visY a outs (depsX o) ++ H0, c, c⟩ with
    | some (v, S') => bif chkY ((ancs[a + outs.length]?).getD 0) a c0 c S'.low (visY a outs (depsX o)) (newsX c0 S'.heap) outs then
        mixF P T call ops ancs a c0 H0 r (outs ++ [(⟨v, c, S'.next, visY a outs (depsX o), newsX c0 S'.heap, o.dst⟩, S'.low)]) (putF F o.dst v) (S'.next + 1) else none
    | none => none
def segsF (P : Program) (T : Nat → Option (List Value)) (pick : Nat → Bool) (call : Caller) (ops : Array Oper) : Nat → List Oper → List Nat → Fm → St → Option (Fm × St)
  | _, _, [], F, S => some (F, S)
  | a, l, m :: r, F, S => match Nat.beq m 1, l with
    | true, o :: l' => match stepF P T call ops F o S with
      | some (v, S') => segsF P T pick call ops (a + 1) l' r (putF F o.dst v) S'
      | none => none
    | true, [] => none
    | false, l => bif Nat.ble S.low S.next then (match soloX P (l.take m) with
      | some _ => match seqF P T call ops (l.take m) F S with
        | some (F', S') => segsF P T pick call ops (a + m) (l.drop m) r F' S'
        | none => none
      | none => match (bif pick a then none else quietF P T call ops a S.heap (l.take m) [] F S.next) with
      | some (F', c, outs) => segsF P T pick call ops (a + m) (l.drop m) r F' ⟨newAll outs ++ S.heap, c, S.low⟩
      | none => match (bif pick a then mixF P T call ops (ancsX ops.toList []) a S.next S.heap (l.take m) [] F S.next else none) with
        | some (F', c, outs) => segsF P T pick call ops (a + m) (l.drop m) r F' ⟨leftY outs ++ S.heap, c, S.low⟩
        | none => none) else none
theorem seqX_eqF {n : Nat} {call : Caller} {ops : Array Oper} : ∀ {l : List Oper} {tm : Tm} {F F' : Fm} {S S' : St}, Agree n tm F → (∀ o ∈ l, inOp n ops o = true) → seqF P T call ops l F S = some (F', S') → ∃ tm', seqX P T call ops l tm S = some (tm', S') ∧ Agree n tm' F'
  | [], tm, F, F', S, S', h, hi, e => by cases e; exact ⟨tm, rfl, h⟩
  | o :: r, tm, F, F', S, S', h, hi, e => by
    simp only [seqF] at e
    simp only [seqX, stepX_eq P T h (hi o List.mem_cons_self)]
    split at e
    · rename_i v S1 hs
      try rw [hs]
      exact seqX_eqF h.put (fun o ho => hi o (List.mem_cons_of_mem _ ho)) e
    · cases e
theorem quietX_eqF {n : Nat} {call : Caller} {ops : Array Oper} {a : Nat} {H0 : Heap} : ∀ {l : List Oper} {outs outs' : List Out} {tm : Tm} {F F' : Fm} {c c' : Nat}, Agree n tm F → (∀ o ∈ l, inOp n ops o = true) → quietF P T call ops a H0 l outs F c = some (F', c', outs') → ∃ tm', quietX P T call ops a H0 l outs tm c = some (tm', c', outs') ∧ Agree n tm' F'
  | [], outs, outs', tm, F, F', c, c', h, hi, e => by cases e; exact ⟨tm, rfl, h⟩
  | o :: r, outs, outs', tm, F, F', c, c', h, hi, e => by
    simp only [quietF] at e
    simp only [quietX, stepX_eq P T h (hi o List.mem_cons_self)]
    split at e
    · rename_i v S1 hs
      cases hb : Nat.beq S1.low c with
      | false => rw [hb] at e; cases e
      | true =>
        rw [hb] at e
        simp only [hs, hb, cond_true] at e ⊢
        exact quietX_eqF h.put (fun o ho => hi o (List.mem_cons_of_mem _ ho)) e
    · cases e
theorem mixX_eqF {n : Nat} {call : Caller} {ops : Array Oper} {ancs : List Nat} {a c0 : Nat} {H0 : Heap} : ∀ {l : List Oper} {outs outs' : List (Out × Nat)} {tm : Tm} {F F' : Fm} {c c' : Nat}, Agree n tm F → (∀ o ∈ l, inOp n ops o = true) → mixF P T call ops ancs a c0 H0 l outs F c = some (F', c', outs') → ∃ tm', mixX P T call ops ancs a c0 H0 l outs tm c = some (tm', c', outs') ∧ Agree n tm' F'
  | [], outs, outs', tm, F, F', c, c', h, hi, e => by cases e; exact ⟨tm, rfl, h⟩
  | o :: r, outs, outs', tm, F, F', c, c', h, hi, e => by
    simp only [mixF] at e
    simp only [mixX, stepX_eq P T h (hi o List.mem_cons_self)]
    split at e
    · rename_i v S1 hs
      cases hb : chkY ((ancs[a + outs.length]?).getD 0) a c0 c S1.low (visY a outs (depsX o)) (newsX c0 S1.heap) outs with
      | false => rw [hb] at e; cases e
      | true =>
        rw [hb] at e
        simp only [hs, hb, cond_true] at e ⊢
        exact mixX_eqF h.put (fun o ho => hi o (List.mem_cons_of_mem _ ho)) e
    · cases e
theorem segsX_eqF {n : Nat} {pick : Nat → Bool} {call : Caller} {ops : Array Oper} : ∀ {lens : List Nat} {a : Nat} {l : List Oper} {tm : Tm} {F F' : Fm} {S S' : St}, Agree n tm F → (∀ o ∈ l, inOp n ops o = true) → segsF P T pick call ops a l lens F S = some (F', S') → ∃ tm', segsX P T pick call ops a l lens tm S = some (tm', S') ∧ Agree n tm' F'
  | [], a, l, tm, F, F', S, S', h, hi, e => by simp only [segsF] at e; cases e; exact ⟨tm, by simp only [segsX], h⟩
  | m :: lens, a, l, tm, F, F', S, S', h, hi, e => by
    simp only [segsF] at e
    simp only [segsX]
    cases hm : Nat.beq m 1 with
    | true =>
      rw [hm] at e
      cases l with
      | nil => simp only at e; cases e
      | cons o l' =>
        simp only at e ⊢
        rw [stepX_eq P T h (hi o List.mem_cons_self)]
        split at e
        · rename_i v S1 hs
          try rw [hs]
          exact segsX_eqF h.put (fun o ho => hi o (List.mem_cons_of_mem _ ho)) e
        · cases e
    | false =>
      rw [hm] at e
      simp only at e ⊢
      cases hlow : Nat.ble S.low S.next with
      | false => rw [hlow] at e; cases e
      | true =>
        rw [hlow] at e
        simp only [cond_true] at e ⊢
        have hit : ∀ o ∈ l.take m, inOp n ops o = true := fun o ho => hi o (List.mem_of_mem_take ho)
        have hid : ∀ o ∈ l.drop m, inOp n ops o = true := fun o ho => hi o (List.mem_of_mem_drop ho)
        split at e
        · rename_i hx
          try rw [hx]
          try simp only
          split at e
          · rename_i F1 S1 hq
            obtain ⟨tm1, h1, h2⟩ := seqX_eqF h hit hq
            rw [h1]
            exact segsX_eqF h2 hid e
          · cases e
        · rename_i hx
          try rw [hx]
          try simp only
          cases hpk : pick a with
          | false =>
            rw [hpk] at e
            simp only [cond_false] at e ⊢
            split at e
            · rename_i F1 c1 outs1 hq
              obtain ⟨tm1, h1, h2⟩ := quietX_eqF h hit hq
              rw [h1]
              exact segsX_eqF h2 hid e
            · cases e
          | true =>
            rw [hpk] at e
            simp only [cond_true] at e ⊢
            split at e
            · rename_i F1 c1 outs1 hq
              obtain ⟨tm1, h1, h2⟩ := mixX_eqF h hit hq
              rw [h1]
              exact segsX_eqF h2 hid e
            · cases e
/-- A row in a drawn order: 'lens' is its plan. -/
theorem WpF.drawK (hT : Tab T w0) (hm : P.follows .mixedOrders = true) {n : Nat} (hn : n ≤ 2000) {pick : Nat → Bool} {call : Caller} (hc : CallOk P w0 call) {id : Nat} {ops : Array Oper} {lens : List Nat} {F : Fm} {S : St} {Q : Ex → Fm → St → Prop} (hp : planX ops = some lens) (hi : ops.toList.all (inOp n ops) = true)
    (h : (∀ c, S.next ≤ c → newsX c S.heap = []) → ∃ F' S', segsF P T pick call ops 0 ops.toList lens F S = some (F', S') ∧ Q .normal F' S') : WpF P w0 n (.region id ops true) F S Q := by
  intro g w a hM ht hdf hu R hR
  have hwf : ∀ c, S.next ≤ c → newsX c S.heap = [] := fun c hcl => by
    have : ∀ H : Heap, (∀ p ∈ H, p.1 < S.next) → newsX c H = [] := by
      intro H
      induction H with
      | nil => intro _; rfl
      | cons p H ih =>
        intro hH
        obtain ⟨i, b⟩ := p
        have hlt := hH _ List.mem_cons_self
        simp only at hlt
        have hb : Nat.ble c i = false := by
          cases hb : Nat.ble c i with
          | false => rfl
          | true => have := Nat.le_of_ble_eq_true hb; omega
        simp only [newsX, hb, cond_false]
        exact ih fun q hq => hH q (List.mem_cons_of_mem _ hq)
    refine this _ fun p hpm => ?_
    have hex : ∃ b, find p.1 S.heap = some b := by
      have : ∀ H : Heap, p ∈ H → ∃ b, find p.1 H = some b := by
        intro H
        induction H with
        | nil => intro h; cases h
        | cons q H ih =>
          intro hq
          obtain ⟨i, b⟩ := q
          by_cases e : Nat.beq i p.1 = true
          · exact ⟨b, by simp only [find]; rw [if_pos e]⟩
          · rcases List.mem_cons.1 hq with rfl | hq
            · exact absurd (Nat.beq_refl _) e
            · obtain ⟨b', hb'⟩ := ih hq
              exact ⟨b', by simp only [find]; rw [if_neg e]; exact hb'⟩
      exact this _ hpm
    obtain ⟨b, hb⟩ := hex
    obtain ⟨k, c2, o2, e1, _⟩ := hM.blk _ _ hb
    rcases Nat.lt_or_ge p.1 S.next with h3 | h3
    · exact h3
    · rw [hu _ h3] at e1
      cases e1
  obtain ⟨F', S', h, hQ⟩ := h hwf
  obtain ⟨tm', h1, h2⟩ := segsX_eqF (tmOf_agree hn F) (fun o ho => List.all_eq_true.1 hi o ho) h
  have hd : drawP P T pick call ops (tmOf n F) S = some (tm', S') := by
    unfold drawP
    rw [hp]
    exact h1
  obtain ⟨⟨m1, m2⟩, hw⟩ := drawP_ok P T hT hm pick call hc _ _ _ _ _ hd
  exact hw g w a hM ((tmOf_agree hn F).ok.2 ht) hdf (hu.free _) R id fun g' a' w' hl => hR .normal _ _ _ _ _ hQ m1 m2 ⟨hl.m, hl.fr, h2.ok.1 hl.tm, hl.df⟩
end
end Go.Proofs.YtmpmbnmldmpmiaaGreatDoor.Sim
set_option linter.unusedVariables false
set_option linter.unusedSimpArgs false
namespace Go.Proofs.YtmpmbnmldmpmiaaGreatDoor.Sim
open Go Go.RowKit
/-- A fact that rewriting is not to see. -/
structure Hide (p : Prop) : Prop where
  out : p
/-- Operations one behind the other, up to the next call. -/
def EvL (P : Program) (T : Nat → Option (List Value)) (w0 : Bs) (n : Nat) (ops : Array Oper) : List Oper → Fm → St → (Fm → St → Prop) → Prop
  | [], F, S, K => K F S
  | o :: r, F, S, K => match wantF ops F o with
    | some true => match o.op with
      | .call ⟨.value f, args, ats⟩ => SeqF P w0 n ops (o :: r) F S K
      | _ => match opX P T (evF F) o S with
        | some (v, f) => EvL P T w0 n ops r (putF F o.dst v) (f.run S) K
        | none => False
    | some false => EvL P T w0 n ops r (putF F o.dst undefV) S K
    | none => False
section
variable {P : Program} {T : Nat → Option (List Value)} {w0 : Bs}
theorem EvL.seq (hT : Tab T w0) {n : Nat} (hn : n ≤ 2000) {ops : Array Oper} : ∀ (l : List Oper) {F : Fm} {S : St} {K : Fm → St → Prop}, l.all (inOp n ops) = true → EvL P T w0 n ops l F S K → SeqF P w0 n ops l F S K
  | [], F, S, K, hi, h => SeqF.nil h
  | o :: r, F, S, K, hi, h => by
    simp only [List.all_cons, Bool.and_eq_true] at hi
    simp only [EvL] at h
    split at h
    · rename_i hw
      split at h
      · exact h
      · rename_i hnc
        split at h
        · rename_i v f hop
          refine SeqF.op hT hn hi.1 (v := v) (S' := f.run S) ?_ (EvL.seq hT hn r hi.2 h)
          unfold stepF
          rw [hw]
          obtain ⟨dst, op, ty, pos, aft, gd⟩ := o
          simp only at hnc hop ⊢
          cases op with
          | call c =>
            obtain ⟨callee, args, ats⟩ := c
            cases callee with
            | value f => exact absurd rfl (hnc _ _ _)
            | builtin b => simp only [hop]
            | invoke r m => simp only [hop]
          | _ => simp only [hop]
        · exact h.elim
    · rename_i hw
      refine SeqF.op hT hn hi.1 (v := undefV) (S' := S) ?_ (EvL.seq hT hn r hi.2 h)
      unfold stepF
      rw [hw]
    · exact h.elim
/-- A call, its arguments written out; then on by rewriting. -/
theorem SeqF.callE (hT : Tab T w0) {n : Nat} (hn : n ≤ 2000) {ops : Array Oper} {o : Oper} {r : List Oper} {F : Fm} {S : St} {K : Fm → St → Prop} {f : Operand} {args : Array Operand} {ats : Array TypeId} {fid : FuncId} {first captured as : List V} {Q : V → St → Prop}
    (ok : Ok P w0 fid as S Q) (hi : (o :: r).all (inOp n ops) = true) (hw : wantF ops F o = some true) (hop : o.op = .call ⟨.value f, args, ats⟩) (hcal : calleeX (evF F f) = some (fid, first, captured)) (has : first ++ args.toList.map (evF F) ++ captured = as)
    (k : ∀ v S', Q v S' → S.next ≤ S'.next → S'.low ≤ S.low → EvL P T w0 n ops r (putF F o.dst v) S' K) : SeqF P w0 n ops (o :: r) F S K := by
  subst has
  simp only [List.all_cons, Bool.and_eq_true] at hi
  exact SeqF.call hn hi.1 hw hop hcal ok fun v S' hq h1 h2 => EvL.seq hT hn _ hi.2 (k v S' hq h1 h2)
theorem WpF.row (hT : Tab T w0) {n : Nat} (hn : n ≤ 2000) {id : Nat} {ops : Array Oper} {F : Fm} {S : St} {Q : Ex → Fm → St → Prop} (hi : ops.toList.all (inOp n ops) = true) (h : EvL P T w0 n ops ops.toList F S (fun F' S' => Q .normal F' S')) : WpF P w0 n (.region id ops false) F S Q :=
  WpF.region (EvL.seq hT hn _ hi h)
/-- What a call's end must give. -/
def Fin (P : Program) (T : Nat → Option (List Value)) (rs : List ResultVar) (F : Fm) (S S' : St) (Q : V → St → Prop) : Prop := match resF P T rs F S'.heap with
  | some l => Q (packX l) ⟨S'.heap, S'.next, min S'.low S.low⟩
  | none => False
def FinQ (P : Program) (T : Nat → Option (List Value)) (rs : List ResultVar) (F : Fm) (S S' : St) (Q : Value → Prop) : Prop := match resF P T rs F S'.heap with
  | some l => match packX l with
    | .s x => S'.low = S.next ∧ Q x
    | _ => False
  | none => False
theorem Ok.run (hT : Tab T w0) {f : FuncId} {Fn : Func} {c : Code} {args : List V} {S : St} {Q : V → St → Prop} (hf : P.funcs[f]? = some Fn) (hn : (Fn.name == "runtime.NumGoroutine") = false) (hb : Fn.body = some c) (h1 : Nat.ble args.length Fn.ntmps = true) (h2 : Nat.ble Fn.ntmps 2000 = true) (hi : inRes Fn.ntmps Fn.results.toList = true)
    (h : WpF P w0 Fn.ntmps c (argF args) ⟨S.heap, S.next, S.next⟩ fun ex F S' => (ex = .normal ∨ ex = .ret) ∧ Fin P T Fn.results.toList F S S' Q) : Ok P w0 f args S Q := by
  refine Ok.bodyF hT hf hn hb (Nat.le_of_ble_eq_true h1) (Nat.le_of_ble_eq_true h2) hi (h.mono fun ex F S' hq _ _ => ⟨hq.1, ?_⟩)
  have := hq.2
  unfold Fin at this
  split at this
  · rename_i l hl
    exact ⟨l, hl, this⟩
  · exact this.elim
theorem packX_one (v : V) : packX [v] = v := rfl
theorem packX_two (v x : V) (l : List V) : packX (v :: x :: l) = mkTup (v :: x :: l) := rfl
/-- One operation, and what then. -/
def StepK (P : Program) (T : Nat → Option (List Value)) (call : Caller) (ops : Array Oper) (F : Fm) (o : Oper) (S : St) (K : V → St → Prop) : Prop := match wantF ops F o with
  | some true => match o.op with
    | .call ⟨.value f, args, _⟩ => match calleeX (evF F f) with
      | some (fid, first, captured) => match call fid (first ++ args.toList.map (evF F) ++ captured) S with
        | some (v, S') => K v S'
        | none => False
      | none => False
    | _ => match opX P T (evF F) o S with
      | some (v, f) => K v (f.run S)
      | none => False
  | some false => K undefV S
  | none => False
theorem StepK.step {call : Caller} {ops : Array Oper} {F : Fm} {o : Oper} {S : St} {K : V → St → Prop} (h : StepK P T call ops F o S K) : ∃ v S', stepF P T call ops F o S = some (v, S') ∧ K v S' := by
  unfold StepK at h
  unfold stepF
  cases hw : wantF ops F o with
  | none => rw [hw] at h; exact h.elim
  | some b =>
    rw [hw] at h
    cases b with
    | false => exact ⟨_, _, rfl, h⟩
    | true =>
      simp only at h ⊢
      obtain ⟨dst, op, ty, pos, aft, gd⟩ := o
      generalize hr : opX P T (evF F) ⟨dst, op, ty, pos, aft, gd⟩ S = r at h ⊢
      cases op with
      | call c =>
        obtain ⟨callee, args, ats⟩ := c
        cases callee with
        | value f =>
          simp only at h ⊢
          cases hcal : calleeX (evF F f) with
          | none => rw [hcal] at h; exact h.elim
          | some p =>
            obtain ⟨fid, first, captured⟩ := p
            rw [hcal] at h
            simp only at h ⊢
            cases hc : call fid (first ++ args.toList.map (evF F) ++ captured) S with
            | none => rw [hc] at h; exact h.elim
            | some q => rw [hc] at h; exact ⟨_, _, rfl, h⟩
        | builtin b => cases r with | none => exact h.elim | some p => exact ⟨_, _, rfl, h⟩
        | invoke r' m => cases r with | none => exact h.elim | some p => exact ⟨_, _, rfl, h⟩
      | _ => cases r with | none => exact h.elim | some p => exact ⟨_, _, rfl, h⟩
def runSolo (P : Program) (T : Nat → Option (List Value)) (call : Caller) (ops : Array Oper) : List Oper → Fm → St → (Fm → St → Prop) → Prop
  | [], F, S, K => K F S
  | o :: r, F, S, K => StepK P T call ops F o S fun v S' => runSolo P T call ops r (putF F o.dst v) S' K
theorem runSolo_seq {call : Caller} {ops : Array Oper} : ∀ {l : List Oper} {F : Fm} {S : St} {K : Fm → St → Prop}, runSolo P T call ops l F S K → ∃ F' S', seqF P T call ops l F S = some (F', S') ∧ K F' S'
  | [], F, S, K, h => ⟨F, S, rfl, h⟩
  | o :: r, F, S, K, h => by
    obtain ⟨v, S', h1, h2⟩ := StepK.step h
    obtain ⟨F2, S2, h3, h4⟩ := runSolo_seq h2
    exact ⟨F2, S2, by simp only [seqF, h1]; exact h3, h4⟩
def runQuiet (P : Program) (T : Nat → Option (List Value)) (call : Caller) (ops : Array Oper) (a : Nat) (H0 : Heap) : List (Oper × List Nat) → List Out → Fm → Nat → (Fm → Nat → List Out → Prop) → Prop
  | [], outs, F, c, K => K F c outs
  | (o, ds) :: r, outs, F, c, K => StepK P T call ops F o ⟨visX a outs ds ++ H0, c, c⟩ fun v S' => S'.low = c ∧ runQuiet P T call ops a H0 r (outs ++ [⟨v, c, S'.next, visX a outs ds, newsX c S'.heap, o.dst⟩]) (putF F o.dst v) (S'.next + 1) K
theorem runQuiet_quiet {call : Caller} {ops : Array Oper} {a : Nat} {H0 : Heap} : ∀ {l : List Oper} {outs : List Out} {F : Fm} {c : Nat} {K : Fm → Nat → List Out → Prop}, runQuiet P T call ops a H0 (l.zip (l.map depsX)) outs F c K → ∃ F' c' outs', quietF P T call ops a H0 l outs F c = some (F', c', outs') ∧ K F' c' outs'
  | [], outs, F, c, K, h => ⟨F, c, outs, rfl, h⟩
  | o :: r, outs, F, c, K, h => by
    obtain ⟨v, S', h1, h2, h3⟩ := StepK.step h
    obtain ⟨F2, c2, o2, h4, h5⟩ := runQuiet_quiet h3
    refine ⟨F2, c2, o2, ?_, h5⟩
    simp only [quietF, h1, h2, Nat.beq_refl, cond_true]
    exact h4
def runMix (P : Program) (T : Nat → Option (List Value)) (call : Caller) (ops : Array Oper) (ancs : List Nat) (a c0 : Nat) (H0 : Heap) : List (Oper × List Nat) → List (Out × Nat) → Fm → Nat → (Fm → Nat → List (Out × Nat) → Prop) → Prop
  | [], outs, F, c, K => K F c outs
  | (o, ds) :: r, outs, F, c, K => StepK P T call ops F o ⟨visY a outs ds ++ H0, c, c⟩ fun v S' => chkY ((ancs[a + outs.length]?).getD 0) a c0 c S'.low (visY a outs ds) (newsX c0 S'.heap) outs = true ∧
      runMix P T call ops ancs a c0 H0 r (outs ++ [(⟨v, c, S'.next, visY a outs ds, newsX c0 S'.heap, o.dst⟩, S'.low)]) (putF F o.dst v) (S'.next + 1) K
theorem runMix_mix {call : Caller} {ops : Array Oper} {ancs : List Nat} {a c0 : Nat} {H0 : Heap} : ∀ {l : List Oper} {outs : List (Out × Nat)} {F : Fm} {c : Nat} {K : Fm → Nat → List (Out × Nat) → Prop}, runMix P T call ops ancs a c0 H0 (l.zip (l.map depsX)) outs F c K → ∃ F' c' outs', mixF P T call ops ancs a c0 H0 l outs F c = some (F', c', outs') ∧ K F' c' outs'
  | [], outs, F, c, K, h => ⟨F, c, outs, rfl, h⟩
  | o :: r, outs, F, c, K, h => by
    obtain ⟨v, S', h1, h2, h3⟩ := StepK.step h
    obtain ⟨F2, c2, o2, h4, h5⟩ := runMix_mix h3
    refine ⟨F2, c2, o2, ?_, h5⟩
    simp only [mixF, h1, h2, cond_true]
    exact h4
/-- A plan's stretches: 0 one operation, 1 such as look at no memory but one, 2 such as turn nothing elder. -/
def kindsX (P : Program) (pick : Nat → Bool) : Nat → List Oper → List Nat → List (Nat × Nat)
  | _, _, [] => []
  | a, l, m :: r => (bif Nat.beq m 1 then 0 else match soloX P (l.take m) with
    | some _ => 1
    | none => bif pick a then 3 else 2, m) :: kindsX P pick (a + m) (l.drop m) r
def EvD (P : Program) (T : Nat → Option (List Value)) (call : Caller) (ops : Array Oper) (ancs : List Nat) : Nat → List Oper → List (List Nat) → List (Nat × Nat) → Fm → St → (Fm → St → Prop) → Prop
  | _, _, _, [], F, S, K => K F S
  | a, l, ds, (0, m) :: r, F, S, K => runSolo P T call ops (l.take 1) F S fun F' S' => EvD P T call ops ancs (a + 1) (l.drop 1) (ds.drop 1) r F' S' K
  | a, l, ds, (1, m) :: r, F, S, K => S.low ≤ S.next ∧ runSolo P T call ops (l.take m) F S fun F' S' => EvD P T call ops ancs (a + m) (l.drop m) (ds.drop m) r F' S' K
  | a, l, ds, (3, m) :: r, F, S, K => S.low ≤ S.next ∧ runMix P T call ops ancs a S.next S.heap ((l.take m).zip (ds.take m)) [] F S.next fun F' c outs => EvD P T call ops ancs (a + m) (l.drop m) (ds.drop m) r F' ⟨leftY outs ++ S.heap, c, S.low⟩ K
  | a, l, ds, (_, m) :: r, F, S, K => S.low ≤ S.next ∧ runQuiet P T call ops a S.heap ((l.take m).zip (ds.take m)) [] F S.next fun F' c outs => EvD P T call ops ancs (a + m) (l.drop m) (ds.drop m) r F' ⟨newAll outs ++ S.heap, c, S.low⟩ K
theorem EvD.segs {pick : Nat → Bool} {call : Caller} {ops : Array Oper} : ∀ {lens : List Nat} {a : Nat} {l : List Oper} {F : Fm} {S : St} {K : Fm → St → Prop}, lens.sum = l.length → EvD P T call ops (ancsX ops.toList []) a l (l.map depsX) (kindsX P pick a l lens) F S K → ∃ F' S', segsF P T pick call ops a l lens F S = some (F', S') ∧ K F' S'
  | [], a, l, F, S, K, hl, h => ⟨F, S, by simp only [segsF], h⟩
  | m :: lens, a, l, F, S, K, hl, h => by
    simp only [kindsX] at h
    have hle : m ≤ l.length := by simp only [List.sum_cons] at hl; omega
    have hl' : lens.sum = (l.drop m).length := by simp only [List.sum_cons] at hl; simp; omega
    cases hm : Nat.beq m 1 with
    | true =>
      have hm1 := Nat.eq_of_beq_eq_true hm
      subst hm1
      rw [hm] at h
      simp only [cond_true, EvD] at h
      cases l with
      | nil => simp at hle
      | cons o l' =>
        simp only [List.take_succ_cons, List.take_zero, List.drop_succ_cons, List.drop_zero, List.map_cons] at h
        obtain ⟨v, S1, h1, h2⟩ := StepK.step h
        obtain ⟨F2, S2, h3, h4⟩ := EvD.segs (by simpa using hl') h2
        refine ⟨F2, S2, ?_, h4⟩
        simp only [segsF, hm, h1]
        exact h3
    | false =>
      rw [hm] at h
      simp only [cond_false] at h
      cases hs : soloX P (l.take m) with
      | some x =>
        rw [hs] at h
        simp only [EvD] at h
        obtain ⟨hlow, h⟩ := h
        rw [← List.map_drop] at h
        obtain ⟨F1, S1, h1, h2⟩ := runSolo_seq h
        obtain ⟨F2, S2, h3, h4⟩ := EvD.segs hl' h2
        refine ⟨F2, S2, ?_, h4⟩
        simp only [segsF, hm, Nat.ble_eq_true_of_le hlow, cond_true, hs, h1]
        exact h3
      | none =>
        rw [hs] at h
        cases hpk : pick a with
        | false =>
          rw [hpk] at h
          simp only [EvD, cond_false] at h
          obtain ⟨hlow, h⟩ := h
          rw [← List.map_drop, ← List.map_take] at h
          obtain ⟨F1, c1, o1, h1, h2⟩ := runQuiet_quiet h
          obtain ⟨F2, S2, h3, h4⟩ := EvD.segs hl' h2
          refine ⟨F2, S2, ?_, h4⟩
          simp only [segsF, hm, Nat.ble_eq_true_of_le hlow, cond_true, cond_false, hs, hpk, h1]
          exact h3
        | true =>
          rw [hpk] at h
          simp only [EvD, cond_true] at h
          obtain ⟨hlow, h⟩ := h
          rw [← List.map_drop, ← List.map_take] at h
          obtain ⟨F1, c1, o1, h1, h2⟩ := runMix_mix h
          obtain ⟨F2, S2, h3, h4⟩ := EvD.segs hl' h2
          refine ⟨F2, S2, ?_, h4⟩
          simp only [segsF, hm, Nat.ble_eq_true_of_le hlow, cond_true, hs, hpk, h1]
          exact h3
/-- All that a row in a drawn order is checked for ahead. -/
def picks : Nat → List (Nat × Nat) → Nat → Bool
  | _, [], _ => false
  | a, (k, m) :: r, x => (Nat.beq k 3 && Nat.beq a x) || picks (a + m) r x
def planOk (P : Program) (n : Nat) (ops : Array Oper) (ks : List (Nat × Nat)) (ds : List (List Nat)) (ancs : List Nat) : Bool := match planX ops with
  | some lens => (kindsX P (picks 0 ks) 0 ops.toList lens == ks) && (ops.toList.map depsX == ds) && (ancsX ops.toList [] == ancs) && Nat.beq lens.sum ops.toList.length && ops.toList.all (inOp n ops)
  | none => false
theorem WpF.drawE (hT : Tab T w0) (hm : P.follows .mixedOrders = true) {n : Nat} (hn : n ≤ 2000) {call : Caller} (hc : CallOk P w0 call) {id : Nat} {ops : Array Oper} (ks : List (Nat × Nat)) (ds : List (List Nat)) (ancs : List Nat) {F : Fm} {S : St} {Q : Ex → Fm → St → Prop} (hp : planOk P n ops ks ds ancs = true)
    (h : (∀ c, S.next ≤ c → newsX c S.heap = []) → EvD P T call ops ancs 0 ops.toList ds ks F S (fun F' S' => Q .normal F' S')) : WpF P w0 n (.region id ops true) F S Q := by
  unfold planOk at hp
  split at hp
  · rename_i lens hpl
    simp only [Bool.and_eq_true] at hp
    obtain ⟨⟨⟨⟨h1, h2⟩, h0⟩, h3⟩, h4⟩ := hp
    have h1 := eq_of_beq h1
    have h2 := eq_of_beq h2
    have h0 := eq_of_beq h0
    subst h2
    subst h0
    rw [← h1] at h
    exact WpF.drawK hT hm hn hc hpl h4 fun hwf => EvD.segs (Nat.eq_of_beq_eq_true h3) (h hwf)
  · cases hp
end
section
variable (P : Program) (T : Nat → Option (List Value))
theorem evF_tmp (F : Fm) (t : Nat) : evF F (.tmp t) = F t := rfl
theorem evF_const (F : Fm) (v : Value) : evF F (.const v) = .s v := rfl
theorem evF_func (F : Fm) (f : FuncId) : evF F (.func f) = .s (.func (.func f) #[] #[]) := rfl
theorem evF_global (F : Fm) (g : Nat) : evF F (.global g) = .s (.pointer (some ⟨g, 0, none⟩)) := rfl
theorem putF_some (F : Fm) (d : Nat) (v : V) (t : Nat) : putF F (some d) v t = if t = d then v else F t := rfl
theorem putF_none (F : Fm) (v : V) : putF F none v = F := rfl
/-- A row's cells. -/
def rowL : Option Blk → Option (List V)
  | some (.row cs _ _ _) => some cs
  | _ => none
/-- A struct that lies in a row. -/
def aggAt (cs : List V) (off n : Nat) : Option V := bif Nat.beq ((cs.drop off).take n).length n then some (mkAgg ((cs.drop off).take n)) else none
/-- A cell of what was there at first. -/
def cellT (T : Nat → Option (List Value)) (k off : Nat) : Option Value := (T k).bind fun cs => cs[off]?
variable {P T}
theorem load_one {t id off : Nat} {H : Heap} (h : (P.info? t).isSome = true) (hd : (P.underlying t).map isAggD = some false) : loadX P T t (.ptr id off) H = (rowL (find id H)).bind fun cs => cs[off]? := by
  obtain ⟨i, hi⟩ := Option.isSome_iff_exists.1 h
  obtain ⟨d, hd, ha⟩ := Option.map_eq_some_iff.1 hd
  unfold loadX rowAtX
  rw [hi, hd]
  dsimp only
  cases find id H with
  | none => rfl
  | some b => cases b <;> simp [rowL, ha]
theorem load_oneb {t k off : Nat} {H : Heap} (h : (P.info? t).isSome = true) (hd : (P.underlying t).map isAggD = some false) : loadX P T t (.s (.pointer (some ⟨k, off, none⟩))) H = (cellT T k off).map .s := by
  obtain ⟨i, hi⟩ := Option.isSome_iff_exists.1 h
  obtain ⟨d, hd, ha⟩ := Option.map_eq_some_iff.1 hd
  unfold loadX rowAtX cellT
  rw [hi, hd]
  dsimp only
  cases T k with
  | none => rfl
  | some b => simp [ha]
theorem load_agg {t id off n : Nat} {H : Heap} (h : (P.info? t).map (·.size) = some n) (hd : (P.underlying t).map isAggD = some true) : loadX P T t (.ptr id off) H = (rowL (find id H)).bind fun cs => aggAt cs off n := by
  obtain ⟨i, hi, rfl⟩ := Option.map_eq_some_iff.1 h
  obtain ⟨d, hd, ha⟩ := Option.map_eq_some_iff.1 hd
  unfold loadX rowAtX
  rw [hi, hd]
  dsimp only
  cases find id H with
  | none => rfl
  | some b => cases b <;> simp [rowL, ha, aggAt]
theorem load_aggb {t k off n : Nat} {H : Heap} (h : (P.info? t).map (·.size) = some n) (hd : (P.underlying t).map isAggD = some true) : loadX P T t (.s (.pointer (some ⟨k, off, none⟩))) H = (T k).bind fun cs => aggAt (cs.map .s) off n := by
  obtain ⟨i, hi, rfl⟩ := Option.map_eq_some_iff.1 h
  obtain ⟨d, hd, ha⟩ := Option.map_eq_some_iff.1 hd
  unfold loadX rowAtX
  rw [hi, hd]
  dsimp only
  cases T k with
  | none => rfl
  | some b => simp [ha, aggAt]
theorem purely_bind {α β : Type} (f : α → Sem β) : ∀ (e : Sem α), purely P (e.bind f) = (purely P e).bind fun a => purely P (f a)
  | .pure a => rfl
  | .program k => by simp only [Sem.bind, purely]; exact purely_bind f _
  | .mark m k => by simp only [Sem.bind, purely]; exact purely_bind f _
  | .load m a k => rfl
  | .store m a v k => rfl
  | .new o k => rfl
  | .shape r k => rfl
  | .freeze a n k => rfl
  | .frozen a k => rfl
  | .getObj r k => rfl
  | .setObj r o k => rfl
  | .choose q k => rfl
  | .sys c k => rfl
  | .halt x => rfl
theorem purely_bind' {α β : Type} (f : α → Sem β) (e : Sem α) : purely P (e >>= f) = (purely P e).bind fun a => purely P (f a) := purely_bind f e
theorem purely_pure {α : Type} (a : α) : purely P (pure a : Sem α) = some a := rfl
theorem purely_under {t : TypeId} {d : TypeDesc} (h : P.underlying t = some d) : purely P (underlying t) = some d := by
  unfold underlying
  rw [purely_bind']
  show (purely P (match P.underlying t with | some d => pure d | none => stuck "no such type")) = _
  rw [h]
  rfl
theorem purely_sizeOf {t : TypeId} {i : TypeInfo} (h : P.info? t = some i) : purely P (sizeOf t) = some i.size := by
  unfold sizeOf typeInfo
  simp only [purely_bind']
  show ((purely P (match P.info? t with | some d => pure d | none => stuck "no such type")).bind _) = _
  rw [h]
  rfl
theorem indexAddr_base {t k off len c n : Nat} (e : Nat) {i : Int} (h : P.underlying t = some (.slice e)) (hs : (P.info? e).map (·.size) = some n) :
    indexAddrX P t (.s (.slice (some ⟨k, off, none⟩) len c)) (.s (.int .i64 i)) = bif decide (0 ≤ i) && decide (i < (len : Int)) then some (.s (.pointer (some ⟨k, off + i.toNat * n, none⟩)), .no) else none := by
  obtain ⟨ie, hi, rfl⟩ := Option.map_eq_some_iff.1 hs
  unfold indexAddrX pureV
  by_cases hc : 0 ≤ i ∧ i < (len : Int)
  · have hp : purely P (Instr.indexAt t (.slice (some ⟨k, off, none⟩) len c) (.int .i64 i)) = some (.pointer (some ⟨k, off + i.toNat * ie.size, none⟩)) := by
      simp only [Instr.indexAt, asIntOf, purely_bind', purely_pure, purely_under h, Option.bind_some, if_pos hc, purely_sizeOf hi, add_eq]
    simp only [hp, hc.1, hc.2, decide_true, Bool.and_self, cond_true]
  · have hp : purely P (Instr.indexAt t (.slice (some ⟨k, off, none⟩) len c) (.int .i64 i)) = none := by
      simp only [Instr.indexAt, asIntOf, purely_bind', purely_pure, purely_under h, Option.bind_some, if_neg hc, Bool.and_false, Bool.false_eq_true, if_false]
      unfold boundsPanic
      dsimp only
      split <;> rfl
    have hb : (decide (0 ≤ i) && decide (i < (len : Int))) = false := by
      rw [Bool.and_eq_false_iff, decide_eq_false_iff_not, decide_eq_false_iff_not]
      omega
    simp only [hp, hb, cond_false]
/-- append, by the size of the elements. -/
def appendI (T : Nat → Option (List Value)) (elem size bytes : Nat) (n : Nat) (l : List V) (s : V) (S : St) : Option (V × Eff) := match s with
  | .s (.slice none 0 0) => bif Nat.beq n 0 then some (.s (.slice none 0 0), .no) else bif roomOk bytes n then some (.slc S.next 0 n none, .new (.row l elem (some size) .no)) else none
  | .slc id off m (some c) => bif Nat.ble (m + n) c then (match putX id (off + m * size) l S with
      | some f => some (.slc id off (m + n) (some c), f)
      | none => none) else (bif roomOk bytes (m + n) then (match srcX T size s S.heap with
      | some (_, o) => some (.slc S.next 0 (m + n) none, .new (.row (o ++ l) elem (some size) .no))
      | none => none) else none)
  | .slc id 0 m none => match find id S.heap with
    | some (.row cs e (some q) fz) => bif (fz.ok || Nat.beq (m * q) cs.length) && (Nat.beq q size && Nat.blt 0 q && Nat.ble (m * q) cs.length && Nat.beq e elem && roomOk bytes (m + n) && l.all one && Nat.blt id S.next) then some (.slc S.next 0 (m + n) none, .eat id (.row (cs.take (m * q) ++ l) elem (some q) fz)) else none
    | _ => none
  | _ => none
def appendW (T : Nat → Option (List Value)) (elem size bytes : Nat) (s : V) (x : Option (Nat × List V)) (S : St) : Option (V × Eff) := match x with
  | some (n, l) => bif Nat.beq l.length (n * size) then appendI T elem size bytes n l s S else none
  | none => none
theorem append_eq {t u n b : Nat} (e : Nat) {s x : V} {S : St} (h : P.underlying t = some (.slice e)) (hu : (P.underlying u).map isIntD = some false) (hs : (P.info? e).map (·.size) = some n) (hz : ((P.info? e).bind (·.zero)).map (fun z => z.cells.size) = some n) (hb : (P.info? e).map (·.bytes) = some b) :
    appendX P T #[t, u] s x S = appendW T e n b s (srcX T n x S.heap) S := by
  obtain ⟨ie, hi, rfl⟩ := Option.map_eq_some_iff.1 hs
  simp only [hi, Option.bind_some, Option.map_some, Option.some.injEq] at hz hb
  obtain ⟨z, hz1, hz2⟩ := Option.map_eq_some_iff.1 hz
  obtain ⟨d, hu, hd⟩ := Option.map_eq_some_iff.1 hu
  unfold appendX appendHead
  simp only [List.getElem?_toArray, List.getElem?_cons_zero, List.getElem?_cons_succ, h, hu, hi, hz1]
  cases srcX T ie.size x S.heap with
  | none => rfl
  | some p =>
    obtain ⟨m, l⟩ := p
    subst hb
    simp only [appendW, hd, hz2, Nat.beq_refl, Bool.not_false, Bool.true_and]
    cases Nat.beq l.length (m * ie.size) <;> rfl
/-- Where a struct's parts lie. -/
def buildPlaces (P : Program) (t : TypeId) : Option (Array (Nat × Nat)) := match P.underlying t with
  | some (.struct fields) => purely P (fields.mapM fun f => do pure (f.offset, ← sizeOf f.type))
  | _ => none
def buildWith (pl : Array (Nat × Nat)) (z : List V) (ps : List (Nat × V)) : Option V := match fillX (fun i => pl[i]?) z ps with
  | some l => some (mkAgg l)
  | none => none
theorem build_eq {t : TypeId} {pl : Array (Nat × Nat)} {i : TypeInfo} {z : Value} {zs : List V} (hp : buildPlaces P t = some pl) (hi : P.info? t = some i) (hz : i.zero = some z) (hzs : z.cells.toList.map V.s = zs) (ev : Operand → V) (ps : Array (Nat × Operand)) : buildX P ev t ps = buildWith pl zs (ps.toList.map fun p => (p.1, ev p.2)) := by
  unfold buildPlaces at hp
  unfold buildX buildWith
  rw [hi]
  split at hp
  · rename_i fields hd
    simp only [hd, hz, hp, hzs]
    rfl
  · cases hp
def sliceWith (elem size : Nat) (z : List V) (ps : List (Nat × V)) : Option Eff := match fillX (fun i => some (i * size, size)) z ps with
  | some l => some (mkRow elem l)
  | none => none
theorem slice_eq {t e size n : Nat} {i : TypeInfo} {z : Value} {zs : List V} (h : P.underlying t = some (.slice e)) (hi : P.info? e = some i) (hs : i.size = size) (hz : i.zero = some z) (hb : Nat.ble (n * size) 16777216 = true) (hzs : zeros z.cells (n * size) = zs) (ev : Operand → V) (ps : Array (Nat × Operand)) :
    buildSliceX P ev t n ps = sliceWith e size zs (ps.toList.map fun p => (p.1, ev p.2)) := by
  subst hs
  unfold buildSliceX sliceWith
  simp only [h, hi, hz, hb, cond_true, hzs]
  rfl
theorem find_cons (id i : Nat) (b : Blk) (r : Heap) : find id ((i, b) :: r) = if i = id then some b else find id r := by
  by_cases h : i = id
  · rw [if_pos h]; subst h; unfold find; rw [if_pos (Nat.beq_refl i)]
  · rw [if_neg h]; show (if Nat.beq i id = true then some b else find id r) = _; rw [if_neg fun e => h (Nat.eq_of_beq_eq_true e)]
theorem find_nil (id : Nat) : find id [] = none := rfl
theorem upd_cons (id i : Nat) (b c : Blk) (r : Heap) : upd id b ((i, c) :: r) = if i = id then (i, b) :: r else (i, c) :: upd id b r := by
  by_cases h : i = id
  · rw [if_pos h]; subst h; unfold upd; rw [if_pos (Nat.beq_refl i)]
  · rw [if_neg h]; show (if Nat.beq i id = true then (i, b) :: r else (i, c) :: upd id b r) = _; rw [if_neg fun e => h (Nat.eq_of_beq_eq_true e)]
theorem del_cons (id i : Nat) (c : Blk) (r : Heap) : del id ((i, c) :: r) = if i = id then del id r else (i, c) :: del id r := by
  by_cases h : i = id
  · rw [if_pos h]; subst h; show (if Nat.beq i i = true then del i r else (i, c) :: del i r) = _; rw [if_pos (Nat.beq_refl i)]
  · rw [if_neg h]; show (if Nat.beq i id = true then del id r else (i, c) :: del id r) = _; rw [if_neg fun e => h (Nat.eq_of_beq_eq_true e)]
theorem del_nil (id : Nat) : del id [] = [] := rfl
theorem beq_eq (a b : Nat) : Nat.beq a b = decide (a = b) := by
  cases h : Nat.beq a b with
  | true => simp [Nat.eq_of_beq_eq_true h]
  | false =>
    have : a ≠ b := fun e => by subst e; simp at h
    simp [this]
theorem ble_eq (a b : Nat) : Nat.ble a b = decide (a ≤ b) := by
  cases h : Nat.ble a b with
  | true => simp [Nat.le_of_ble_eq_true h]
  | false =>
    have : ¬ a ≤ b := fun e => by rw [Nat.ble_eq_true_of_le e] at h; cases h
    simp [this]
theorem upd_nil (id : Nat) (b : Blk) : upd id b [] = [] := rfl
theorem cv_int (k : IntKind) (n : Int) : cellsV (.s (.int k n)) = [.s (.int k n)] := rfl
theorem cv_bool (b : Bool) : cellsV (.s (.bool b)) = [.s (.bool b)] := rfl
theorem cv_float (k : FloatKind) (n : Nat) : cellsV (.s (.float k n)) = [.s (.float k n)] := rfl
theorem cv_string (b : ByteArray) : cellsV (.s (.string b)) = [.s (.string b)] := rfl
theorem cv_slice (a : Option Addr) (n c : Nat) : cellsV (.s (.slice a n c)) = [.s (.slice a n c)] := rfl
theorem cv_pointer (a : Option Addr) : cellsV (.s (.pointer a)) = [.s (.pointer a)] := rfl
theorem cv_sagg (l : List Value) : cellsV (.s (.agg l.toArray)) = l.map .s := rfl
theorem cv_agg (l : List V) : cellsV (.agg l) = l := rfl
theorem cv_ptr (b o : Nat) : cellsV (.ptr b o) = [.ptr b o] := rfl
theorem cv_slc (b o n : Nat) (c : Option Nat) : cellsV (.slc b o n c) = [.slc b o n c] := rfl
theorem cv_slu (b o n : Nat) : cellsV (.slu b o n) = [.slu b o n] := rfl
theorem cv_map (b : Nat) : cellsV (.map b) = [.map b] := rfl
theorem cv_fn (f : FuncId) (a c : List V) : cellsV (.fn f a c) = [.fn f a c] := rfl
theorem cv_ifc (t : TypeId) (v : V) : cellsV (.ifc t v) = [.ifc t v] := rfl
theorem set_nil (l : List V) : setRange l 0 [] = l := by simp [setRange]
theorem set_zero (a v : V) (l vs : List V) : setRange (a :: l) 0 (v :: vs) = v :: setRange l 0 vs := by simp [setRange]
theorem set_succ (a : V) (l vs : List V) (n : Nat) : setRange (a :: l) (n + 1) vs = a :: setRange l n vs := by simp [setRange, Nat.add_right_comm]
theorem add_le_self (n k : Nat) : (n + (k + 1) ≤ n) = False := by simp
theorem add_lt_self (n k : Nat) : (n + k < n) = False := by simp
theorem run_no (S : St) : Eff.run S .no = S := rfl
theorem run_new (S : St) (b : Blk) : Eff.run S (.new b) = ⟨(S.next, b) :: S.heap, S.next + 1, S.low⟩ := rfl
theorem run_put (S : St) (id : Nat) (b : Blk) : Eff.run S (.put id b) = ⟨upd id b S.heap, S.next, lower id S.low⟩ := rfl
theorem run_eat (S : St) (id : Nat) (b : Blk) : Eff.run S (.eat id b) = ⟨(S.next, b) :: del id S.heap, S.next + 1, lower id S.low⟩ := rfl
theorem srcX_slc (T : Nat → Option (List Value)) (size id off n : Nat) (c : Option Nat) (H : Heap) : srcX T size (.slc id off n c) H = (rowL (find id H)).bind fun cs => bif Nat.beq ((cs.drop off).take (n * size)).length (n * size) then some (n, (cs.drop off).take (n * size)) else none := by
  unfold srcX
  dsimp only
  cases find id H with
  | none => rfl
  | some b => cases b <;> rfl
theorem srcX_base {T : Nat → Option (List Value)} {size k off n c : Nat} {cs : List Value} (h : T k = some cs) (hl : off + n * size ≤ cs.length) (H : Heap) : srcX T size (.s (.slice (some ⟨k, off, none⟩) n c)) H = some (n, ((cs.drop off).take (n * size)).map .s) := by
  unfold srcX
  simp only [h]
  have : ((cs.drop off).take (n * size)).length = n * size := by rw [List.length_take, List.length_drop]; omega
  simp only [this, Nat.beq_refl, cond_true]
  cases hn : Nat.beq n 0 with
  | true => have := Nat.eq_of_beq_eq_true hn; subst this; simp
  | false => rfl
theorem srcX_empty (T : Nat → Option (List Value)) (size : Nat) (A : Option Addr) (c : Nat) (H : Heap) : srcX T size (.s (.slice A 0 c)) H = some (0, []) := rfl
end
section
variable {P : Program} {T : Nat → Option (List Value)} {w0 : Bs}
/-- Blocks may be forgotten. -/
theorem WpF.forget {n : Nat} {c : Code} {F : Fm} {S S2 : St} {Q : Ex → Fm → St → Prop} (hs : ∀ id b, find id S2.heap = some b → find id S.heap = some b) (hn : S2.next = S.next) (hl : S2.low = S.low) (h : WpF P w0 n c F S2 Q) : WpF P w0 n c F S Q :=
  fun g w a hM ht hd hu R hR => h g w a (hM.sub hs) ht hd (by rw [hn]; exact hu) R fun ex F' S' g' a' w' hq m1 m2 hl' => hR ex F' S' g' a' w' hq (by omega) (by omega) ⟨hl'.m, by rw [← hn]; exact hl'.fr, hl'.fm, hl'.df⟩
theorem Ok.forget {f : FuncId} {args : List V} {S S2 : St} {Q : V → St → Prop} (hs : ∀ id b, find id S2.heap = some b → find id S.heap = some b) (hn : S2.next = S.next) (hl : S2.low = S.low) (h : Ok P w0 f args S2 Q) : Ok P w0 f args S Q :=
  fun g w us hM hr hu => (h g w us (hM.sub hs) hr (by rw [hn]; exact hu)).mono fun u w' ⟨v, S', h1, h2, h3, g', e1, e2, e3⟩ => ⟨v, S', h1, by omega, by omega, g', e1, by rw [← hn]; exact e2, e3⟩
end
end Go.Proofs.YtmpmbnmldmpmiaaGreatDoor.Sim
