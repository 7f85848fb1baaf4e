/- A machine over closed values: rows in a drawn order whose calls stand one behind the other; what is known of memory grows. -/
import Derived.Test.YtmpmbnmldmpmiaaGreatDoorSimU
set_option linter.unusedVariables false
set_option linter.unusedSimpArgs false
namespace Go.Proofs.YtmpmbnmldmpmiaaGreatDoor.Sim
open Go Go.RowKit
def isCallO (o : Oper) : Bool := match o.op with
  | .call ⟨.value _, _, _⟩ => true
  | _ => false
section
variable {P : Program} {T : Nat → Option (List Value)}
theorem wantF_congr {ops : Array Oper} {F F' : Fm} {o : Oper} (h : ∀ t ∈ o.looksAt ops, F t = F' t) : wantF ops F o = wantF ops F' o := by
  unfold wantF
  cases hg : o.guard with
  | none => rfl
  | some p =>
    obtain ⟨j, want⟩ := p
    simp only
    cases hd : (ops[j]?).bind (·.dst) with
    | none => rfl
    | some t =>
      simp only
      rw [h t (by unfold Oper.looksAt; rw [hg]; simp [hd])]
theorem evF_congr {ops : Array Oper} {F F' : Fm} {o : Oper} (h : ∀ t ∈ o.looksAt ops, F t = F' t) : ∀ x ∈ o.op.operands, evF F x = evF F' x := fun x hx => by
  cases x with
  | tmp t => exact h t (List.mem_append_left _ (List.mem_filterMap.2 ⟨.tmp t, by simpa using hx, rfl⟩))
  | const v => rfl
  | global g => rfl
  | func f => rfl
theorem stepF_congr {ops : Array Oper} {F F' : Fm} {o : Oper} (S : St) (h : ∀ t ∈ o.looksAt ops, F t = F' t) : stepF P T noCall ops F o S = stepF P T noCall ops F' o S := by
  unfold stepF
  rw [wantF_congr h]
  have hop := opX_congr P T o S (evF_congr h)
  obtain ⟨dst, op, type, pos, after, guard⟩ := o
  cases op with
  | call c =>
    obtain ⟨callee, args, ats⟩ := c
    cases callee with
    | value f =>
      have g1 : evF F f = evF F' f := evF_congr h f (by simp [Op.operands, Call.operands])
      simp only [g1, noCall]
      all_goals (cases calleeX (evF F' f) <;> rfl)
    | builtin b => simp only [hop]; try rfl
    | invoke r m => simp only [hop]; try rfl
  | _ => simp only [hop]; try rfl
/-- What a call comes to, its arguments given. -/
def CallB (P : Program) (b : Bs) (S : St) (fid : FuncId) (as : List V) (QQ : Bs → V → Prop) : Prop :=
  ∀ g w us, M b g S.heap w → Up g S.next → V.rels g.ν as us → CallSem P fid us.toArray w fun u w' => Next b g w' u fun b' v S' => S' = S ∧ QQ b' v
/-- A row in an order of one's own: operations without effect, and calls. -/
def EvO (P : Program) (n : Nat) (ops : Array Oper) : List Oper → Bs → Fm → St → (Bs → Fm → Prop) → Prop
  | [], b, F, S, K => K b F
  | o :: r, b, F, S, K => match wantF ops F o with
    | some true => match o.op with
      | .call ⟨.value f, args, ats⟩ => ∃ fid first captured QQ, calleeX (evF F f) = some (fid, first, captured) ∧ CallB P b S fid (first ++ args.toList.map (evF F) ++ captured) QQ ∧ ∀ b' v, QQ b' v → EvO P n ops r b' (putF F o.dst v) S K
      | _ => match opX P (whole b.v) (evF F) o S with
        | some (v, .no) => EvO P n ops r b (putF F o.dst v) S K
        | _ => False
    | some false => EvO P n ops r b (putF F o.dst undefV) S K
    | none => False
theorem CallB.of_gv {b : Bs} {S : St} {fid : FuncId} {us : List Value} {R : Value → World → Prop} (h : Gv P fid us b.v R) : CallB P b S fid (us.map .s) fun b' v => ∃ x, v = .s x ∧ b'.w = b.w ∧ Known b.v b'.v ∧ R x b'.v := by
  intro g w us' hM hu hr
  rw [rels_ground hr]
  refine (h w hM.base.fast hM.base.top).mono fun u w' ⟨q1, v', q2, q3, q4, q5, q6⟩ => ?_
  have := LeftB.after (n := 0) (F := argF []) (a := { tmps := #[], defers := [] }) ⟨hM, ⟨rfl, fun t ht => absurd ht (Nat.not_lt_zero _)⟩, rfl, hu⟩ q1 q2 q3 q4 q5
  exact ⟨⟨b.w, v'⟩, g, S, .s u, this.1, this.2, Ext.refl _, hu, rel_s, rfl, u, rfl, rfl, q2.1, q6⟩
theorem CallB.of_ok {b : Bs} {S : St} {fid : FuncId} {as : List V} {Q : V → Prop} (h : Ok P b fid as S fun v S' => Q v ∧ S' = S) : CallB P b S fid as fun b' v => b' = b ∧ Q v := by
  intro g w us' hM hu hr
  refine (h g w us' hM hr hu).mono ?_
  rintro u w' ⟨v, S', ⟨hq, rfl⟩, m1, m2, g', e1, e2, e3⟩
  exact ⟨b, g', S', v, BsLe.refl b, e1, e2.ext, hu.fr e2 m1, e3, rfl, rfl, hq⟩
/-- What is known may be less. -/
theorem M.less {b b' : Bs} {g : Gh} {H : Heap} {w : World} (h : M b' g H w) (hb : BsLe b b') (ht : b.v.heap.size ≤ w.heap.size) : M b g H w :=
  ⟨h.blk, fun k id hk => by
    obtain ⟨g1, g2, g3⟩ := h.mine k id hk
    exact ⟨⟨by rw [← hb.w]; exact g1.new, fun f => g1.not (hb.v.fast f)⟩, g2, g3⟩, ⟨by have := h.base.bel; rw [hb.w] at this; exact this, hb.v.trans h.base.fast, ht⟩⟩
/-- .. and more again behind a step that turned nothing else. -/
theorem M.again {b b' : Bs} {g g' : Gh} {H H' : Heap} {w w' : World} {n lo hi : Nat} (h : M b' g H w) (hb : BsLe b b') (h' : M b g' H' w') (hf : Fr n lo hi g w g' w') : M b' g' H' w' := by
  have hno : ∀ k, Fast b'.v k → g.own k = none := fun k f => by
    cases ho : g.own k with
    | none => rfl
    | some id => exact absurd f (h.mine k id ho).1.not
  have hlt : ∀ k, Fast b'.v k → k < w.heap.size := fun k ⟨cs, e, fr, h1, h2⟩ => (Array.getElem?_eq_some_iff.1 (h.base.fast _ _ _ _ h1 h2)).1
  have hold : ∀ k, Fast b'.v k → w'.heap[k]? = w.heap[k]? ∧ g'.own k = none := fun k f => by
    have h1 := hno k f
    obtain ⟨h2, h3⟩ := hf.old k (hlt k f) (fun id hid => by rw [h1] at hid; cases hid)
    exact ⟨h2, by rw [h3, h1]⟩
  refine ⟨h'.blk, fun k id hk => ?_, ⟨by have := h'.base.bel; rw [← hb.w] at this; exact this, fun k cs e fr h1 h2 => ?_, Nat.le_trans h.base.top hf.size⟩⟩
  · obtain ⟨g1, g2, g3⟩ := h'.mine k id hk
    exact ⟨⟨by rw [hb.w]; exact g1.new, fun f => by have := (hold k f).2; rw [hk] at this; cases this⟩, g2, g3⟩
  · rw [(hold k ⟨cs, e, fr, h1, h2⟩).1]
    exact h.base.fast k cs e fr h1 h2
def opAt (ops : Array Oper) (i : Nat) : Oper := (ops[i]?).getD ⟨none, .move (.const undef), 0, "", #[], none⟩
def ap (ops : Array Oper) (vals : Nat → V) (F0 : Fm) (l : List Nat) : Fm := l.foldl (fun F i => putF F (opAt ops i).dst (vals i)) F0
theorem ap_snoc {ops : Array Oper} {vals : Nat → V} {F0 : Fm} {l : List Nat} {i : Nat} : ap ops vals F0 (l ++ [i]) = putF (ap ops vals F0 l) (opAt ops i).dst (vals i) := by
  unfold ap
  rw [List.foldl_append]
  rfl
theorem putF_ne {F : Fm} {dst : Option Tmp} {v : V} {t : Nat} (h : dst ≠ some t) : putF F dst v t = F t := by
  cases dst with
  | none => rfl
  | some d => simp only [putF]; rw [if_neg (fun e => h (by rw [e]))]
theorem ap_vals {ops : Array Oper} {vals vals' : Nat → V} {F0 : Fm} : ∀ {l : List Nat}, (∀ i ∈ l, vals i = vals' i) → ap ops vals F0 l = ap ops vals' F0 l := by
  intro l
  induction l generalizing F0 with
  | nil => intro _; rfl
  | cons i l ih =>
    intro h
    show ap ops vals (putF F0 (opAt ops i).dst (vals i)) l = ap ops vals' (putF F0 (opAt ops i).dst (vals' i)) l
    rw [h i List.mem_cons_self]
    exact ih fun j hj => h j (List.mem_cons_of_mem _ hj)
theorem ap_skip {ops : Array Oper} {vals : Nat → V} {t : Nat} : ∀ {l : List Nat} {F0 : Fm}, (∀ j ∈ l, (opAt ops j).dst ≠ some t) → ap ops vals F0 l t = F0 t
  | [], F0, h => rfl
  | j :: l, F0, h => by
    show ap ops vals (putF F0 (opAt ops j).dst (vals j)) l t = _
    rw [ap_skip fun i hi => h i (List.mem_cons_of_mem _ hi), putF_ne (h j List.mem_cons_self)]
theorem ap_append {ops : Array Oper} {vals : Nat → V} {F0 : Fm} {l m : List Nat} : ap ops vals F0 (l ++ m) = ap ops vals (ap ops vals F0 l) m := by
  unfold ap
  rw [List.foldl_append]
theorem ap_start {ops : Array Oper} {vals : Nat → V} {t : Nat} : ∀ {l : List Nat} {F F' : Fm}, F t = F' t → ap ops vals F l t = ap ops vals F' l t
  | [], F, F', h => h
  | j :: l, F, F', h => by
    refine ap_start (l := l) ?_
    show putF F (opAt ops j).dst (vals j) t = putF F' (opAt ops j).dst (vals j) t
    by_cases e : (opAt ops j).dst = some t
    · rw [e]; simp [putF]
    · rw [putF_ne e, putF_ne e]; exact h
theorem ap_filter {ops : Array Oper} {vals : Nat → V} {t : Nat} {d : Nat → Bool} : ∀ {l : List Nat} {F0 : Fm}, (∀ j ∈ l, (opAt ops j).dst = some t → d j = true) → ap ops vals F0 (l.filter d) t = ap ops vals F0 l t
  | [], F0, h => rfl
  | j :: l, F0, h => by
    have ih := @ap_filter ops vals t d l
    cases hd : d j with
    | true => simp only [List.filter_cons, hd, if_true]; exact ih fun i hi => h i (List.mem_cons_of_mem _ hi)
    | false =>
      simp only [List.filter_cons, hd, Bool.false_eq_true, if_false]
      rw [ih fun i hi => h i (List.mem_cons_of_mem _ hi)]
      refine (ap_start (l := l) ?_).symm
      exact putF_ne fun e => by have := h j List.mem_cons_self e; rw [hd] at this; cases this
/-- What is checked of an order. -/
structure Ord (ops : Array Oper) (ancs : List Nat) (ord : List Nat) : Prop where
  all : ∀ i, i < ops.size → i ∈ ord
  lt : ∀ i ∈ ord, i < ops.size
  nd : ord.Nodup
  two : ∀ p i s, ord = p ++ i :: s → ∀ j ∈ s, ((ancOf ancs j).testBit i = true ∨ ((opAt ops i).apart ops (opAt ops j) = true ∧ isCallO (opAt ops i) = false)) ∧ (ancOf ancs i).testBit j = false
def chkOrd (ops : Array Oper) (ancs : List Nat) : List Nat → Bool
  | [] => true
  | i :: s => Nat.blt i ops.size && !(s.contains i) && s.all (fun j => (bit (ancOf ancs j) i || ((opAt ops i).apart ops (opAt ops j) && !(isCallO (opAt ops i)))) && !(bit (ancOf ancs i) j)) && chkOrd ops ancs s
theorem chkOrd_spec {ops : Array Oper} {ancs : List Nat} : ∀ {ord : List Nat}, chkOrd ops ancs ord = true → (∀ i ∈ ord, i < ops.size) ∧ ord.Nodup ∧ ∀ p i s, ord = p ++ i :: s → ∀ j ∈ s, ((ancOf ancs j).testBit i = true ∨ ((opAt ops i).apart ops (opAt ops j) = true ∧ isCallO (opAt ops i) = false)) ∧ (ancOf ancs i).testBit j = false
  | [], _ => ⟨by simp, by simp, fun p i s h => by simp at h⟩
  | i :: s, h => by
    simp only [chkOrd, Bool.and_eq_true] at h
    obtain ⟨⟨⟨h1, h2⟩, h3⟩, h4⟩ := h
    obtain ⟨q1, q2, q3⟩ := chkOrd_spec h4
    rw [blt_dec] at h1
    refine ⟨fun j hj => ?_, List.nodup_cons.2 ⟨by simpa using h2, q2⟩, fun p j r he k hk => ?_⟩
    · rcases List.mem_cons.1 hj with rfl | hj
      · exact of_decide_eq_true h1
      · exact q1 j hj
    · cases p with
      | nil =>
        simp only [List.nil_append, List.cons.injEq] at he
        obtain ⟨rfl, rfl⟩ := he
        have := List.all_eq_true.1 h3 k hk
        simp only [Bool.and_eq_true, Bool.or_eq_true, Bool.not_eq_true'] at this
        exact this
      | cons q p =>
        simp only [List.cons_append, List.cons.injEq] at he
        exact q3 p j r he.2 k hk
theorem Ord.of {ops : Array Oper} {ancs : List Nat} {ord : List Nat} (h : chkOrd ops ancs ord = true) (hl : (List.range ops.size).all (fun i => ord.contains i) = true) : Ord ops ancs ord := by
  obtain ⟨h1, h2, h3⟩ := chkOrd_spec h
  exact ⟨fun i hi => by simpa using List.all_eq_true.1 hl i (List.mem_range.2 hi), h1, h2, h3⟩
theorem Oper.isCall_no {o : Oper} (h : isCallO o = false) : ∀ f args ats, o.op ≠ .call ⟨.value f, args, ats⟩ := fun f args ats e => by
  unfold isCallO at h
  rw [e] at h
  cases h
theorem EvO.pure {n : Nat} {ops : Array Oper} {o : Oper} {r : List Oper} {b : Bs} {F : Fm} {S : St} {K : Bs → Fm → Prop} (hc : isCallO o = false ∨ wantF ops F o = some false) (h : EvO P n ops (o :: r) b F S K) : ∃ v, stepF P (whole b.v) noCall ops F o S = some (v, S) ∧ EvO P n ops r b (putF F o.dst v) S K := by
  simp only [EvO] at h
  unfold stepF
  split at h
  · rename_i hw
    rw [hw]
    simp only
    rcases hc with hc | hc
    rotate_left
    · rw [hw] at hc; cases hc
    have hno := Oper.isCall_no hc
    split at h
    · rename_i f args ats hop
      exact absurd hop (hno f args ats)
    · split at h
      · rename_i v hop
        refine ⟨v, ?_, h⟩
        obtain ⟨dst, op, ty, pos, aft, gd⟩ := o
        simp only at hno hop ⊢
        cases op with
        | call c =>
          obtain ⟨callee, args, ats⟩ := c
          cases callee with
          | value f => exact absurd rfl (hno f args ats)
          | builtin b => simp only [hop]; rfl
          | invoke r m => simp only [hop]; rfl
        | _ => simp only [hop]; rfl
      · exact h.elim
  · rename_i hw
    rw [hw]
    exact ⟨_, rfl, h⟩
  · exact h.elim
/-- What holds within a row in a drawn order. -/
structure InvO (P : Program) (n : Nat) (ops : Array Oper) (ancs ord : List Nat) (F0 : Fm) (S : St) (K : Bs → Fm → Prop) (b0 : Bs) (L : Array Bool) (g : Gh) (a : Act) (w : World) (pre rest : List Nat) (b : Bs) (vals : Nat → V) : Prop where
  sz : L.size = ops.size
  cl : Closed ops ancs L
  cut : ord = pre ++ rest
  nrest : ∀ i ∈ rest, L.getD i false = false
  calls : ∀ i ∈ pre, isCallO (opAt ops i) = true → L.getD i false = true
  ev : EvO P n ops (rest.map (opAt ops)) b (ap ops vals F0 pre) S K
  le : BsLe b0 b
  m : M b g S.heap w
  up : Up g S.next
  df : a.defers = []
  fm : FmOk g.ν n (ap ops vals F0 (pre.filter fun i => L.getD i false)) a
  recs : ∀ p i s, pre = p ++ i :: s → L.getD i false = false → ∃ bi, BsLe bi b ∧ stepF P (whole bi.v) noCall ops (ap ops vals F0 p) (opAt ops i) S = some (vals i, S)
def Headed (ops : Array Oper) (rest : List Nat) : Prop := rest = [] ∨ ∃ c r, rest = c :: r ∧ isCallO (opAt ops c) = true
theorem InvO.advance {n : Nat} {ops : Array Oper} {ancs ord : List Nat} {F0 : Fm} {S : St} {K : Bs → Fm → Prop} {b0 : Bs} {L : Array Bool} {g : Gh} {a : Act} {w : World} (hnd : ord.Nodup) : ∀ {rest pre : List Nat} {b : Bs} {vals : Nat → V}, InvO P n ops ancs ord F0 S K b0 L g a w pre rest b vals → ∃ pre' rest' vals', InvO P n ops ancs ord F0 S K b0 L g a w pre' rest' b vals' ∧ Headed ops rest'
  | [], pre, b, vals, h => ⟨pre, [], vals, h, .inl rfl⟩
  | i :: r, pre, b, vals, h => by
    cases hc : isCallO (opAt ops i) with
    | true => exact ⟨pre, i :: r, vals, h, .inr ⟨i, r, rfl, hc⟩⟩
    | false =>
      have hev := h.ev
      rw [List.map_cons] at hev
      obtain ⟨v, h1, h2⟩ := EvO.pure (.inl hc) hev
      have hord := h.cut
      have hni : i ∉ pre := fun hi => by
        rw [hord] at hnd
        exact (List.nodup_append.1 hnd).2.2 i hi i List.mem_cons_self rfl
      have hv : ∀ l : List Nat, (∀ j ∈ l, j ∈ pre) → ap ops (fun j => if j = i then v else vals j) F0 l = ap ops vals F0 l := fun l hl => ap_vals fun j hj => by
        have : j ≠ i := fun e => hni (e ▸ hl j hj)
        simp only [if_neg this]
      refine InvO.advance hnd (rest := r) (pre := pre ++ [i]) (b := b) (vals := fun j => if j = i then v else vals j) ⟨h.sz, h.cl, by rw [hord]; simp, fun j hj => h.nrest j (List.mem_cons_of_mem _ hj), fun j hj hjc => ?_, ?_, h.le, h.m, h.up, h.df, ?_, fun p j s he hL => ?_⟩
      · rcases List.mem_append.1 hj with hj | hj
        · exact h.calls j hj hjc
        · rw [List.mem_singleton.1 hj, hc] at hjc
          cases hjc
      · rw [ap_snoc, hv pre fun _ h => h]
        simp only [if_true]
        exact h2
      · have hLi := h.nrest i List.mem_cons_self
        rw [List.filter_append, List.filter_cons, hLi, List.filter_nil]
        simp only [Bool.false_eq_true, if_false, List.append_nil]
        rw [hv _ fun j hj => (List.mem_filter.1 hj).1]
        exact h.fm
      · rcases List.eq_nil_or_concat s with rfl | ⟨s', x, rfl⟩
        · have he' := List.append_inj' he (by simp)
          obtain ⟨rfl, he2⟩ := he'
          simp only [List.cons.injEq, and_true] at he2
          subst he2
          refine ⟨b, BsLe.refl b, ?_⟩
          rw [hv _ fun _ h => h]
          simp only [if_true]
          exact h1
        · rw [List.concat_eq_append, ← List.cons_append, ← List.append_assoc] at he
          obtain ⟨rfl, he2⟩ := List.append_inj' he (by simp)
          obtain ⟨bi, q1, q2⟩ := h.recs p j s' rfl hL
          refine ⟨bi, q1, ?_⟩
          have hji : j ≠ i := fun e => hni (by rw [← e]; simp)
          rw [hv p fun x hx => List.mem_append_left _ hx]
          simp only [if_neg hji]
          exact q2
theorem opAt_eq {ops : Array Oper} {i : Nat} {o : Oper} (h : ops[i]? = some o) : opAt ops i = o := by
  unfold opAt
  rw [h]
  rfl
/-- What an operation looks at is as it was in the order of one's own. -/
theorem InvO.looks {n : Nat} {ops : Array Oper} {ancs ord : List Nat} {F0 : Fm} {S : St} {K : Bs → Fm → Prop} {b0 : Bs} {L : Array Bool} {g : Gh} {a : Act} {w : World} {pre rest : List Nat} {b : Bs} {vals : Nat → V} (h : InvO P n ops ancs ord F0 S K b0 L g a w pre rest b vals) (ho : Ord ops ancs ord) (hp : Plan ops ancs) {i : Nat} {o : Oper} (hoi : ops[i]? = some o) (hr : i ∈ Region.ready .any ops L) {p q s : List Nat} (hord : ord = p ++ i :: s) (hpre : pre = p ++ q) (hq : ∀ j ∈ q, L.getD j false = true → j ∈ s) :
    ∀ t ∈ o.looksAt ops, ap ops vals F0 p t = ap ops vals F0 (pre.filter fun i => L.getD i false) t := by
  intro t ht
  obtain ⟨hLi, _, _, _⟩ := mem_ready.1 hr
  have hLi := getD_false hLi
  rw [hpre, List.filter_append, ap_append]
  rw [ap_skip (l := q.filter _)]
  · refine (ap_filter fun j hj hd => ?_).symm
    obtain ⟨p1, p2, rfl⟩ := List.append_of_mem hj
    rcases (ho.two p1 j (p2 ++ i :: s) (by rw [hord]; simp) i (by simp)).1 with h1 | ⟨h1, _⟩
    · exact anc_ready hp h.cl hoi hr j h1
    · rw [opAt_eq hoi] at h1
      exact absurd ht ((Oper.apart_spec h1).1 t hd)
  · intro j hj hd
    obtain ⟨hj1, hj2⟩ := List.mem_filter.1 hj
    have hjs := hq j hj1 hj2
    rcases (ho.two p i s hord j hjs).1 with h1 | ⟨h1, _⟩
    · have hjlt := ho.lt j (by rw [hord]; simp [hjs])
      have := h.cl j _ (Array.getElem?_eq_getElem hjlt) hj2 i h1
      rw [hLi] at this
      cases this
    · rw [opAt_eq hoi] at h1
      exact absurd ht ((Oper.apart_spec h1).2.2 t hd)
theorem getD_set_eq {L : Array Bool} {i j : Nat} (hi : i < L.size) : (L.setIfInBounds i true).getD j false = (L.getD j false || decide (j = i)) := by
  by_cases e : j = i
  · subst e
    simp [hi]
  · rw [getD_set_ne false (Ne.symm e)]
    simp [e]
theorem FmOk.congr {ν : Val} {n : Nat} {F F' : Fm} {a : Act} (h : FmOk ν n F a) (k : ∀ t, F t = F' t) : FmOk ν n F' a := by
  have : F = F' := funext k
  rw [← this]
  exact h
theorem Closed.set {ops : Array Oper} {ancs : List Nat} {L : Array Bool} (h : Closed ops ancs L) (hp : Plan ops ancs) {i : Nat} {o : Oper} (hoi : ops[i]? = some o) (hr : i ∈ Region.ready .any ops L) (hi : i < L.size) : Closed ops ancs (L.setIfInBounds i true) := by
  intro j p hj hL k hk
  rw [getD_set_eq hi, Bool.or_eq_true] at hL ⊢
  left
  rcases hL with hL | hL
  · exact h j p hj hL k hk
  · have := of_decide_eq_true hL
    subst this
    exact anc_ready hp h hoi hr k hk
/-- One operation, wherever it comes. -/
theorem InvO.step {n : Nat} (hn : n ≤ 2000) {ops : Array Oper} (hin : ops.toList.all (inOp n ops) = true) {ancs ord : List Nat} {F0 : Fm} {S : St} {K : Bs → Fm → Prop} {b0 : Bs} {L : Array Bool} {g : Gh} {a : Act} {w : World} {pre rest : List Nat} {b : Bs} {vals : Nat → V} (h : InvO P n ops ancs ord F0 S K b0 L g a w pre rest b vals) (hh : Headed ops rest) (ho : Ord ops ancs ord) (hp : Plan ops ancs) {i : Nat} (hr : i ∈ Region.ready .any ops L) {Kw : Act → World → Prop} {Q : Exit → Act → World → Prop}
    (hK : ∀ g' a' w' pre' rest' b' vals', InvO P n ops ancs ord F0 S K b0 (L.setIfInBounds i true) g' a' w' pre' rest' b' vals' → Headed ops rest' → Kw a' w') : wpOp P ops Q i Kw a w := by
  obtain ⟨hLi0, o, hoi, _⟩ := mem_ready.1 hr
  have hLi := getD_false hLi0
  have hisz := (Array.getElem?_eq_some_iff.1 hoi).1
  have hiL : i < L.size := by rw [h.sz]; exact hisz
  have hio : inOp n ops o = true := List.all_eq_true.1 hin o (by simpa using Array.mem_of_getElem? hoi)
  have hopi := opAt_eq hoi
  have hnd := ho.nd
  rw [h.cut] at hnd
  have hset : ∀ j, (L.setIfInBounds i true).getD j false = (L.getD j false || decide (j = i)) := fun j => getD_set_eq hiL
  have hcl' := h.cl.set hp hoi hr hiL
  have hsz' : (L.setIfInBounds i true).size = ops.size := by rw [← h.sz]; simp
  -- an operation done by what is known at bi
  have small : ∀ (bi : Bs) (F : Fm) (v : V), BsLe bi b → stepF P (whole bi.v) noCall ops F o S = some (v, S) → (∀ t ∈ o.looksAt ops, F t = ap ops vals F0 (pre.filter fun i => L.getD i false) t) →
      (∀ g' u w', M b g' S.heap w' → Fr S.next S.low S.next g w g' w' → V.rel g'.ν v u → FmOk g'.ν n (putF (ap ops vals F0 (pre.filter fun i => L.getD i false)) o.dst v) (a.put o.dst u) → Kw (a.put o.dst u) w') → wpOp P ops Q i Kw a w := by
    intro bi F v hbi hst hlook hgo
    rw [stepF_congr S hlook] at hst
    have hag := tmOf_agree hn (ap ops vals F0 (pre.filter fun i => L.getD i false))
    have hx : stepX P (whole bi.v) noCall ops (tmOf n (ap ops vals F0 (pre.filter fun i => L.getD i false))) o S = some (v, S) := (stepX_eq P _ hag hio).trans hst
    refine wpOp_step hoi fun K' hK' => ?_
    refine stepX_good P (whole bi.v) (whole_tab bi) noCall_ok hx (h.m.less hbi (Nat.le_trans hbi.sz h.m.base.top)) (hag.ok.2 h.fm) (h.up.free _) ?_
    rintro u w' ⟨g', e1, e2, e3⟩
    exact hK' _ _ (hgo g' u w' (h.m.again hbi e1 e2) e2 e3 (hag.put.ok.1 (putT_rels ((hag.ok.2 h.fm).mono e2.ext) o.dst e3)))
  have hmem : i ∈ pre ++ rest := by rw [← h.cut]; exact ho.all i hisz
  rcases List.mem_append.1 hmem with hi | hi
  · obtain ⟨p, s', rfl⟩ := List.append_of_mem hi
    obtain ⟨bi, hbi, hst⟩ := h.recs p i s' rfl hLi
    rw [hopi] at hst
    have hord : ord = p ++ i :: (s' ++ rest) := by rw [h.cut]; simp
    have hlook := h.looks ho hp hoi hr hord rfl (fun j hj hL => by
      rcases List.mem_cons.1 hj with rfl | hj
      · rw [hLi] at hL; cases hL
      · exact List.mem_append_left _ hj)
    have hip : i ∉ p := fun hx => by
      rw [List.append_assoc] at hnd
      exact (List.nodup_append.1 hnd).2.2 i hx i (by simp) rfl
    have his : i ∉ s' ++ rest := fun hx => by
      rw [List.append_assoc] at hnd
      have := (List.nodup_append.1 hnd).2.1
      rw [List.cons_append] at this
      exact (List.nodup_cons.1 this).1 hx
    refine small bi _ (vals i) hbi hst hlook fun g' u w' hm hf hrel hfm => ?_
    refine hK g' _ w' (p ++ i :: s') rest b vals ⟨hsz', hcl', h.cut, fun j hj => ?_, fun j hj hjc => ?_, h.ev, h.le, hm, h.up.fr hf (Nat.le_refl _), by rw [put_defers]; exact h.df, ?_, fun p2 j s2 he hL => ?_⟩ hh
    · rw [hset, h.nrest j hj]
      have : j ≠ i := fun e => his (by rw [← e]; exact List.mem_append_right _ hj)
      simp [this]
    · rw [hset, h.calls j hj hjc]
      rfl
    · refine hfm.congr fun t => ?_
      have f1 : (p.filter fun j => (L.setIfInBounds i true).getD j false) = p.filter fun j => L.getD j false := List.filter_congr fun j hj => by
        have : j ≠ i := fun e => hip (e ▸ hj)
        rw [hset]; simp [this]
      have f2 : (s'.filter fun j => (L.setIfInBounds i true).getD j false) = s'.filter fun j => L.getD j false := List.filter_congr fun j hj => by
        have : j ≠ i := fun e => his (by rw [← e]; exact List.mem_append_left _ hj)
        rw [hset]; simp [this]
      have f3 : (L.setIfInBounds i true).getD i false = true := by rw [hset]; simp
      rw [List.filter_append, List.filter_append, List.filter_cons, List.filter_cons, f1, f2, hLi, f3]
      simp only [Bool.false_eq_true, if_false, if_true]
      rw [ap_append, ap_append]
      show putF _ o.dst (vals i) t = ap ops vals (putF (ap ops vals F0 (p.filter fun j => L.getD j false)) (opAt ops i).dst (vals i)) (s'.filter fun j => L.getD j false) t
      rw [hopi]
      by_cases hd : o.dst = some t
      · rw [ap_skip]
        · rw [hd]; simp [putF]
        · intro j hj hdj
          obtain ⟨hj1, hj2⟩ := List.mem_filter.1 hj
          rcases (ho.two p i (s' ++ rest) hord j (List.mem_append_left _ hj1)).1 with h1 | ⟨h1, _⟩
          · have hjlt := ho.lt j (by rw [hord]; simp [hj1])
            have := h.cl j _ (Array.getElem?_eq_getElem hjlt) hj2 i h1
            rw [hLi] at this
            cases this
          · rw [hopi] at h1
            exact (Oper.apart_spec h1).2.1 t hd hdj
      · rw [putF_ne hd]
        exact ap_start (putF_ne hd).symm
    · have hL' : L.getD j false = false := by
        rw [hset, Bool.or_eq_false_iff] at hL
        exact hL.1
      exact h.recs p2 j s2 he hL'
  · -- the next call
    obtain ⟨c, r, rfl, hc⟩ : ∃ c r, rest = c :: r ∧ isCallO (opAt ops c) = true := by
      rcases hh with rfl | hh
      · cases hi
      · exact hh
    have hic : i = c := by
      rcases List.mem_cons.1 hi with rfl | hir
      · rfl
      · exfalso
        rcases (ho.two pre c r h.cut i hir).1 with h1 | ⟨_, h1⟩
        · have := anc_ready hp h.cl hoi hr c h1
          rw [h.nrest c List.mem_cons_self] at this
          cases this
        · rw [hc] at h1; cases h1
    subst hic
    have hord : ord = pre ++ i :: r := h.cut
    have hlook := h.looks ho hp hoi hr hord (q := []) (by simp) (fun j hj => by cases hj)
    have hip : i ∉ pre := fun hx => (List.nodup_append.1 hnd).2.2 i hx i (by simp) rfl
    have hir : i ∉ r := (List.nodup_cons.1 (List.nodup_append.1 hnd).2.1).1
    have hev := h.ev
    rw [List.map_cons, hopi] at hev
    -- behind it
    have next : ∀ b' g' u w' v, BsLe b b' → M b' g' S.heap w' → Ext g.ν g'.ν → Up g' S.next → V.rel g'.ν v u → FmOk g'.ν n (putF (ap ops vals F0 (pre.filter fun i => L.getD i false)) o.dst v) (a.put o.dst u) → EvO P n ops (r.map (opAt ops)) b' (putF (ap ops vals F0 pre) o.dst v) S K → Kw (a.put o.dst u) w' := by
      intro b' g' u w' v hb hm hx hu hrel hfm hev'
      have hv : ∀ l : List Nat, (∀ j ∈ l, j ∈ pre) → ap ops (fun j => if j = i then v else vals j) F0 l = ap ops vals F0 l := fun l hl => ap_vals fun j hj => by
        have : j ≠ i := fun e => hip (e ▸ hl j hj)
        simp only [if_neg this]
      have hinv : InvO P n ops ancs ord F0 S K b0 (L.setIfInBounds i true) g' (a.put o.dst u) w' (pre ++ [i]) r b' (fun j => if j = i then v else vals j) := by
        refine ⟨hsz', hcl', by rw [h.cut]; simp, fun j hj => ?_, fun j hj hjc => ?_, ?_, h.le.trans hb, hm, hu, by rw [put_defers]; exact h.df, ?_, fun p j s he hL => ?_⟩
        · rw [hset, h.nrest j (List.mem_cons_of_mem _ hj)]
          have : j ≠ i := fun e => hir (e ▸ hj)
          simp [this]
        · rw [hset]
          rcases List.mem_append.1 hj with hj | hj
          · rw [h.calls j hj hjc]; rfl
          · rw [List.mem_singleton.1 hj]; simp
        · rw [ap_snoc, hv pre fun _ h => h, hopi]
          simp only [if_true]
          exact hev'
        · have f1 : (pre.filter fun j => (L.setIfInBounds i true).getD j false) = pre.filter fun j => L.getD j false := List.filter_congr fun j hj => by
            have : j ≠ i := fun e => hip (e ▸ hj)
            rw [hset]; simp [this]
          have f3 : (L.setIfInBounds i true).getD i false = true := by rw [hset]; simp
          rw [List.filter_append, List.filter_cons, f1, f3, List.filter_nil]
          simp only [if_true]
          rw [ap_snoc, hv _ fun j hj => (List.mem_filter.1 hj).1, hopi]
          simp only [if_true]
          exact hfm
        · rcases List.eq_nil_or_concat s with rfl | ⟨s', x, rfl⟩
          · obtain ⟨rfl, he2⟩ := List.append_inj' he (by simp)
            simp only [List.cons.injEq, and_true] at he2
            subst he2
            rw [hset] at hL
            simp at hL
          · rw [List.concat_eq_append, ← List.cons_append, ← List.append_assoc] at he
            obtain ⟨rfl, he2⟩ := List.append_inj' he (by simp)
            have hji : j ≠ i := fun e => hip (by rw [← e]; simp)
            have hL' : L.getD j false = false := by
              rw [hset, Bool.or_eq_false_iff] at hL
              exact hL.1
            obtain ⟨bi, q1, q2⟩ := h.recs p j s' rfl hL'
            refine ⟨bi, q1.trans hb, ?_⟩
            rw [hv p fun x hx => List.mem_append_left _ hx]
            simp only [if_neg hji]
            exact q2
      obtain ⟨pre', rest', vals', h1, h2⟩ := hinv.advance ho.nd
      exact hK _ _ _ _ _ _ _ h1 h2
    by_cases hw : wantF ops (ap ops vals F0 pre) o = some true
    · simp only [EvO, hw] at hev
      rw [hopi] at hc
      obtain ⟨f, args, ats, hop⟩ : ∃ f args ats, o.op = .call ⟨.value f, args, ats⟩ := by
        unfold isCallO at hc
        split at hc
        · exact ⟨_, _, _, by assumption⟩
        · cases hc
      rw [hop] at hev
      simp only at hev
      obtain ⟨fid, first, captured, QQ, hcal, hcb, hk⟩ := hev
      have hevl := evF_congr hlook
      have hfop : f ∈ o.op.operands := by rw [hop]; simp [Op.operands, Call.operands]
      have hargs : args.toList.map (evF (ap ops vals F0 pre)) = args.toList.map (evF (ap ops vals F0 (pre.filter fun i => L.getD i false))) := List.map_congr_left fun x hx => hevl x (by rw [hop]; simp [Op.operands, Call.operands]; right; simpa using hx)
      have hall : ∀ x ∈ o.op.operands, inO n x = true := fun x hx => by
        have := hio
        simp only [inOp, Bool.and_eq_true] at this
        exact List.all_eq_true.1 this.1 x (by simpa using hx)
      rw [hevl f hfop] at hcal
      rw [hargs] at hcb
      have hag := tmOf_agree hn (ap ops vals F0 (pre.filter fun i => L.getD i false))
      have hwant : Region.wanted o (yielded ops a.tmps) = true := by
        refine wantX_spec (tm := tmOf n (ap ops vals F0 (pre.filter fun i => L.getD i false))) ?_ (hag.ok.2 h.fm)
        rw [← hw, wantF_congr hlook]
        have i2 := hio
        simp only [inOp, Bool.and_eq_true] at i2
        have i2 := i2.2
        unfold wantX wantF
        cases hg : o.guard with
        | none => rfl
        | some p =>
          obtain ⟨j, want⟩ := p
          rw [hg] at i2
          simp only at i2 ⊢
          cases hd : (ops[j]?).bind (·.dst) with
          | none => rfl
          | some t =>
            rw [hd] at i2
            simp only at i2 ⊢
            have ht : t < n := by rw [blt_dec] at i2; exact of_decide_eq_true i2
            rw [Tm.get?_lt (by rw [hag.num]; exact ht), hag.get t ht]
            generalize ap ops vals F0 (pre.filter fun i => L.getD i false) t = z
            cases z with
            | s v => cases v <;> rfl
            | _ => rfl
      refine wpOp_step hoi fun K' hK' => ?_
      rw [if_pos hwant]
      obtain ⟨xs, ys, h1, h2, h3⟩ := calleeX_spec hcal (evF_rel h.fm f (hall f hfop))
      have hmid : V.rels g.ν (args.toList.map (evF (ap ops vals F0 (pre.filter fun i => L.getD i false)))) (args.toList.map a.eval) := by
        have : ∀ (l : List Operand), (∀ x ∈ l, inO n x = true) → V.rels g.ν (l.map (evF (ap ops vals F0 (pre.filter fun i => L.getD i false)))) (l.map a.eval) := by
          intro l
          induction l with
          | nil => intro _; exact rels_nil
          | cons x l ih => intro hl; exact rels_cons (evF_rel h.fm x (hl x List.mem_cons_self)) (ih fun y hy => hl y (List.mem_cons_of_mem _ hy))
        exact this _ fun x hx => hall x (by rw [hop]; simp [Op.operands, Call.operands]; right; simpa using hx)
      have hargs := rels_append (rels_append h2 hmid) h3
      have hgo : ∀ u w', Next b g w' u (fun b' v S' => S' = S ∧ QQ b' v) → K' (a.put o.dst u) w' := by
        rintro u w' ⟨b', g', S', v, hb, hm, hx, hu, hrel, rfl, hq⟩
        exact hK' _ _ (next b' g' u w' v hb hm hx hu hrel (hag.put.ok.1 (putT_rels ((hag.ok.2 h.fm).mono hx) o.dst hrel)) (hk b' v hq))
      have hrun : execOp a.eval o = callFunc fid (xs ++ args.toList.map a.eval ++ ys).toArray := by
        obtain ⟨dst, op, ty, pos, after, guard⟩ := o
        simp only at hop
        subst hop
        simp only [execOp, resolve, h1, Deferred.ofValue, pure_bind, invoke]
        congr 1
        apply Array.ext'
        simp
      unfold Oper.wp
      rw [hrun]
      rcases hcb g w _ h.m h.up hargs with ⟨u, w', e1, e2⟩ | ⟨e1, e2⟩
      · rw [e1]
        exact hgo u w' e2
      · rw [e1]
        refine Calls.mono e2 ?_
        rintro e w' ⟨u, rfl, hR'⟩
        exact hgo u w' hR'
    · have hwf : wantF ops (ap ops vals F0 pre) o = some false := by
        simp only [EvO] at hev
        split at hev
        · rename_i hw'; exact absurd hw' hw
        · rename_i hw'; exact hw'
        · exact hev.elim
      obtain ⟨v, h1, h2⟩ := EvO.pure (.inr hwf) hev
      exact small b _ v (BsLe.refl b) h1 hlook fun g' u w' hm hf hrel hfm => next b g' u w' v (BsLe.refl b) hm hf.ext (h.up.fr hf (Nat.le_refl _)) hrel hfm h2
/-- A row in a drawn order, by an order of one's own. -/
theorem WpB.draw (hm : P.follows .mixedOrders = true) {n : Nat} (hn : n ≤ 2000) {id : Nat} {ops : Array Oper} {b : Bs} {F : Fm} {S : St} {Q : Ex → Bs → Fm → St → Prop} (ord : List Nat) {l : List Oper}
    (hpl : ancOk (ancsX ops.toList []) 0 ops.toList = true) (hsel : Region.noSelect ops = true) (hi : ops.toList.all (inOp n ops) = true) (hc : chkOrd ops (ancsX ops.toList []) ord = true) (hl : (List.range ops.size).all (fun i => ord.contains i) = true) (hlist : ord.map (opAt ops) = l)
    (h : EvO P n ops l b F S fun b' F' => Q .normal b' F' S) : WpB P n (.region id ops true) b F S Q := by
  intro g w a hl0 R hR
  have ho := Ord.of hc hl
  have hp : Plan ops (ancsX ops.toList []) := ⟨hsel, fun i o ho => by
    have := ancOk_spec hpl i o (by simpa using ho)
    simpa [ancOf] using this⟩
  refine wp_region_any hm ?_
  have key : ∀ fuel L g a w pre rest b' vals, InvO P n ops (ancsX ops.toList []) ord F S (fun b' F' => Q .normal b' F' S) b L g a w pre rest b' vals → Headed ops rest → L.toList.count false ≤ fuel → wpAny P .any ops R fuel L a w := by
    intro fuel
    induction fuel with
    | zero =>
      intro L g a w pre rest b' vals h hh hcnt
      have hall : ∀ j, j < ops.size → L.getD j false = true := fun j hj => by
        cases hL : L.getD j false with
        | true => rfl
        | false =>
          have hlt : j < L.size := by rw [h.sz]; omega
          have hmem : false ∈ L.toList := by
            have : L[j] = false := by simp [hlt] at hL; exact hL
            rw [← this]
            exact Array.mem_toList_iff.2 (Array.getElem_mem hlt)
          have := List.count_pos_iff.2 hmem
          omega
      have hrest : rest = [] := by
        cases rest with
        | nil => rfl
        | cons c r =>
          have := h.nrest c List.mem_cons_self
          rw [hall c (ho.lt c (by rw [h.cut]; simp))] at this
          cases this
      subst hrest
      have hf : (pre.filter fun i => L.getD i false) = pre := List.filter_eq_self.2 fun j hj => hall j (ho.lt j (by rw [h.cut]; simp [hj]))
      have hfm := h.fm
      rw [hf] at hfm
      have hr : Region.ready .any ops L = [] := by
        cases hre : Region.ready .any ops L with
        | nil => rfl
        | cons i r =>
          have hi : i ∈ Region.ready .any ops L := by rw [hre]; exact List.mem_cons_self
          obtain ⟨q1, o, q2, _⟩ := mem_ready.1 hi
          have := getD_true (hall i (Array.getElem?_eq_some_iff.1 q2).1)
          rw [q1] at this
          cases this
      exact wpAny_done hr (hR .normal b' _ S g a w h.ev h.le ⟨h.m, hfm, h.df, h.up⟩) _
    | succ fuel ih =>
      intro L g a w pre rest b' vals h hh hcnt
      by_cases hre : Region.ready .any ops L = []
      · -- none is left
        have hall : ∀ j, j < ops.size → L.getD j false = true := by
          intro j
          induction j using Nat.strongRecOn with
          | ind j ihj =>
            intro hj
            cases hL : L.getD j false with
            | true => rfl
            | false =>
              have : j ∈ Region.ready .any ops L := ready_of (Array.getElem?_eq_getElem hj) (getD_false' (by rw [h.sz]; exact hj) hL) fun d hd => by
                have hdj := (hp.anc j _ (Array.getElem?_eq_getElem hj)).2 d hd
                exact ihj d hdj (by omega)
              rw [hre] at this
              cases this
        have hrest : rest = [] := by
          cases rest with
          | nil => rfl
          | cons c r =>
            have := h.nrest c List.mem_cons_self
            rw [hall c (ho.lt c (by rw [h.cut]; simp))] at this
            cases this
        subst hrest
        have hf : (pre.filter fun i => L.getD i false) = pre := List.filter_eq_self.2 fun j hj => hall j (ho.lt j (by rw [h.cut]; simp [hj]))
        have hfm := h.fm
        rw [hf] at hfm
        exact wpAny_done hre (hR .normal b' _ S g a w h.ev h.le ⟨h.m, hfm, h.df, h.up⟩) _
      · refine ⟨fun h0 => absurd h0 hre, fun k hk => ?_⟩
        refine h.step hn hi hh ho hp hk fun g' a' w' pre' rest' b2 vals' h' hh' => ih _ _ _ _ _ _ _ _ h' hh' ?_
        have := count_set (mem_ready.1 hk).1
        omega
  have h0 : InvO P n ops (ancsX ops.toList []) ord F S (fun b' F' => Q .normal b' F' S) b (Array.replicate ops.size false) g a { w with drawn := w.drawn + 1 } [] ord b (fun _ => undefV) := by
    have hrep : ∀ j, (Array.replicate ops.size false).getD j false = false := fun j => by
      rcases Nat.lt_or_ge j ops.size with h3 | h3 <;> simp [h3]
    exact ⟨by simp, fun i o _ hL => by (rw [hrep] at hL; cases hL), rfl, fun j _ => hrep j, fun j hj => by (cases hj), by rw [hlist]; exact h, BsLe.refl b, hl0.m.drew _, hl0.up, hl0.df, hl0.fm, fun p i s he => by simp at he⟩
  obtain ⟨pre', rest', vals', h1, h2⟩ := h0.advance ho.nd
  refine key _ _ _ _ _ _ _ _ _ h1 h2 ?_
  have : ((Array.replicate ops.size false).toList.count false) ≤ (Array.replicate ops.size false).toList.length := List.count_le_length
  simp
end
end Go.Proofs.YtmpmbnmldmpmiaaGreatDoor.Sim
