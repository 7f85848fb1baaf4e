/- CodeWider by the logic of triples. -/
import Derived.Test.YtlbcnacfgickcaaGreatDoorSimTy
import Derived.Test.YtlbcnacfgickcaaGreatDoorSimKd
import Derived.Test.YtlbcnacfgickcaaGreatDoorWiderLaw
import Derived.Test.YtlbcnacfgickcaaGreatDoorHandHead
set_option linter.unusedVariables false
set_option linter.unusedSimpArgs false
set_option maxRecDepth 100000
namespace Go.Proofs.YtlbcnacfgickcaaGreatDoor.Sim
open Go Go.RowKit Go.Proofs.YtlbcnacfgickcaaGreatDoor.A Go.Proofs.YtlbcnacfgickcaaGreatDoorW.PrintWords Go.Proofs.YtlbcnacfgickcaaGreatDoorW.PrintLast Go.Proofs.YtlbcnacfgickcaaGreatDoorW.PrintMore
section
variable {w : World} {A0 A1 : Option Addr} {c0 c1 : Nat} {l0 : List S30} {l1 : List S36}
theorem ok_check {k : Nat} {e : Int} (h0 : Kd.C k30 w A0 l0.length l0) (hc0 : l0.length ≤ c0) (h1 : Kd.C k36 w A1 l1.length l1) (hc1 : l1.length ≤ c1) (hTb : Tabs w) (h : code_Check.f k l0 l1 = some e) (S : St) : Ok Tryz.prog w 8 [.s (.agg #[.slice A0 l0.length c0, .slice A1 l1.length c1])] S fun v S' => v = .s (.int .i64 e) ∧ S' = S := by
  refine Ok.of_calls Tryz.func8 (by kernel_rfl) rfl fun g w' us hM hr => ?_
  simp only [V.rels, V.rel] at hr
  obtain ⟨u, us, rfl, rfl, rfl⟩ := hr
  exact code_Check.calls k A0 c0 l0 A1 c1 l1 e w' (Kd.C_below h0 hM.base) hc0 (Kd.C_below h1 hM.base) hc1 (tabs_below hTb hM.base) h
theorem ok_heads (hTb : Tabs w) (S : St) : Ok Tryz.prog w 9 [] S fun v S' => v = .s (.bool true) ∧ S' = S := by
  refine Ok.of_calls Tryz.func9 (by kernel_rfl) rfl fun g w' us hM hr => ?_
  simp only [V.rels] at hr
  subst hr
  exact colanderlaw19_heads.calls true w' (tabs_below hTb hM.base) rfl
theorem ok_num (hT : Tab (whole w) w) (b : Nat) (S : St) : Ok Tryz.prog w 10 [.s (.float .f64 b)] S fun v S' => ∃ x, v = .s x ∧ x = .agg #[.int .i64 3, .float .f64 b, .string (⟨#[]⟩ : ByteArray), .slice none 0 0, .slice none 0 0] ∧ S' = S := by
  refine Ok.runQ hT Tryz.func10 (by kernel_rfl) rfl rfl rfl rfl ?_
  refine WpF.seq (WpF.row hT (by decide) (by decide) (ev ?_))
  refine WpF.seq (WpF.row hT (by decide) (by decide) (ev ?_))
  exact WpF.ret ⟨.inr rfl, evr trivial⟩
/-- What the two functions of code ask of their argument. -/
def AtCode (w : World) (l0 : List S30) (l1 : List S36) (x : Value) : Prop := ∃ A c A' c', x = .agg #[.slice A l0.length c, .slice A' l1.length c'] ∧ l0.length ≤ c ∧ l1.length ≤ c' ∧ Kd.C k30 w A l0.length l0 ∧ Kd.C k36 w A' l1.length l1
theorem ok_checkG {k : Nat} {e : Int} {S : St} {v : V} (hA : ∀ g w' u, M w g S.heap w' → V.rel g.ν v u → AtCode w' l0 l1 u) (hTb : Tabs w) (h : code_Check.f k l0 l1 = some e) : Ok Tryz.prog w 8 [v] S fun v S' => v = .s (.int .i64 e) ∧ S' = S := by
  refine Ok.of_calls Tryz.func8 (by kernel_rfl) rfl fun g w' us hM hr => ?_
  simp only [V.rels] at hr
  obtain ⟨u, us, hr, rfl, rfl⟩ := hr
  obtain ⟨A, c, A', c', rfl, q1, q2, q3, q4⟩ := hA g w' u hM hr
  exact code_Check.calls k A c l0 A' c' l1 e w' q3 q1 q4 q2 (tabs_below hTb hM.base) h
theorem ok_heightsG {k : Nat} {r1 : List Int} {r2 : Int} {S : St} {v : V} (hA : ∀ g w' u, M w g S.heap w' → V.rel g.ν v u → AtCode w' l0 l1 u) (hTb : Tabs w) (h : code_Heights.f k l0 l1 0 = some (r1, r2)) :
    Ok Tryz.prog w 11 [v, .s (.int .i64 0)] S fun v S' => ∃ x, v = .tup [x, .s (.int .i64 r2)] ∧ ((r1 = [] ∧ x = .s (.slice none 0 0) ∧ S' = S) ∨ (x = .slc S.next 0 r1.length none ∧ S' = ⟨(S.next, .row (r1.map fun n => .s (.int .i64 n)) 3 (some 1) false) :: S.heap, S.next + 1, S.low⟩ ∧ r1.length ≤ 9223372036854775807)) := by
  intro g w' us hM hr hu
  simp only [V.rels, V.rel] at hr
  obtain ⟨u, us, hr, ⟨_, _, rfl, rfl, rfl⟩, rfl⟩ := hr
  obtain ⟨A, c, A', c', rfl, q1, q2, q3, q4⟩ := hA g w' u hM hr
  refine callSem_of Tryz.func11 (by kernel_rfl) rfl ((code_Heights.calls k A c l0 A' c' l1 0 r1 r2 w' q3 q1 q4 q2 (tabs_below hTb hM.base) h).mono ?_)
  rintro e w2 ⟨v0, rfl, hR, hb⟩
  refine ⟨_, rfl, ?_⟩
  rcases ints_new hR hb hM hu with ⟨rfl, rfl⟩ | ⟨g', m1, m2, m3, m4⟩
  · refine ⟨_, _, ⟨_, rfl, .inl ⟨rfl, rfl, rfl⟩⟩, Nat.le_refl _, Nat.le_refl _, g, hM.under hb, Fr.under _ _ hb, ?_⟩
    simp only [V.rel]
    exact ⟨_, rels_cons rel_s (rels_singleton rel_s), rfl⟩
  · refine ⟨_, _, ⟨_, rfl, .inr ⟨rfl, rfl, m4⟩⟩, Nat.le_succ _, Nat.le_refl _, g', m1, m2, ?_⟩
    simp only [V.rel]
    exact ⟨_, rels_cons m3 (rels_singleton rel_s), rfl⟩
theorem atCode_base {S : St} {n : Nat} (hn : l0.length = n) (h0 : Kd.C k30 w A0 n l0) (hc0 : n ≤ c0) (h1 : Kd.C k36 w A1 l1.length l1) (hc1 : l1.length ≤ c1) (g : Gh) (w' : World) (u : Value) (hM : M w g S.heap w') (hr : V.rel g.ν (.s (.agg #[.slice A0 n c0, .slice A1 l1.length c1])) u) : AtCode w' l0 l1 u := by
  subst hn
  simp only [V.rel] at hr
  subst hr
  exact ⟨_, _, _, _, rfl, hc0, hc1, Kd.C_below h0 hM.base, Kd.C_below h1 hM.base⟩
/-- A row of numbers of the call's own. -/
def AtInts (w : World) (l : List Int) (x : Value) : Prop := ∃ A c, x = .slice A l.length c ∧ l.length ≤ c ∧ Kd.C (Kd.int .i64) w A l.length l
theorem atInts_row {S : St} {id : Nat} {l : List Int} (hf : find id S.heap = some (.row (l.map fun n => .s (.int .i64 n)) 3 (some 1) false)) (hl : l.length ≤ 9223372036854775807) (g : Gh) (w' : World) (u : Value) (hM : M w g S.heap w') (hr : V.rel g.ν (.slc id 0 l.length none) u) : AtInts w' l u := by
  have hf' : find id S.heap = some (.row ((l.map (Value.int .i64)).map .s) 3 (some 1) false) := by rw [hf, List.map_map]; rfl
  obtain ⟨k, c, o, g1, g2, g3, xs, ys, fr, x1, rfl, x3, x4⟩ := hM.blk id _ hf'
  simp only [V.rel] at hr
  obtain ⟨k', c', e, rfl⟩ := hr
  rw [g1] at e
  cases e
  obtain ⟨k2, c2, ys2, fr2, b1, b2⟩ := lits_block hM hf'
  rw [g1] at b1
  cases b1
  have hx := rels_length x1
  simp at hx x4
  refine ⟨_, _, rfl, by simp; omega, C_of_block b2 rfl hl fun j p hj => ⟨[.int .i64 p], rfl, rfl, fun i u hu => ?_⟩⟩
  have hjl := (List.getElem?_eq_some_iff.1 hj).1
  cases i with
  | zero =>
    simp at hu
    subst hu
    have hs : (Kd.int .i64).sz = 1 := rfl
    rw [hs, Nat.mul_one, Nat.zero_add, Nat.add_zero, List.getElem?_append_left (by simpa using hjl), List.getElem?_map, hj]
    rfl
  | succ i => simp at hu
theorem ok_intsG {k : Nat} {r : Bool} {S : St} {a b : V} {la lb : List Int} (hA : ∀ g w' u, M w g S.heap w' → V.rel g.ν a u → AtInts w' la u) (hB : ∀ g w' u, M w g S.heap w' → V.rel g.ν b u → AtInts w' lb u) (h : colanderref01_Ints.f k la lb = some r) : Ok Tryz.prog w 12 [a, b] S fun v S' => v = .s (.bool r) ∧ S' = S := by
  refine Ok.of_calls Tryz.func12 (by kernel_rfl) rfl fun g w' us hM hr => ?_
  simp only [V.rels] at hr
  obtain ⟨u, us, hr, ⟨x, xs, hr', rfl, rfl⟩, rfl⟩ := hr
  obtain ⟨A, c, rfl, q1, q2⟩ := hA g w' u hM hr
  obtain ⟨A', c', rfl, q3, q4⟩ := hB g w' x hM hr'
  exact (colanderref01_Ints.calls k A c la A' c' lb r w' q2 q1 q4 q3 h).mono fun e w2 ⟨he, nd, hd⟩ => ⟨he, by subst hd; exact ⟨rfl, rfl, rfl, Nat.le_refl _, fun _ _ => rfl⟩⟩
theorem setRange_one {α : Type} {l : List α} {off : Nat} {v : α} (h : off < l.length) : setRange l off [v] = l.set off v := by
  rw [setRange_cons _ _ _ _ h]
  simp [setRange]
theorem wider_walk {k : Nat} (hT : Tab (whole w) w) (h0 : Kd.C k30 w A0 l0.length l0) (hc0 : l0.length ≤ c0) (h1 : Kd.C k36 w A1 l1.length l1) (hc1 : l1.length ≤ c1) (hb1 : l1.length * 80 ≤ 140737488355328) (hTb : Tabs w) (hm : widerF k l0 l1 = some true) : Ok Tryz.prog w 3 [.s (.agg #[.slice A0 l0.length c0, .slice A1 l1.length c1])] ⟨[], 0, 0⟩ (fun v S' => v = .s (.bool true)) := by
  refine Ok.run hT Tryz.func3 (by kernel_rfl) rfl rfl rfl rfl ?_
  refine WpF.seq (WpF.row hT (by decide) (by decide) (ev ?_))
  unfold widerF at hm
  obtain ⟨e0, hCk, hm'⟩ := Option.bind_eq_some_iff.mp hm
  clear hm
  refine WpF.seq (WpF.seq (WpF.row hT (by decide) (by decide) (ev ?_)))
  refine SeqF.callE hT (by decide) (ok_check h0 hc0 h1 hc1 hTb hCk _) (by decide) rfl rfl rfl rfl ?_
  rintro v S' ⟨rfl, rfl⟩ _ _
  by_cases hz : e0 = 0
  case neg =>
    have hz1 : (e0 != 0) = true := by simp [hz]
    refine evh ?_
    refine WpF.cond (by decide) rfl (fun _ => ?_) (fun e => by cases e)
    refine WpF.seq (WpF.row hT (by decide) (by decide) (ev ?_))
    refine SeqF.callE hT (by decide) (ok_heads hTb _) (by decide) rfl rfl rfl rfl ?_
    rintro v S' ⟨rfl, rfl⟩ _ _
    refine ev ?_
    exact WpF.ret ⟨.inr rfl, evr trivial⟩
  subst hz
  rw [if_neg (by simp)] at hm'
  by_cases hn : 0 < l0.length ∧ l0.length ≤ 20000
  case neg => rw [if_pos hn] at hm'; cases hm'
  rw [if_neg (fun h => h hn)] at hm'
  obtain ⟨ka, off, cs, rfl, hka, hlen, hrow⟩ := C_rows h0 hn.1 (by decide)
  have hd : k30.sz = 6 := rfl
  rw [hd] at hlen hrow
  have z1 : ((0 : Int) != 0) = false := rfl
  obtain ⟨f0, lr, rfl⟩ : ∃ f0 lr, l0 = f0 :: lr := by
    cases l0 with
    | nil => exact absurd hn.1 (by simp)
    | cons a b => exact ⟨a, b, rfl⟩
  have hrd : rd_T30 (f0 :: lr) 0 = f0 := rfl
  rw [hrd] at hm'
  obtain ⟨rows, hrows⟩ : ∃ rows, (cs.drop off).take ((f0 :: lr).length * 6) = rows := ⟨_, rfl⟩
  have hs0 : ∀ H, srcX (whole w) 6 (.s (.slice (some ⟨ka, off, none⟩) (f0 :: lr).length c0)) H = some ((f0 :: lr).length, rows.map .s) := fun H => by rw [← hrows]; exact srcX_base hka hlen H
  have hrl : rows.length = (f0 :: lr).length * 6 := by rw [← hrows, List.length_take, List.length_drop]; omega
  have hrow' : ∀ j p, (f0 :: lr)[j]? = some p → k30.K w p ((rows.drop (j * 6)).take 6) := by
    intro j p hj
    have := hrow j p hj
    have hjl := (List.getElem?_eq_some_iff.1 hj).1
    rw [← hrows]
    have e : (((cs.drop off).take ((f0 :: lr).length * 6)).drop (j * 6)).take 6 = (cs.drop (off + j * 6)).take 6 := by
      rw [List.drop_take, List.drop_drop, List.take_take]
      congr 1
      omega
    rw [e]
    exact this
  obtain ⟨A5, c5, hopen, _, _⟩ := k30_open (hrow' 0 f0 rfl)
  have hget : ∀ i, i < 6 → rows[i]? = ([.string f0.f0, .int .i64 f0.f1, .int .i64 f0.f2, .int .i64 f0.f3, .int .i64 f0.f4, .slice A5 f0.f5.length c5] : List Value)[i]? := by
    intro i hi
    rw [← hopen, Nat.zero_mul, List.drop_zero, List.getElem?_take_of_lt hi]
  have y4 : (rows.map V.s)[4]? = some (.s (.int .i64 f0.f4)) := by rw [List.getElem?_map, hget 4 (by omega)]; rfl
  have x4 : cellT (whole w) ka (off + 4) = some (.int .i64 f0.f4) := by
    have h1 := hget 4 (by omega)
    rw [← hrows, List.getElem?_take_of_lt (by have := hn.1; omega), List.getElem?_drop] at h1
    simp only [cellT, hka, Option.bind_some, h1]
    rfl
  have g0 : (0 : Int) < ((f0 :: lr).length : Int) := by omega
  by_cases hv : f0.f4 ≥ 32768
  · have hv1 : decide (f0.f4 ≥ 32768) = true := decide_eq_true hv
    generalize hL : (f0 :: lr).length = L at *
    refine evh ?_
    refine WpF.cond (by decide) rfl (fun _ => ?_) (fun e => by cases e)
    refine WpF.seq (WpF.row hT (by decide) (by decide) (ev ?_))
    refine SeqF.callE hT (by decide) (ok_heads hTb _) (by decide) rfl rfl rfl rfl ?_
    rintro v S' ⟨rfl, rfl⟩ _ _
    refine ev ?_
    exact WpF.ret ⟨.inr rfl, evr trivial⟩
  have hv1 : decide (f0.f4 ≥ 32768) = false := decide_eq_false hv
  rw [if_neg hv] at hm'
  clear hrow hlen hka hrows hCk
  generalize hL : (f0 :: lr).length = L at *
  have hL0 : ¬ L ≤ 0 := by omega
  have hr1 : roomOk 72 L = true := by
    simp only [roomOk, Bool.and_eq_true]
    exact ⟨Nat.ble_eq_true_of_le (by omega), Nat.ble_eq_true_of_le (by omega)⟩
  have hL5 : 5 ≤ L * 6 := by omega
  refine evh ?_
  refine WpF.cond (by decide) rfl (fun e => by cases e) (fun _ => WpF.skip ?_)
  refine WpF.seq (WpF.row hT (by decide) (by decide) (evh ?_))
  refine WpF.seq (WpF.row hT (by decide) (by decide) (evh ?_))
  refine WpF.seq (WpF.row hT (by decide) (by decide) (evh ?_))
  generalize hR : setRange (rows.map V.s) 4 [V.s (Value.int IntKind.i64 (IntKind.i64.wrap (f0.f4 + 1)))] = R
  have hQ : ∃ Q0 : Ex → Fm → St → Prop, Q0 = fun (ex : Ex) (F : Fm) (S : St) => ex = .normal ∧ F 1 = .ptr 0 0 ∧ F 3 = .ptr 1 0 ∧ ∃ (q : Nat) (crow : List Value), find 0 S.heap = some (.row [.s (.slice (some ⟨ka, off, none⟩) L c0), .s (.slice A1 l1.length c1)] 25 none false) ∧
      find 1 S.heap = some (.row [.slc 3 0 L none, .slc q 0 (l1.length + 1) none] 25 none false) ∧ find 3 S.heap = some (.row R 30 (some 6) false) ∧ find q S.heap = some (.row (crow.map .s ++ [.s (.int .i64 3), .s (.float .f64 4621256167635550208), .s (.string (⟨#[]⟩ : ByteArray)), .s (.slice none 0 0), .s (.slice none 0 0)]) 36 (some 5) false) ∧
      crow.length = l1.length * 5 ∧ (∀ j p, l1[j]? = some p → k36.K w p ((crow.drop (j * 5)).take 5)) ∧ 3 < S.next ∧ q < S.next := ⟨_, rfl⟩
  obtain ⟨Q0, hQ⟩ := hQ
  replace hQ := Hide.mk hQ
  replace hm' := Hide.mk hm'
  refine WpF.seq (WpF.mono (Q := Q0) ?_ ?_)
  · by_cases hl1 : l1.length = 0
    · obtain rfl : l1 = [] := List.eq_nil_of_length_eq_zero hl1
      have hr0 : roomOk 80 1 = true := by decide
      refine WpF.row hT (by decide) (by decide) (evh ?_)
      refine SeqF.callE hT (by decide) (ok_num hT 4621256167635550208 _) (by decide) rfl rfl rfl rfl ?_
      rintro v S' ⟨x, rfl, rfl, rfl⟩ _ _
      refine evh ?_
      rw [hQ.out]
      exact ⟨rfl, rfl, rfl, 6, [], rfl, rfl, rfl, rfl, rfl, fun j p h => by simp at h, by show 3 < 7; omega, by show 6 < 7; omega⟩
    · obtain ⟨kb, ofb, cb, rfl, hkb, hlenb, hrowb⟩ := C_rows h1 (by omega) (by decide)
      have hdb : k36.sz = 5 := rfl
      rw [hdb] at hlenb hrowb
      obtain ⟨crow, hcrow⟩ : ∃ crow, (cb.drop ofb).take (l1.length * 5) = crow := ⟨_, rfl⟩
      have hs1 : ∀ H, srcX (whole w) 5 (.s (.slice (some ⟨kb, ofb, none⟩) l1.length c1)) H = some (l1.length, crow.map .s) := fun H => by rw [← hcrow]; exact srcX_base hkb hlenb H
      have hcl : crow.length = l1.length * 5 := by rw [← hcrow, List.length_take, List.length_drop]; omega
      have hcrow' : ∀ j p, l1[j]? = some p → k36.K w p ((crow.drop (j * 5)).take 5) := by
        intro j p hj
        have := hrowb j p hj
        have hjl := (List.getElem?_eq_some_iff.1 hj).1
        rw [← hcrow]
        have e : (((cb.drop ofb).take (l1.length * 5)).drop (j * 5)).take 5 = (cb.drop (ofb + j * 5)).take 5 := by
          rw [List.drop_take, List.drop_drop, List.take_take]
          congr 1
          omega
        rw [e]
        exact this
      clear hrowb hlenb hkb hcrow
      have hm0 : ¬ l1.length ≤ 0 := by omega
      have hrm : roomOk 80 l1.length = true := by
        simp only [roomOk, Bool.and_eq_true]
        exact ⟨Nat.ble_eq_true_of_le (by omega), Nat.ble_eq_true_of_le (by omega)⟩
      have hrm1 : roomOk 80 (l1.length + 1) = true := by
        simp only [roomOk, Bool.and_eq_true]
        exact ⟨Nat.ble_eq_true_of_le (by omega), Nat.ble_eq_true_of_le (by omega)⟩
      have htk : (crow.map V.s).take (l1.length * 5) = crow.map V.s := List.take_of_length_le (by simp [hcl])
      refine WpF.row hT (by decide) (by decide) (evh ?_)
      refine SeqF.callE hT (by decide) (ok_num hT 4621256167635550208 _) (by decide) rfl rfl rfl rfl ?_
      rintro v S' ⟨x, rfl, rfl, rfl⟩ _ _
      refine evh ?_
      rw [hQ.out]
      exact ⟨rfl, rfl, rfl, 7, crow, rfl, rfl, rfl, rfl, hcl, hcrow', by show 3 < 8; omega, by show 7 < 8; omega⟩
  · intro ex F S hq _ _
    rw [hQ.out] at hq
    obtain ⟨rfl, f1, f3, q, crow, n0, n1, n3, nq, hcl, hcrow, hS3, hSq⟩ := hq
    clear hQ
    have hR' : R = ((rows.set 4 (.int .i64 (wrap64 (f0.f4 + 1)))).map V.s) := by
      rw [← hR, setRange_one (by simp; omega), IntWalk.i64_left, List.map_set]
    have hD : ∀ (S2 : St), find 3 S2.heap = some (.row R 30 (some 6) false) → find q S2.heap = some (.row (crow.map .s ++ [.s (.int .i64 3), .s (.float .f64 4621256167635550208), .s (.string (⟨#[]⟩ : ByteArray)), .s (.slice none 0 0), .s (.slice none 0 0)]) 36 (some 5) false) →
        ∀ g w' u, M w g S2.heap w' → V.rel g.ν (.agg [.slc 3 0 L none, .slc q 0 (l1.length + 1) none]) u → AtCode w' (widerL (f0 :: lr)) (l1 ++ [nine]) u := by
      intro S2 e3 eq g w' u hM hr
      rw [hR'] at e3
      have eq' : find q S2.heap = some (.row ((crow ++ ([.int .i64 3, .float .f64 4621256167635550208, .string (⟨#[]⟩ : ByteArray), .slice none 0 0, .slice none 0 0] : List Value)).map V.s) 36 (some 5) false) := by rw [eq, List.map_append]; rfl
      simp only [V.rel, V.rels] at hr
      obtain ⟨_, ⟨_, _, ⟨k3, c3, v3, rfl⟩, ⟨_, _, ⟨kq, cq, vq, rfl⟩, rfl, rfl⟩, rfl⟩, rfl⟩ := hr
      obtain ⟨k3', c3', ys3, fr3, b3, d3⟩ := lits_block hM e3
      rw [v3] at b3
      cases b3
      obtain ⟨kq', cq', ysq, frq, bq, dq⟩ := lits_block hM eq'
      rw [vq] at bq
      cases bq
      have cap3 : L ≤ c3 := by
        obtain ⟨k, c, o, g1, g2, g3, xs, ys, fr, x1, rfl, x3, x4⟩ := hM.blk _ _ e3
        rw [v3] at g1
        cases g1
        have hx := rels_length x1
        simp at hx x4
        omega
      have capq : l1.length + 1 ≤ cq := by
        obtain ⟨k, c, o, g1, g2, g3, xs, ys, fr, x1, rfl, x3, x4⟩ := hM.blk _ _ eq'
        rw [vq] at g1
        cases g1
        have hx := rels_length x1
        simp at hx x4
        omega
      have lw : (widerL (f0 :: lr)).length = L := by rw [widerL_length, hL]
      have lq : (l1 ++ [nine]).length = l1.length + 1 := by simp
      refine ⟨some ⟨k3, 0, none⟩, c3, some ⟨kq, 0, none⟩, cq, by rw [lw, lq]; rfl, by rw [lw]; exact cap3, by rw [lq]; exact capq, ?_, ?_⟩
      · refine C_of_block d3 rfl (by rw [lw]; omega) fun j p hj => ?_
        have hd6 : k30.sz = 6 := rfl
        cases j with
        | zero =>
          have hp : p = { f0 with f4 := wrap64 (f0.f4 + 1) } := (Option.some.inj hj).symm
          subst hp
          refine ⟨[.string f0.f0, .int .i64 f0.f1, .int .i64 f0.f2, .int .i64 f0.f3, .int .i64 (wrap64 (f0.f4 + 1)), .slice A5 f0.f5.length c5], rfl, ?_, fun i u hu => ?_⟩
          · refine ⟨[.string f0.f0], _, rfl, rfl, ⟨[.int .i64 f0.f1], _, rfl, rfl, ⟨[.int .i64 f0.f2], _, rfl, rfl, ⟨[.int .i64 f0.f3], _, rfl, rfl, ⟨[.int .i64 (wrap64 (f0.f4 + 1))], _, rfl, rfl, ⟨A5, c5, rfl, ?_, Kd.C_below ?_ hM.base⟩⟩⟩⟩⟩⟩
            · assumption
            · assumption
          · have hi : i < 6 := by have := (List.getElem?_eq_some_iff.1 hu).1; simpa using this
            rw [hd6, Nat.zero_mul, Nat.zero_add, Nat.zero_add, List.getElem?_append_left (by simp; omega), List.getElem?_set]
            by_cases h4 : 4 = i
            · subst h4
              rw [if_pos rfl, if_pos (by omega)]
              exact hu
            · rw [if_neg h4, hget i hi]
              have : i = 0 ∨ i = 1 ∨ i = 2 ∨ i = 3 ∨ i = 5 := by omega
              rcases this with rfl | rfl | rfl | rfl | rfl <;> exact hu
        | succ j =>
          have hj' : (f0 :: lr)[j + 1]? = some p := hj
          refine ⟨(rows.drop ((j + 1) * 6)).take 6, ?_, k30.K_below hM.base (hrow' _ _ hj'), fun i u hu => ?_⟩
          · exact k30.K_len (hrow' _ _ hj')
          · have hi : i < 6 := by have := (List.getElem?_eq_some_iff.1 hu).1; simp at this; omega
            rw [List.getElem?_take_of_lt hi, List.getElem?_drop] at hu
            have hlt := (List.getElem?_eq_some_iff.1 hu).1
            rw [hd6, Nat.zero_add, List.getElem?_append_left (by simpa using hlt), List.getElem?_set_ne (by omega)]
            exact hu
      · refine C_of_block dq rfl (by rw [lq]; omega) fun j p hj => ?_
        have hd5 : k36.sz = 5 := rfl
        rw [hd5]
        rcases Nat.lt_or_ge j l1.length with hjl | hjl
        · rw [List.getElem?_append_left hjl] at hj
          refine ⟨(crow.drop (j * 5)).take 5, k36.K_len (hcrow _ _ hj), k36.K_below hM.base (hcrow _ _ hj), fun i u hu => ?_⟩
          have hi : i < 5 := by have := (List.getElem?_eq_some_iff.1 hu).1; simp at this; omega
          rw [List.getElem?_take_of_lt hi, List.getElem?_drop] at hu
          have hlt := (List.getElem?_eq_some_iff.1 hu).1
          rw [Nat.zero_add, List.getElem?_append_left (by simp; omega), List.getElem?_append_left hlt]
          exact hu
        · rw [List.getElem?_append_right hjl] at hj
          have hj0 : j = l1.length := by
            have := (List.getElem?_eq_some_iff.1 hj).1
            simp at this
            omega
          subst hj0
          simp at hj
          subst hj
          refine ⟨[.int .i64 3, .float .f64 4621256167635550208, .string (⟨#[]⟩ : ByteArray), .slice none 0 0, .slice none 0 0], rfl, ?_, fun i u hu => ?_⟩
          · exact k36_mk w' nine (A3 := none) (c3 := 0) (Nat.zero_le _) ⟨rfl, Nat.zero_le _, fun h => absurd h (Nat.lt_irrefl _)⟩ (A4 := none) (c4 := 0) (Nat.zero_le _) ⟨rfl, Nat.zero_le _, fun h => absurd h (Nat.lt_irrefl _)⟩
          · have hi : i < 5 := by have := (List.getElem?_eq_some_iff.1 hu).1; simpa using this
            rw [Nat.zero_add, List.getElem?_append_left (by simp; omega), List.getElem?_append_right (by omega), hcl, show l1.length * 5 + i - l1.length * 5 = i by omega]
            exact hu
    clear hR hR' hs0 hrow' hopen hget y4 x4 hrl
    have hm := hm'.out
    clear hm'
    obtain ⟨⟨ha, ea⟩, hHa, hm⟩ := Option.bind_eq_some_iff.mp hm
    obtain ⟨⟨hb, eb⟩, hHb, hm⟩ := Option.bind_eq_some_iff.mp hm
    obtain ⟨ec, hCc, hm⟩ := Option.bind_eq_some_iff.mp hm
    by_cases hec : ec = 0
    case neg => rw [if_neg hec] at hm; cases hm
    rw [if_pos hec] at hm
    subst hec
    by_cases heq : ea = eb
    case neg => rw [if_neg heq] at hm; cases hm
    rw [if_pos heq] at hm
    subst heq
    have hIn : Hide (colanderref01_Ints.f k ha hb = some true) := ⟨hm⟩
    clear hm
    have hx0 : ¬ S.next = 0 := by omega
    have hx1 : ¬ S.next = 1 := by omega
    have hx3 : ¬ S.next = 3 := by omega
    have hxq : ¬ S.next = q := by omega
    have hy0 : ¬ S.next + 1 = 0 := by omega
    have hy1 : ¬ S.next + 1 = 1 := by omega
    have hy3 : ¬ S.next + 1 = 3 := by omega
    have hyq : ¬ S.next + 1 = q := by omega
    refine WpF.seq (WpF.row hT (by decide) (by decide) (evh ?_))
    refine SeqF.callE hT (by decide) (ok_heightsG (atCode_base hL h0 hc0 h1 hc1) hTb hHa) (by decide) rfl rfl rfl rfl ?_
    rintro v S1 ⟨x, rfl, hx⟩ _ _
    have hq1 : ∃ b, (∀ id, id ≤ 3 ∨ id = q → find id S1.heap = find id S.heap) ∧ S.next ≤ S1.next ∧ (∀ (S2 : St), (∀ id, id ≤ 3 ∨ id = q ∨ (id = S.next ∧ S.next < S1.next) → find id S2.heap = find id S1.heap) → ∀ g w' u, M w g S2.heap w' → V.rel g.ν x u → AtInts w' ha u) ∧ b = S1.next := by
      rcases hx with ⟨rfl, rfl, rfl⟩ | ⟨rfl, rfl, hmx⟩
      · refine ⟨_, fun _ _ => rfl, Nat.le_refl _, fun S2 _ g w' u _ hr => ?_, rfl⟩
        simp only [V.rel] at hr
        subst hr
        exact ⟨none, 0, rfl, Nat.le_refl _, rfl, Nat.zero_le _, fun h => absurd h (Nat.lt_irrefl _)⟩
      · refine ⟨_, fun id hid => ?_, Nat.le_succ _, fun S2 hS2 g w' u hM hr => ?_, rfl⟩
        · rw [find_cons, if_neg (by omega)]
        · refine atInts_row (id := S.next) (by rw [hS2 _ (.inr (.inr ⟨rfl, Nat.lt_succ_self _⟩)), find_cons, if_pos rfl]) hmx g w' u hM hr
    obtain ⟨b1, hf1, hn1, hat1, _⟩ := hq1
    have m0 : find 0 S1.heap = _ := (hf1 0 (by omega)).trans n0
    have m1 : find 1 S1.heap = _ := (hf1 1 (by omega)).trans n1
    have m3 : find 3 S1.heap = _ := (hf1 3 (by omega)).trans n3
    have mq : find q S1.heap = _ := (hf1 q (by omega)).trans nq
    replace hf1 := Hide.mk hf1
    replace hat1 := Hide.mk hat1
    replace hD := Hide.mk hD
    refine evh ?_
    clear hx
    refine WpF.seq (WpF.row hT (by decide) (by decide) (evh ?_))
    refine SeqF.callE hT (by decide) (ok_heightsG (hD.out S1 m3 mq) hTb hHb) (by decide) rfl rfl rfl rfl ?_
    rintro v S2 ⟨y, rfl, hy⟩ _ _
    have hq2 : (∀ id, id ≤ 3 ∨ id = q ∨ id = S.next → S.next < S1.next ∨ id ≠ S.next → find id S2.heap = find id S1.heap) ∧ (∀ g w' u, M w g S2.heap w' → V.rel g.ν y u → AtInts w' hb u) := by
      rcases hy with ⟨rfl, rfl, rfl⟩ | ⟨rfl, rfl, hmx⟩
      · refine ⟨fun _ _ _ => rfl, fun g w' u _ hr => ?_⟩
        simp only [V.rel] at hr
        subst hr
        exact ⟨none, 0, rfl, Nat.le_refl _, rfl, Nat.zero_le _, fun h => absurd h (Nat.lt_irrefl _)⟩
      · refine ⟨fun id hid hid' => ?_, fun g w' u hM hr => ?_⟩
        · rw [find_cons, if_neg (by omega)]
        · exact atInts_row (id := S1.next) (by rw [find_cons, if_pos rfl]) hmx g w' u hM hr
    obtain ⟨hf2, hat2⟩ := hq2
    have k1 : find 1 S2.heap = _ := (hf2 1 (by omega) (by omega)).trans m1
    have k3 : find 3 S2.heap = _ := (hf2 3 (by omega) (by omega)).trans m3
    have kq : find q S2.heap = _ := (hf2 q (by omega) (by omega)).trans mq
    replace hf2 := Hide.mk hf2
    replace hat2 := Hide.mk hat2
    refine evh ?_
    clear hy
    refine WpF.seq (WpF.row hT (by decide) (by decide) (evh ?_))
    refine SeqF.callE hT (by decide) (ok_checkG (hD.out S2 k3 kq) hTb hCc) (by decide) rfl rfl rfl rfl ?_
    rintro v S' ⟨rfl, rfl⟩ _ _
    have ee : (ea == ea) = true := by simp
    refine evh ?_
    refine SeqF.callE hT (by decide) (ok_intsG (hat1.out S' ?_) hat2.out hIn.out) (by decide) rfl rfl rfl rfl ?_
    · intro id hid
      exact hf2.out id (by omega) (by omega)
    rintro v S3 ⟨rfl, rfl⟩ _ _
    refine evh ?_
    refine SeqF.callE hT (by decide) (ok_heads hTb _) (by decide) rfl rfl rfl rfl ?_
    rintro v S4 ⟨rfl, rfl⟩ _ _
    refine evh ?_
    exact WpF.ret ⟨.inr rfl, evr trivial⟩
end
end Go.Proofs.YtlbcnacfgickcaaGreatDoor.Sim
