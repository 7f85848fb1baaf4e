/- CodeMore by the logic of triples. -/
import Derived.Test.YtlbcnacfgickcaaGreatDoorSimTy
import Derived.Test.YtlbcnacfgickcaaGreatDoorSimKd
import Derived.Test.YtlbcnacfgickcaaGreatDoorMoreFn
import Derived.Test.YtlbcnacfgickcaaGreatDoorHandHead
set_option linter.unusedVariables false
set_option linter.unusedSimpArgs false
set_option maxRecDepth 100000
namespace Go.Proofs.YtlbcnacfgickcaaGreatDoor.Sim
open Go Go.RowKit Go.Proofs.YtlbcnacfgickcaaGreatDoor.A Go.Proofs.YtlbcnacfgickcaaGreatDoorW.PrintWords Go.Proofs.YtlbcnacfgickcaaGreatDoorW.PrintLast Go.Proofs.YtlbcnacfgickcaaGreatDoorW.PrintMore
theorem rows30 {w : World} {A : Option Addr} {l : List S30} (h : Kd.C k30 w A l.length l) (hl : 0 < l.length) : ∃ k off, A = some ⟨k, off, none⟩ ∧ ∀ i : Int, 0 ≤ i → i < (l.length : Int) → ∃ A5 c5, cellT (whole w) k (off + i.toNat * 6 + 5) = some (.slice A5 (R3 l i).f5.length c5) := by
  obtain ⟨ad, _, _, rfl, x0, _⟩ := at_T30 h 0 (Int.le_refl _) (by omega)
  obtain ⟨k, off, sp⟩ := ad
  have hsp : sp = none := by
    cases sp with
    | none => rfl
    | some s =>
      simp only [World.cell?, Addr.add] at x0
      simp at x0
      split at x0 <;> cases x0
  subst hsp
  refine ⟨k, off, rfl, fun i h0 h1 => ?_⟩
  obtain ⟨ad', A5, c5, e, _, _, _, _, _, x5, _⟩ := at_T30 h i h0 h1
  cases e
  rw [add_eq] at x5
  exact ⟨A5, c5, cell_whole x5⟩
section
variable {w : World} {A0 A1 : Option Addr} {c0 c1 : Nat} {l0 : List S30} {l1 : List S36}
theorem ok_check {k : Nat} {e : Int} (h0 : Kd.C k30 w A0 l0.length l0) (hc0 : l0.length ≤ c0) (h1 : Kd.C k36 w A1 l1.length l1) (hc1 : l1.length ≤ c1) (hTb : Tabs w) (h : cC.f k l0 l1 = some e) (S : St) : Ok Tryz.prog w 8 [.s (.agg #[.slice A0 l0.length c0, .slice A1 l1.length c1])] S fun v S' => v = .s (.int .i64 e) ∧ S' = S := by
  refine Ok.of_calls Tryz.func8 (by kernel_rfl) rfl fun g w' us hM hr => ?_
  simp only [V.rels, V.rel] at hr
  obtain ⟨u, us, rfl, rfl, rfl⟩ := hr
  exact cC.calls k A0 c0 l0 A1 c1 l1 e w' (Kd.C_below h0 hM.base) hc0 (Kd.C_below h1 hM.base) hc1 (tabs_below hTb hM.base) h
theorem ok_heads (hTb : Tabs w) (S : St) : Ok Tryz.prog w 9 [] S fun v S' => v = .s (.bool true) ∧ S' = S := by
  refine Ok.of_calls Tryz.func9 (by kernel_rfl) rfl fun g w' us hM hr => ?_
  simp only [V.rels] at hr
  subst hr
  exact colanderlaw19_heads.calls true w' (tabs_below hTb hM.base) rfl
def AtCode (w : World) (l0 : List S30) (l1 : List S36) (x : Value) : Prop := ∃ A c A' c', x = .agg #[.slice A l0.length c, .slice A' l1.length c'] ∧ l0.length ≤ c ∧ l1.length ≤ c' ∧ Kd.C k30 w A l0.length l0 ∧ Kd.C k36 w A' l1.length l1
theorem ok_checkG {k : Nat} {e : Int} {S : St} {v : V} (hA : ∀ g w' u, M w g S.heap w' → V.rel g.ν v u → AtCode w' l0 l1 u) (hTb : Tabs w) (h : cC.f k l0 l1 = some e) : Ok Tryz.prog w 8 [v] S fun v S' => v = .s (.int .i64 e) ∧ S' = S := by
  refine Ok.of_calls Tryz.func8 (by kernel_rfl) rfl fun g w' us hM hr => ?_
  simp only [V.rels] at hr
  obtain ⟨u, us, hr, rfl, rfl⟩ := hr
  obtain ⟨A, c, A', c', rfl, q1, q2, q3, q4⟩ := hA g w' u hM hr
  exact cC.calls k A c l0 A' c' l1 e w' q3 q1 q4 q2 (tabs_below hTb hM.base) h
theorem ok_heightsG {k : Nat} {r1 : List Int} {r2 : Int} {S : St} {v : V} (hA : ∀ g w' u, M w g S.heap w' → V.rel g.ν v u → AtCode w' l0 l1 u) (hTb : Tabs w) (h : code_Heights.f k l0 l1 0 = some (r1, r2)) :
    Ok Tryz.prog w 11 [v, .s (.int .i64 0)] S fun v S' => ∃ x, v = .tup [x, .s (.int .i64 r2)] ∧ ((r1 = [] ∧ x = .s (.slice none 0 0) ∧ S' = S) ∨ (x = .slc S.next 0 r1.length none ∧ S' = ⟨(S.next, .row (r1.map fun n => .s (.int .i64 n)) 3 (some 1) false) :: S.heap, S.next + 1, S.low⟩ ∧ r1.length ≤ 9223372036854775807)) := by
  intro g w' us hM hr hu
  simp only [V.rels, V.rel] at hr
  obtain ⟨u, us, hr, ⟨_, _, rfl, rfl, rfl⟩, rfl⟩ := hr
  obtain ⟨A, c, A', c', rfl, q1, q2, q3, q4⟩ := hA g w' u hM hr
  refine callSem_of Tryz.func11 (by kernel_rfl) rfl ((code_Heights.calls k A c l0 A' c' l1 0 r1 r2 w' q3 q1 q4 q2 (tabs_below hTb hM.base) h).mono ?_)
  rintro e w2 ⟨v0, rfl, hR, hb⟩
  refine ⟨_, rfl, ?_⟩
  rcases ints_new hR hb hM hu with ⟨rfl, rfl⟩ | ⟨g', m1, m2, m3, m4⟩
  · refine ⟨_, _, ⟨_, rfl, .inl ⟨rfl, rfl, rfl⟩⟩, Nat.le_refl _, Nat.le_refl _, g, hM.under hb, Fr.under _ _ hb, ?_⟩
    simp only [V.rel]
    exact ⟨_, rels_cons rel_s (rels_singleton rel_s), rfl⟩
  · refine ⟨_, _, ⟨_, rfl, .inr ⟨rfl, rfl, m4⟩⟩, Nat.le_succ _, Nat.le_refl _, g', m1, m2, ?_⟩
    simp only [V.rel]
    exact ⟨_, rels_cons m3 (rels_singleton rel_s), rfl⟩
theorem setRange_one {α : Type} {l : List α} {off : Nat} {v : α} (h : off < l.length) : setRange l off [v] = l.set off v := by
  rw [setRange_cons _ _ _ _ h]
  simp [setRange]
theorem cntL_drop {l : List S30} {i : Nat} (h : i < l.length) (n : Int) : cntL (l.drop i) n = cntL (l.drop (i + 1)) (wrap64 (n + ((R3 l i).f5.length : Int))) := by
  rw [List.drop_eq_getElem_cons h, cntL]
  unfold R3
  simp [List.getD_eq_getElem?_getD, h]
theorem more_walk {k : Nat} (hT : Tab (whole w) w) (h0 : Kd.C k30 w A0 l0.length l0) (hc0 : l0.length ≤ c0) (h1 : Kd.C k36 w A1 l1.length l1) (hc1 : l1.length ≤ c1) (hTb : Tabs w) (hm : moreF k l0 l1 = some true) : Ok Tryz.prog w 7 [.s (.agg #[.slice A0 l0.length c0, .slice A1 l1.length c1])] ⟨[], 0, 0⟩ (fun v S' => v = .s (.bool true)) := by
  refine Ok.run hT Tryz.func7 (by kernel_rfl) rfl rfl rfl rfl ?_
  refine WpF.seq (WpF.row hT (by decide) (by decide) (ev ?_))
  refine WpF.seq (WpF.row hT (by decide) (by decide) (ev ?_))
  refine WpF.seq (WpF.seq (WpF.row hT (by decide) (by decide) (ev ?_)))
  refine WpF.block ?_
  refine WpF.loop (fun m F S => S = ⟨[(0, .row [.s (.slice A0 l0.length c0), .s (.slice A1 l1.length c1)] 25 none false)], 1, 0⟩ ∧ F 1 = .ptr 0 0 ∧ ∃ (i : Nat) (n : Int), m = l0.length - i ∧ i ≤ l0.length ∧ F 3 = .s (.int .i64 n) ∧ F 4 = .s (.int .i64 i) ∧ cntL (l0.drop i) n = cntL l0 0) l0.length ⟨rfl, rfl, 0, 0, rfl, Nat.zero_le _, rfl, rfl, rfl⟩ ?_
  rintro m F S ⟨rfl, f1, i, n, rfl, hi, f3, f4, hn⟩
  refine WpF.seq (WpF.seq (WpF.row hT (by decide) (by decide) (evh ?_)))
  by_cases hlt : i < l0.length
  · obtain ⟨k, off, rfl, hcell⟩ := rows30 h0 (by omega)
    obtain ⟨A5, c5, x5⟩ := hcell i (by omega) (by omega)
    rw [Int.toNat_natCast] at x5
    have g0 : (0 : Int) ≤ (i : Int) := by omega
    have g1 : (i : Int) < (l0.length : Int) := by omega
    refine WpF.cond (by decide) rfl (fun _ => WpF.skip ?_) (fun e => ?_)
    · refine WpF.seq (WpF.block (WpF.row hT (by decide) (by decide) (evh ?_)))
      refine WpF.row hT (by decide) (by decide) (evh ?_)
      have hmax := h0.2.1
      have hw : IntKind.i64.wrap ((i : Int) + 1) = ((i + 1 : Nat) : Int) := by rw [IntKind.wrap_i64]; omega
      refine ⟨l0.length - (i + 1), by omega, rfl, f1, i + 1, IntKind.i64.wrap (n + ((R3 l0 i).f5.length : Int)), rfl, hlt, rfl, by rw [← hw]; rfl, ?_⟩
      rw [← hn, cntL_drop hlt, IntWalk.i64_left]
    · simp at e; omega
  · have g1 : ¬ ((i : Int) < (l0.length : Int)) := by omega
    refine WpF.cond (by decide) rfl (fun e => absurd (of_decide_eq_true e) g1) (fun e => WpF.exit ?_)
    have hn' : n = cntL l0 0 := by rw [← hn, List.drop_eq_nil_of_le (by omega)]; rfl
    subst hn'
    clear hn
    unfold moreF at hm
    obtain ⟨e0, hCk, hm'⟩ := Option.bind_eq_some_iff.mp hm
    clear hm
    refine WpF.seq (WpF.seq (WpF.row hT (by decide) (by decide) (evh ?_)))
    refine SeqF.callE hT (by decide) (ok_check h0 hc0 h1 hc1 hTb hCk _) (by decide) rfl rfl rfl rfl ?_
    rintro v S' ⟨rfl, rfl⟩ _ _
    by_cases hz : e0 = 0
    case neg =>
      have hz1 : (e0 != 0) = true := by simp [hz]
      refine evh ?_
      refine WpF.cond (by decide) rfl (fun _ => ?_) (fun e => by cases e)
      refine WpF.seq (WpF.row hT (by decide) (by decide) (ev ?_))
      refine SeqF.callE hT (by decide) (ok_heads hTb _) (by decide) rfl rfl rfl rfl ?_
      rintro v S' ⟨rfl, rfl⟩ _ _
      refine ev ?_
      exact WpF.ret ⟨.inr rfl, evr trivial⟩
    subst hz
    rw [if_neg (by simp)] at hm'
    by_cases hn : 0 < l0.length ∧ l0.length ≤ 20000 ∧ 0 < (R3 l0 0).f5.length ∧ (R3 l0 0).f5.length ≤ 262144
    case neg => rw [if_pos hn] at hm'; cases hm'
    rw [if_neg (fun h => h hn)] at hm'
    have z1 : ((0 : Int) != 0) = false := rfl
    by_cases hg : cntL l0 0 ≥ 262144
    · have hg1 : decide (cntL l0 0 ≥ 262144) = true := decide_eq_true hg
      clear hm' hCk
      refine evh ?_
      refine WpF.cond (by decide) rfl (fun _ => ?_) (fun e => by cases e)
      refine WpF.seq (WpF.row hT (by decide) (by decide) (ev ?_))
      refine SeqF.callE hT (by decide) (ok_heads hTb _) (by decide) rfl rfl rfl rfl ?_
      rintro v S' ⟨rfl, rfl⟩ _ _
      refine ev ?_
      exact WpF.ret ⟨.inr rfl, evr trivial⟩
    rw [if_neg hg] at hm'
    have hg1 : decide (cntL l0 0 ≥ 262144) = false := decide_eq_false hg
    refine evh ?_
    refine WpF.cond (by decide) rfl (fun e => by cases e) (fun _ => WpF.skip ?_)
    clear f3 f4 hi hlt g1 e hCk hg1 hg z1
    obtain ⟨ka, off, cs, rfl, hka, hlen, hrow⟩ := C_rows h0 hn.1 (by decide)
    have hd : k30.sz = 6 := rfl
    rw [hd] at hlen hrow
    obtain ⟨f0, lr, rfl⟩ : ∃ f0 lr, l0 = f0 :: lr := by
      cases l0 with
      | nil => exact absurd hn.1 (by simp)
      | cons a b => exact ⟨a, b, rfl⟩
    have hrd : R3 (f0 :: lr) 0 = f0 := rfl
    rw [hrd] at hn
    obtain ⟨rows, hrows⟩ : ∃ rows, (cs.drop off).take ((f0 :: lr).length * 6) = rows := ⟨_, rfl⟩
    have hs0 : ∀ H, srcX (whole w) 6 (.s (.slice (some ⟨ka, off, none⟩) (f0 :: lr).length c0)) H = some ((f0 :: lr).length, rows.map .s) := fun H => by rw [← hrows]; exact srcX_base hka hlen H
    have hrl : rows.length = (f0 :: lr).length * 6 := by rw [← hrows, List.length_take, List.length_drop]; omega
    have hrow' : ∀ j p, (f0 :: lr)[j]? = some p → k30.K w p ((rows.drop (j * 6)).take 6) := by
      intro j p hj
      have := hrow j p hj
      have hjl := (List.getElem?_eq_some_iff.1 hj).1
      rw [← hrows]
      have e : (((cs.drop off).take ((f0 :: lr).length * 6)).drop (j * 6)).take 6 = (cs.drop (off + j * 6)).take 6 := by
        rw [List.drop_take, List.drop_drop, List.take_take]
        congr 1
        omega
      rw [e]
      exact this
    obtain ⟨A5, c5, hopen, hc5, hC5⟩ := k30_open (hrow' 0 f0 rfl)
    have hget : ∀ i, i < 6 → rows[i]? = ([.string f0.f0, .int .i64 f0.f1, .int .i64 f0.f2, .int .i64 f0.f3, .int .i64 f0.f4, .slice A5 f0.f5.length c5] : List Value)[i]? := by
      intro i hi
      rw [← hopen, Nat.zero_mul, List.drop_zero, List.getElem?_take_of_lt hi]
    have x5 : cellT (whole w) ka (off + 5) = some (.slice A5 f0.f5.length c5) := by
      have h1 := hget 5 (by omega)
      rw [← hrows, List.getElem?_take_of_lt (by have := hn.1; omega), List.getElem?_drop] at h1
      simp only [cellT, hka, Option.bind_some, h1]
      rfl
    obtain ⟨kc, ofc, cc, rfl, hkc, hlenc, hrowc⟩ := C_rows hC5 hn.2.2.1 (by decide)
    have hdc : k56.sz = 5 := rfl
    rw [hdc] at hlenc hrowc
    obtain ⟨crow, hcrow⟩ : ∃ crow, (cc.drop ofc).take (f0.f5.length * 5) = crow := ⟨_, rfl⟩
    have hs1 : ∀ H, srcX (whole w) 5 (.s (.slice (some ⟨kc, ofc, none⟩) f0.f5.length c5)) H = some (f0.f5.length, crow.map .s) := fun H => by rw [← hcrow]; exact srcX_base hkc hlenc H
    have hcl : crow.length = f0.f5.length * 5 := by rw [← hcrow, List.length_take, List.length_drop]; omega
    have hcrow' : ∀ j p, f0.f5[j]? = some p → k56.K w p ((crow.drop (j * 5)).take 5) := by
      intro j p hj
      have := hrowc j p hj
      have hjl := (List.getElem?_eq_some_iff.1 hj).1
      rw [← hcrow]
      have e : (((cc.drop ofc).take (f0.f5.length * 5)).drop (j * 5)).take 5 = (cc.drop (ofc + j * 5)).take 5 := by
        rw [List.drop_take, List.drop_drop, List.take_take]
        congr 1
        omega
      rw [e]
      exact this
    have g0 : (0 : Int) < ((f0 :: lr).length : Int) := by omega
    clear hrow hlen hka hrows hrowc hlenc hkc hcrow
    generalize hL : (f0 :: lr).length = L at *
    generalize hm5 : f0.f5.length = m5 at *
    have hL0 : ¬ L ≤ 0 := by omega
    have hr1 : roomOk 72 L = true := by
      simp only [roomOk, Bool.and_eq_true]
      exact ⟨Nat.ble_eq_true_of_le (by omega), Nat.ble_eq_true_of_le (by omega)⟩
    have hL5 : 6 ≤ L * 6 := by omega
    have hm0 : ¬ m5 ≤ 0 := by omega
    have hrm : roomOk 64 m5 = true := by
      simp only [roomOk, Bool.and_eq_true]
      exact ⟨Nat.ble_eq_true_of_le (by omega), Nat.ble_eq_true_of_le (by omega)⟩
    have hrm1 : roomOk 64 (m5 + 1) = true := by
      simp only [roomOk, Bool.and_eq_true]
      exact ⟨Nat.ble_eq_true_of_le (by omega), Nat.ble_eq_true_of_le (by omega)⟩
    have htk : (crow.map V.s).take (m5 * 5) = crow.map V.s := List.take_of_length_le (by simp [hcl])
    replace hrow' := Hide.mk hrow'
    replace hcrow' := Hide.mk hcrow'
    replace hget := Hide.mk hget
    replace hm' := Hide.mk hm'
    clear hopen hC5
    refine WpF.seq (WpF.row hT (by decide) (by decide) (evh ?_))
    refine WpF.seq (WpF.row hT (by decide) (by decide) (evh ?_))
    refine WpF.seq (WpF.drawE hT (by kernel_rfl) (by decide) noCall_ok (ks := [(3, 12), (0, 1), (0, 1), (0, 1)]) (ds := [[], [0], [], [], [3], [4], [5], [6], [2, 7], [], [9], [8, 10, 8], [1, 0, 1, 2, 3, 4, 5, 6, 7, 8, 9, 10, 11], [12, 0, 1, 2, 3, 4, 5, 6, 7, 8, 9, 10, 11], [13, 11, 11, 0, 1, 2, 3, 4, 5, 6, 7, 8, 9, 10, 11]])
      (ancs := [0, 1, 0, 0, 8, 24, 56, 120, 252, 0, 512, 2044, 4095, 8191, 16383]) (by kernel_rfl) fun hwf => evh ?_)
    have hm := hm'.out
    clear hm' hs0 hs1 hwf
    obtain ⟨⟨hs, ea⟩, hHa, hm⟩ := Option.bind_eq_some_iff.mp hm
    obtain ⟨ec, hCc, hm⟩ := Option.bind_eq_some_iff.mp hm
    simp only [Option.some.injEq, Bool.and_eq_true, beq_iff_eq, decide_eq_true_eq] at hm
    obtain ⟨rfl, rfl, hpos, hlast⟩ := hm
    generalize hR : setRange (rows.map V.s) 5 [.slc 18 0 (m5 + 1) none] = R
    have hR' : R = (rows.map V.s).set 5 (.slc 18 0 (m5 + 1) none) := by rw [← hR, setRange_one (by simp; omega)]
    have hD : ∀ (S2 : St), find 3 S2.heap = some (.row R 30 (some 6) false) → find 18 S2.heap = some (.row (crow.map .s ++ [.s (.int .i64 3), .s (.int .i64 0), .s (.int .i64 0), .s (.string (⟨#[]⟩ : ByteArray)), .s (.slice none 0 0)]) 56 (some 5) false) →
        ∀ g w' u, M w g S2.heap w' → V.rel g.ν (.agg [.slc 3 0 L none, .s (.slice A1 l1.length c1)]) u → AtCode w' (moreL (f0 :: lr)) l1 u := by
      intro S2 e3 eq g w' u hM hr
      have eq' : find 18 S2.heap = some (.row ((crow ++ ([.int .i64 3, .int .i64 0, .int .i64 0, .string (⟨#[]⟩ : ByteArray), .slice none 0 0] : List Value)).map V.s) 56 (some 5) false) := by rw [eq, List.map_append]; rfl
      simp only [V.rel, V.rels] at hr
      obtain ⟨_, ⟨_, _, ⟨k3, c3, v3, rfl⟩, ⟨_, _, rfl, rfl, rfl⟩, rfl⟩, rfl⟩ := hr
      obtain ⟨kq, cq, ysq, frq, vq, dq⟩ := lits_block hM eq'
      obtain ⟨k3', c3', o3, z1, z2, z3, xs, ys, fr3, x1, rfl, _, x4⟩ := hM.blk _ _ e3
      rw [v3] at z1
      cases z1
      have hxl := rels_length x1
      rw [hR', List.length_set, List.length_map] at hxl
      have cap3 : L ≤ c3 := by
        simp only at x4
        omega
      have capq : m5 + 1 ≤ cq := by
        obtain ⟨k, c, o, g1, g2, g3, xs, ys, fr, x1, rfl, x3, x4⟩ := hM.blk _ _ eq'
        rw [vq] at g1
        cases g1
        have hx := rels_length x1
        simp at hx x4
        omega
      have hx5 : xs[5]? = some (.slice (some ⟨kq, 0, none⟩) (m5 + 1) cq) := by
        obtain ⟨u, h1, h2⟩ := rels_get x1 (i := 5) (v := .slc 18 0 (m5 + 1) none) (by rw [hR', List.getElem?_set, if_pos rfl, if_pos (by simp; omega)])
        simp only [V.rel] at h2
        obtain ⟨k, c, h3, rfl⟩ := h2
        rw [vq] at h3
        cases h3
        exact h1
      have hxi : ∀ i u, i ≠ 5 → rows[i]? = some u → xs[i]? = some u := by
        intro i u hi hu
        obtain ⟨u', h1, h2⟩ := rels_get x1 (i := i) (v := .s u) (by rw [hR', List.getElem?_set, if_neg (by omega), List.getElem?_map, hu]; rfl)
        simp only [V.rel] at h2
        rw [h1, h2]
      have lw : (moreL (f0 :: lr)).length = L := by rw [moreL_length, hL]
      have lf : (f0.f5 ++ [popI]).length = m5 + 1 := by simp [hm5]
      refine ⟨some ⟨k3, 0, none⟩, c3, A1, c1, by rw [lw]; rfl, by rw [lw]; exact cap3, hc1, ?_, Kd.C_below h1 hM.base⟩
      refine C_of_block z3 rfl (by rw [lw]; omega) fun j p hj => ?_
      have hd6 : k30.sz = 6 := rfl
      cases j with
      | zero =>
        have hp : p = { f0 with f5 := f0.f5 ++ [popI] } := (Option.some.inj hj).symm
        subst hp
        refine ⟨[.string f0.f0, .int .i64 f0.f1, .int .i64 f0.f2, .int .i64 f0.f3, .int .i64 f0.f4, .slice (some ⟨kq, 0, none⟩) (f0.f5 ++ [popI]).length cq], rfl, ?_, fun i u hu => ?_⟩
        · refine ⟨[.string f0.f0], _, rfl, rfl, ⟨[.int .i64 f0.f1], _, rfl, rfl, ⟨[.int .i64 f0.f2], _, rfl, rfl, ⟨[.int .i64 f0.f3], _, rfl, rfl, ⟨[.int .i64 f0.f4], _, rfl, rfl, ⟨_, cq, rfl, by rw [lf]; exact capq, ?_⟩⟩⟩⟩⟩⟩
          refine C_of_block dq rfl (by rw [lf]; omega) fun j p hj => ?_
          have hd5 : k56.sz = 5 := rfl
          rw [hd5]
          rcases Nat.lt_or_ge j f0.f5.length with hjl | hjl
          · rw [List.getElem?_append_left hjl] at hj
            refine ⟨(crow.drop (j * 5)).take 5, k56.K_len (hcrow'.out _ _ hj), k56.K_below hM.base (hcrow'.out _ _ hj), fun i u hu => ?_⟩
            have hi : i < 5 := by have := (List.getElem?_eq_some_iff.1 hu).1; simp at this; omega
            rw [List.getElem?_take_of_lt hi, List.getElem?_drop] at hu
            have hlt := (List.getElem?_eq_some_iff.1 hu).1
            rw [Nat.zero_add, List.getElem?_append_left (by simp; omega), List.getElem?_append_left hlt]
            exact hu
          · rw [List.getElem?_append_right hjl] at hj
            have hj0 : j = f0.f5.length := by
              have := (List.getElem?_eq_some_iff.1 hj).1
              simp at this
              omega
            subst hj0
            simp at hj
            subst hj
            refine ⟨[.int .i64 3, .int .i64 0, .int .i64 0, .string (⟨#[]⟩ : ByteArray), .slice none 0 0], rfl, ?_, fun i u hu => ?_⟩
            · exact ⟨[.int .i64 3], _, rfl, rfl, ⟨[.int .i64 0], _, rfl, rfl, ⟨[.int .i64 0], _, rfl, rfl, ⟨[.string (⟨#[]⟩ : ByteArray)], _, rfl, rfl, ⟨none, 0, rfl, Nat.zero_le _, rfl, Nat.zero_le _, fun h => absurd h (Nat.lt_irrefl _)⟩⟩⟩⟩⟩
            · have hi : i < 5 := by have := (List.getElem?_eq_some_iff.1 hu).1; simpa using this
              rw [Nat.zero_add, List.getElem?_append_left (by simp; omega), List.getElem?_append_right (by omega), hcl, hm5, show m5 * 5 + i - m5 * 5 = i by omega]
              exact hu
        · have hi : i < 6 := by have := (List.getElem?_eq_some_iff.1 hu).1; simpa using this
          rw [hd6, Nat.zero_mul, Nat.zero_add, Nat.zero_add, List.getElem?_append_left (by omega)]
          by_cases h5 : i = 5
          · subst h5
            rw [hx5, ← lf]
            exact hu
          · refine hxi i u h5 ?_
            rw [hget.out i hi]
            have : i = 0 ∨ i = 1 ∨ i = 2 ∨ i = 3 ∨ i = 4 := by omega
            rcases this with rfl | rfl | rfl | rfl | rfl <;> exact hu
      | succ j =>
        have hj' : (f0 :: lr)[j + 1]? = some p := hj
        refine ⟨(rows.drop ((j + 1) * 6)).take 6, ?_, k30.K_below hM.base (hrow'.out _ _ hj'), fun i u hu => ?_⟩
        · exact k30.K_len (hrow'.out _ _ hj')
        · have hi : i < 6 := by have := (List.getElem?_eq_some_iff.1 hu).1; simp at this; omega
          rw [List.getElem?_take_of_lt hi, List.getElem?_drop] at hu
          have hlt := (List.getElem?_eq_some_iff.1 hu).1
          rw [hd6, Nat.zero_add, List.getElem?_append_left (by omega)]
          exact hxi _ u (by omega) hu
    replace hD := Hide.mk hD
    clear hR hR'
    refine WpF.seq (WpF.row hT (by decide) (by decide) (evh ?_))
    refine SeqF.callE hT (by decide) (ok_heightsG (hD.out _ rfl rfl) hTb hHa) (by decide) rfl rfl rfl rfl ?_
    rintro v S1 ⟨x, rfl, hx⟩ _ _
    rcases hx with ⟨rfl, _, _⟩ | ⟨rfl, rfl, hmx⟩
    · simp at hpos
    have hwr : IntKind.i64.wrap ((hs.length : Int) - 1) = ((hs.length - 1 : Nat) : Int) := by rw [IntKind.wrap_i64]; omega
    have q0 : (0 : Int) ≤ ((hs.length - 1 : Nat) : Int) := by omega
    have q1 : ((hs.length - 1 : Nat) : Int) < (hs.length : Int) := by omega
    have q2 : decide ((hs.length : Int) > 0) = true := decide_eq_true hpos
    have q3 : (hs.map fun n => V.s (.int .i64 n))[hs.length - 1]? = some (.s (.int .i64 (-1))) := by
      have : hs.length - 1 < hs.length := by omega
      rw [List.getElem?_map, List.getElem?_eq_getElem this]
      unfold rd at hlast
      rw [show ((hs.length : Int) - 1).toNat = hs.length - 1 by omega] at hlast
      simp [List.getD_eq_getElem?_getD, this] at hlast
      simp [hlast]
    refine evh ?_
    refine WpF.seq (WpF.row hT (by decide) (by decide) (evh ?_))
    refine SeqF.callE hT (by decide) (ok_checkG (hD.out _ rfl rfl) hTb hCc) (by decide) rfl rfl rfl rfl ?_
    rintro v S' ⟨rfl, rfl⟩ _ _
    refine evh ?_
    refine SeqF.callE hT (by decide) (ok_heads hTb _) (by decide) rfl rfl rfl rfl ?_
    rintro v S' ⟨rfl, rfl⟩ _ _
    refine evh ?_
    exact WpF.ret ⟨.inr rfl, evr trivial⟩
end
end Go.Proofs.YtlbcnacfgickcaaGreatDoor.Sim
