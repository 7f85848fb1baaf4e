/- value.Large: the value is weighed by a scale that the calls turn. -/
import Derived.Test.YtmpmbnmldmpmiaaGreatDoorSimTy
import Derived.Test.YtmpmbnmldmpmiaaGreatDoorSimKd
import Derived.Test.YtmpmbnmldmpmiaaGreatDoorA0
set_option linter.unusedVariables false
set_option linter.unusedSimpArgs false
namespace Go.Proofs.YtmpmbnmldmpmiaaGreatDoor.A
open Go.RowKit Go.Proofs.YtmpmbnmldmpmiaaGreatDoorW.PrintWords Go.Proofs.YtmpmbnmldmpmiaaGreatDoorW.PrintLast Go.Proofs.YtmpmbnmldmpmiaaGreatDoorW.PrintMore
/-- Keys put on the scale. -/
def keysL : List ByteArray → Int → Int
  | [], b => b
  | x :: r, b => keysL r (wrap64 (b - (x.size : Int)))
mutual
def value_put.f : Nat → ByteArray → List S27 → List ByteArray → Int → Int → Int → Option (Bool × Int × Int)
  | 0, _, _, _, _, _, _ => none
  | k + 1, s, l, ks, n, b, d => if wrap64 (n - 1) < 0 ∨ keysL ks (wrap64 (b - (s.size : Int))) < 0 ∨ d = 0 then some (false, wrap64 (n - 1), keysL ks (wrap64 (b - (s.size : Int)))) else value_put.l k l (wrap64 (n - 1)) (keysL ks (wrap64 (b - (s.size : Int)))) d
def value_put.l : Nat → List S27 → Int → Int → Int → Option (Bool × Int × Int)
  | 0, _, _, _, _ => none
  | _ + 1, [], n, b, _ => some (true, n, b)
  | k + 1, x :: r, n, b, d => (value_put.f k x.f2 x.f3 x.f4 n b (wrap64 (d - 1))).bind fun p => if p.1 = true then value_put.l k r p.2.1 p.2.2 d else some (false, p.2.1, p.2.2)
end
def value_Large.f (k : Nat) (a0_0 : Int) (a0_1 : Nat) (a0_2 : ByteArray) (l0_3 : List S27) (l0_4 : List ByteArray) : Option Bool := (value_put.f k a0_2 l0_3 l0_4 65536 1048576 10000).bind fun p => some (!p.1)
end Go.Proofs.YtmpmbnmldmpmiaaGreatDoor.A
namespace Go.Proofs.YtmpmbnmldmpmiaaGreatDoor.Sim
open Go Go.RowKit Go.Proofs.YtmpmbnmldmpmiaaGreatDoor.A Go.Proofs.YtmpmbnmldmpmiaaGreatDoorW.PrintWords Go.Proofs.YtmpmbnmldmpmiaaGreatDoorW.PrintLast Go.Proofs.YtmpmbnmldmpmiaaGreatDoorW.PrintMore
theorem rows27 {w : World} {A : Option Addr} {l : List S27} (h : Kd.C k27 w A l.length l) (hl : 0 < l.length) : ∃ k off cs, A = some ⟨k, off, none⟩ ∧ whole w k = some cs ∧ ∀ (j : Nat) x, l[j]? = some x → ∃ A3 c3 A4 c4, (cs.drop (off + j * 5)).take 5 = [.int .i64 x.f0, .float .f64 x.f1, .string x.f2, .slice A3 x.f3.length c3, .slice A4 x.f4.length c4] ∧ x.f3.length ≤ c3 ∧ Kd.C k27 w A3 x.f3.length x.f3 ∧ x.f4.length ≤ c4 ∧ Kd.C Kd.string w A4 x.f4.length x.f4 := by
  obtain ⟨k, off, cs, rfl, hw, _, hc⟩ := C_rows h hl (show 0 < k27.sz by decide)
  exact ⟨k, off, cs, rfl, hw, fun j x hj => k27_open (hc j x hj)⟩
theorem rowsStr {w : World} {A : Option Addr} {l : List ByteArray} (h : Kd.C Kd.string w A l.length l) (hl : 0 < l.length) : ∃ k off, A = some ⟨k, off, none⟩ ∧ ∀ (j : Nat) x, l[j]? = some x → cellT (whole w) k (off + j) = some (.string x) := by
  obtain ⟨k, off, cs, rfl, hw, hle, hc⟩ := C_rows h hl (show 0 < Kd.string.sz by decide)
  refine ⟨k, off, rfl, fun j x hj => ?_⟩
  have h1 : (cs.drop (off + j * 1)).take 1 = [.string x] := hc j x hj
  have h2 : ((cs.drop (off + j * 1)).take 1)[0]? = some (.string x) := by rw [h1]; rfl
  rw [List.getElem?_take_of_lt (by omega), List.getElem?_drop, Nat.mul_one, Nat.add_zero] at h2
  unfold cellT
  rw [hw]
  exact h2
theorem find_one {N id : Nat} {A B : Blk} (h : ¬ N = id) : ∀ i b, find i [(id, B)] = some b → find i [(N, A), (id, B)] = some b := by
  intro i b hb
  simp only [find] at hb ⊢
  by_cases e : Nat.beq N i = true
  · have e' := Nat.eq_of_beq_eq_true e
    subst e'
    have : ¬ Nat.beq id N = true := fun e2 => h (Nat.eq_of_beq_eq_true e2).symm
    rw [if_neg this] at hb
    cases hb
  · rw [if_neg e]; exact hb
theorem find_head {id : Nat} {B : Blk} {H : Heap} : ∀ i b, find i [(id, B)] = some b → find i ((id, B) :: H) = some b := by
  intro i b hb
  simp only [find] at hb ⊢
  by_cases e : Nat.beq id i = true
  · rw [if_pos e] at hb ⊢; exact hb
  · rw [if_neg e] at hb; cases hb
section
variable {w : World}
set_option maxRecDepth 100000 in
theorem put_walk (hT : Tab (whole w) w) : ∀ (k : Nat) (s : ByteArray) (l : List S27) (ks : List ByteArray) (n b d : Int) (r : Bool × Int × Int), value_put.f k s l ks n b d = some r → ∀ (kd : Int) (nm : Nat) (A3 : Option Addr) (c3 : Nat) (A4 : Option Addr) (c4 : Nat), Kd.C k27 w A3 l.length l → l.length ≤ c3 → Kd.C Kd.string w A4 ks.length ks → ks.length ≤ c4 →
    ∀ id N L, id < N → Ok Tryz.prog w 60 [.ptr id 0, .s (.agg #[.int .i64 kd, .float .f64 nm, .string s, .slice A3 l.length c3, .slice A4 ks.length c4]), .s (.int .i64 d)] ⟨[(id, .row [.s (.int .i64 n), .s (.int .i64 b)] 62 none .no)], N, L⟩ fun v S' => v = .s (.bool r.1) ∧ S'.heap = [(id, .row [.s (.int .i64 r.2.1), .s (.int .i64 r.2.2)] 62 none .no)] := by
  intro k
  induction k using Nat.strongRecOn with
  | _ k ih =>
  intro s l ks n b d r h kd nm A3 c3 A4 c4 h3 hc3 h4 hc4 id N L hid
  cases k with
  | zero => simp [value_put.f] at h
  | succ k =>
  rw [value_put.f] at h
  refine Ok.run hT Tryz.func60 (by kernel_rfl) rfl rfl rfl rfl ?_
  refine WpF.seq (WpF.row hT (by decide) (by decide) (ev ?_))
  have e1 : ¬ N = id := by omega
  have e2 : Nat.beq id id = true := Nat.beq_refl id
  have e3 : id < N + 1 := by omega
  have e4 : id ≤ N := by omega
  have e5 : id < N + 1 + 1 + 1 + 1 + 1 + 1 + 1 + 1 := by omega
  have e6 : id ≤ N + 1 := by omega
  refine WpF.seq (WpF.row hT (by decide) (by decide) (evh ?_))
  refine WpF.seq (WpF.drawE hT (by kernel_rfl) (by decide) noCall_ok (ks := [(2, 7), (0, 1), (0, 1), (0, 1), (0, 1)])
    (ds := [[], [0], [1], [2], [], [4], [5], [3, 6], [0, 0, 1, 2, 3, 4, 5, 6, 7], [8, 0, 1, 2, 3, 4, 5, 6, 7], [9, 7, 0, 1, 2, 3, 4, 5, 6, 7]])
    (ancs := [0, 1, 3, 7, 0, 16, 48, 127, 255, 511, 1023]) (by kernel_rfl) fun hnew => evh ?_)
  refine WpF.seq (WpF.seq (WpF.row hT (by decide) (by decide) (evh ?_)))
  refine WpF.block ?_
  refine WpF.loop (fun m F S => ∃ (i : Nat) (b' : Int) (N' L' : Nat), S = ⟨[(N, .row [.s (.int .i64 kd), .s (.float .f64 nm), .s (.string s), .s (.slice A3 l.length c3), .s (.slice A4 ks.length c4)] 27 none .no), (id, .row [.s (.int .i64 (IntKind.i64.wrap (n - 1))), .s (.int .i64 b')] 62 none .no)], N', L'⟩ ∧ N < N' ∧
    F 0 = .ptr id 0 ∧ F 2 = .s (.int .i64 d) ∧ F 4 = .ptr N 0 ∧ F 29 = .s (.slice A4 ks.length c4) ∧ F 30 = .s (.int .i64 ks.length) ∧ F 31 = .s (.int .i64 i) ∧ i ≤ ks.length ∧ m = ks.length - i ∧ keysL (ks.drop i) b' = keysL ks (wrap64 (b - (s.size : Int)))) ks.length
    ⟨0, IntKind.i64.wrap (b - (s.size : Int)), _, _, rfl, by omega, rfl, rfl, rfl, rfl, rfl, rfl, Nat.zero_le _, rfl, by rw [List.drop_zero, IntWalk.i64_left]⟩ ?_
  rintro m F S ⟨i, b', N', L', rfl, hN', f0, f2, f4, f29, f30, f31, hi, rfl, hb'⟩
  have e7 : id < N' := by omega
  refine WpF.seq (WpF.row hT (by decide) (by decide) (evh ?_))
  by_cases hlt : i < ks.length
  · obtain ⟨k', off, rfl, hcell⟩ := rowsStr h4 (by omega)
    have x0 := hcell i _ (List.getElem?_eq_getElem hlt)
    have x1 : cellT (whole w) k' (off + i * 1) = some (.string ks[i]) := by rw [Nat.mul_one]; exact x0
    have g0 : (0 : Int) ≤ (i : Int) := by omega
    have g1 : (i : Int) < (ks.length : Int) := by omega
    refine WpF.seq (WpF.cond (by decide) rfl (fun _ => WpF.skip ?_) (fun e => ?_))
    · refine WpF.seq (WpF.block (WpF.seq (WpF.row hT (by decide) (by decide) (evh ?_))))
      refine WpF.row hT (by decide) (by decide) (evh ?_)
      refine WpF.row hT (by decide) (by decide) (evh ?_)
      have hmax := h4.2.1
      have hw : IntKind.i64.wrap ((i : Int) + 1) = ((i + 1 : Nat) : Int) := by rw [IntKind.wrap_i64]; omega
      refine ⟨ks.length - (i + 1), by omega, i + 1, IntKind.i64.wrap (b' - (ks[i].size : Int)), _, _, rfl, hN', f0, f2, f4, f29, f30, by rw [← hw]; rfl, hlt, rfl, ?_⟩
      rw [← hb', List.drop_eq_getElem_cons hlt, keysL, IntWalk.i64_left]
    · simp at e; omega
  · have g1 : ¬ ((i : Int) < (ks.length : Int)) := by omega
    refine WpF.seq (WpF.cond (by decide) rfl (fun e => absurd (of_decide_eq_true e) g1) (fun e => WpF.exit ?_))
    rw [List.drop_eq_nil_of_le (by omega), keysL] at hb'
    subst hb'
    rw [← IntWalk.i64_left, ← IntWalk.i64_left, IntWalk.i64_left (b - (s.size : Int))] at h
    generalize keysL ks (wrap64 (b - (s.size : Int))) = b2 at h ⊢
    generalize IntKind.i64.wrap (n - 1) = n2 at h ⊢
    by_cases hst : n2 < 0 ∨ b2 < 0 ∨ d = 0
    · rw [if_pos hst] at h
      cases h
      by_cases c1 : n2 < 0
      · have d1 : decide (n2 < 0) = true := decide_eq_true c1
        refine WpF.seq (WpF.seq (WpF.row hT (by decide) (by decide) (evh ?_)))
        refine WpF.cond (by decide) rfl (fun _ => ?_) (fun e => by cases e)
        refine WpF.seq (WpF.row hT (by decide) (by decide) (ev ?_))
        exact WpF.forget (S2 := ⟨[(id, _)], _, _⟩) (find_one e1) rfl rfl (WpF.ret ⟨.inr rfl, evr trivial⟩)
      have d1 : decide (n2 < 0) = false := decide_eq_false c1
      by_cases c2 : b2 < 0
      · have d2 : decide (b2 < 0) = true := decide_eq_true c2
        refine WpF.seq (WpF.seq (WpF.row hT (by decide) (by decide) (evh ?_)))
        refine WpF.cond (by decide) rfl (fun _ => ?_) (fun e => by cases e)
        refine WpF.seq (WpF.row hT (by decide) (by decide) (ev ?_))
        exact WpF.forget (S2 := ⟨[(id, _)], _, _⟩) (find_one e1) rfl rfl (WpF.ret ⟨.inr rfl, evr trivial⟩)
      have d2 : decide (b2 < 0) = false := decide_eq_false c2
      obtain rfl : d = 0 := by omega
      refine WpF.seq (WpF.seq (WpF.row hT (by decide) (by decide) (evh ?_)))
      refine WpF.cond (by decide) rfl (fun _ => ?_) (fun e => by cases e)
      refine WpF.seq (WpF.row hT (by decide) (by decide) (ev ?_))
      exact WpF.forget (S2 := ⟨[(id, _)], _, _⟩) (find_one e1) rfl rfl (WpF.ret ⟨.inr rfl, evr trivial⟩)
    · rw [if_neg hst] at h
      have d1 : decide (n2 < 0) = false := decide_eq_false (by omega)
      have d2 : decide (b2 < 0) = false := decide_eq_false (by omega)
      have d3 : (d == 0) = false := by simp; omega
      refine WpF.seq (WpF.seq (WpF.row hT (by decide) (by decide) (evh ?_)))
      refine WpF.cond (by decide) rfl (fun e => by cases e) (fun _ => WpF.skip ?_)
      refine WpF.seq (WpF.seq (WpF.row hT (by decide) (by decide) (evh ?_)))
      refine WpF.forget (S2 := ⟨[(id, _)], _, _⟩) (find_one e1) rfl rfl (WpF.block ?_)
      refine WpF.loop (fun m F S => ∃ (i j : Nat) (n b : Int) (N' L' : Nat), S = ⟨[(id, .row [.s (.int .i64 n), .s (.int .i64 b)] 62 none .no)], N', L'⟩ ∧ id < N' ∧
        F 0 = .ptr id 0 ∧ F 2 = .s (.int .i64 d) ∧ F 62 = .s (.slice A3 l.length c3) ∧ F 63 = .s (.int .i64 l.length) ∧ F 64 = .s (.int .i64 i) ∧ i ≤ l.length ∧ m = l.length - i ∧ j ≤ k ∧ value_put.l j (l.drop i) n b d = some r) l.length
        ⟨0, k, n2, b2, _, _, rfl, e7, f0, f2, rfl, rfl, rfl, Nat.zero_le _, rfl, Nat.le_refl _, h⟩ ?_
      clear f0 f2 f4 f29 f30 f31 h hst
      rintro m F S ⟨i, j, n, b, N', L', rfl, hN', f0, f2, f62, f63, f64, hi, rfl, hj, h⟩
      refine WpF.seq (WpF.row hT (by decide) (by decide) (evh ?_))
      by_cases hlt : i < l.length
      · obtain ⟨k', off, cs, rfl, hw, hcell⟩ := rows27 h3 (by omega)
        obtain ⟨A3', c3', A4', c4', x0, q1, q2, q3, q4⟩ := hcell i _ (List.getElem?_eq_getElem hlt)
        have x1 : ((cs.map V.s).drop (off + i * 5)).take 5 = [.s (.int .i64 l[i].f0), .s (.float .f64 l[i].f1), .s (.string l[i].f2), .s (.slice A3' l[i].f3.length c3'), .s (.slice A4' l[i].f4.length c4')] := by
          rw [← List.map_drop, ← List.map_take, x0]
          rfl
        have g0 : (0 : Int) ≤ (i : Int) := by omega
        have g1 : (i : Int) < (l.length : Int) := by omega
        have e8 : ¬ N' = id := by omega
        have e9 : id < N' + 1 := by omega
        refine WpF.seq (WpF.cond (by decide) rfl (fun _ => WpF.skip ?_) (fun e => ?_))
        · refine WpF.seq (WpF.block (WpF.seq (WpF.row hT (by decide) (by decide) (evh ?_))))
          refine WpF.seq (WpF.row hT (by decide) (by decide) (evh ?_))
          cases j with
          | zero => simp [value_put.l] at h
          | succ j =>
          rw [List.drop_eq_getElem_cons hlt, value_put.l] at h
          obtain ⟨⟨ok, n3, b3⟩, hp, hq⟩ := Option.bind_eq_some_iff.mp h
          rw [← IntWalk.i64_left] at hp
          refine SeqF.callE hT (by decide) (Ok.forget (S2 := ⟨[(id, _)], _, _⟩) (find_one e8) rfl rfl (ih j (by omega) _ _ _ _ _ _ _ hp _ _ _ _ _ _ q2 q1 q4 q3 id _ _ e9)) (by decide) rfl rfl rfl rfl ?_
          rintro v ⟨H1, N1, L1⟩ ⟨rfl, hH⟩ hn1 hl1
          cases hH
          refine evh ?_
          cases ok with
          | true =>
            refine WpF.cond (by decide) rfl (fun e => by cases e) (fun _ => WpF.skip ?_)
            refine WpF.row hT (by decide) (by decide) (evh ?_)
            have hmax := h3.2.1
            have hwr : IntKind.i64.wrap ((i : Int) + 1) = ((i + 1 : Nat) : Int) := by rw [IntKind.wrap_i64]; omega
            rw [if_pos rfl] at hq
            exact ⟨l.length - (i + 1), by omega, i + 1, j, n3, b3, N1, _, rfl, Nat.lt_of_lt_of_le e9 hn1, f0, f2, f62, f63, by rw [← hwr]; rfl, hlt, rfl, by omega, hq⟩
          | false =>
            rw [if_neg (by simp)] at hq
            cases hq
            refine WpF.cond (by decide) rfl (fun _ => ?_) (fun e => by cases e)
            refine WpF.seq (WpF.row hT (by decide) (by decide) (ev ?_))
            exact WpF.ret ⟨.inr rfl, evr trivial⟩
        · simp at e; omega
      · have g1 : ¬ ((i : Int) < (l.length : Int)) := by omega
        refine WpF.seq (WpF.cond (by decide) rfl (fun e => absurd (of_decide_eq_true e) g1) (fun e => WpF.exit ?_))
        cases j with
        | zero => simp [value_put.l] at h
        | succ j =>
        rw [List.drop_eq_nil_of_le (by omega), value_put.l] at h
        cases h
        refine WpF.seq (WpF.row hT (by decide) (by decide) (ev ?_))
        exact WpF.ret ⟨.inr rfl, evr trivial⟩
set_option maxRecDepth 100000 in
theorem large_walk {k : Nat} {kd : Int} {nm : Nat} {s : ByteArray} {A3 : Option Addr} {c3 : Nat} {l : List S27} {A4 : Option Addr} {c4 : Nat} {ks : List ByteArray} {r : Bool} (hT : Tab (whole w) w) (h3 : Kd.C k27 w A3 l.length l) (hc3 : l.length ≤ c3) (h4 : Kd.C Kd.string w A4 ks.length ks) (hc4 : ks.length ≤ c4) (h : value_Large.f k kd nm s l ks = some r) :
    Ok Tryz.prog w 18 [.s (.agg #[.int .i64 kd, .float .f64 nm, .string s, .slice A3 l.length c3, .slice A4 ks.length c4])] ⟨[], 0, 0⟩ fun v S' => v = .s (.bool r) := by
  unfold value_Large.f at h
  obtain ⟨⟨ok, n3, b3⟩, hp, hq⟩ := Option.bind_eq_some_iff.mp h
  cases hq
  refine Ok.run hT Tryz.func18 (by kernel_rfl) rfl rfl rfl rfl ?_
  refine WpF.seq (WpF.row hT (by decide) (by decide) (ev ?_))
  refine WpF.seq (WpF.row hT (by decide) (by decide) (ev ?_))
  refine WpF.seq (WpF.row hT (by decide) (by decide) (ev ?_))
  refine SeqF.callE hT (by decide) (Ok.forget (S2 := ⟨[(1, _)], _, _⟩) find_head rfl rfl (put_walk hT _ _ _ _ _ _ _ _ hp _ _ _ _ _ _ h3 hc3 h4 hc4 1 2 _ (by decide))) (by decide) rfl rfl rfl rfl ?_
  rintro v ⟨H1, N1, L1⟩ ⟨rfl, hH⟩ hn1 hl1
  cases hH
  refine evh ?_
  exact WpF.ret ⟨.inr rfl, evr trivial⟩
end
end Go.Proofs.YtmpmbnmldmpmiaaGreatDoor.Sim
namespace Go.Proofs.YtmpmbnmldmpmiaaGreatDoor.A
open Go.RowKit Go.Proofs.YtmpmbnmldmpmiaaGreatDoorW.PrintWords Go.Proofs.YtmpmbnmldmpmiaaGreatDoorW.PrintLast Go.Proofs.YtmpmbnmldmpmiaaGreatDoorW.PrintMore
theorem value_Large.calls (k : Nat) (a0_0 : Int) (a0_1 : Nat) (a0_2 : ByteArray) (A0_3 : Option Addr) (c0_3 : Nat) (l0_3 : List S27) (A0_4 : Option Addr) (c0_4 : Nat) (l0_4 : List ByteArray) (r : Bool) (w : World) (hr0_3 : Kd.C k27 w A0_3 l0_3.length l0_3) (hc0_3 : l0_3.length ≤ c0_3) (hr0_4 : Kd.C Kd.string w A0_4 l0_4.length l0_4) (hc0_4 : l0_4.length ≤ c0_4) (h : value_Large.f k a0_0 a0_1 a0_2 l0_3 l0_4 = some r) :
    Calls Tryz.prog 18 #[.agg #[.int .i64 a0_0, .float .f64 a0_1, .string a0_2, .slice A0_3 l0_3.length c0_3, .slice A0_4 l0_4.length c0_4]] w fun e w' => e = .returned (.bool r) ∧ Below w.heap.size w w' := by
  refine (Sim.Ok.calls (us := [.agg #[.int .i64 a0_0, .float .f64 a0_1, .string a0_2, .slice A0_3 l0_3.length c0_3, .slice A0_4 l0_4.length c0_4]]) (Sim.large_walk (Sim.whole_tab w) hr0_3 hc0_3 hr0_4 hc0_4 h) (Sim.rels_singleton Sim.rel_s) Tryz.func18 (by kernel_rfl) rfl).mono fun e W' ⟨u, v, S', ν, he, hv, hr, bel⟩ => ?_
  subst hv
  simp only [Sim.V.rel] at hr
  subst hr
  exact ⟨he, bel⟩
end Go.Proofs.YtmpmbnmldmpmiaaGreatDoor.A
