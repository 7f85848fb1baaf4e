/- Texts of this claim, put together. -/
import Derived.Test.YtmpmbnmldmpmiaaGreatDoorCmpA
import Derived.Test.YtmpmbnmldmpmiaaGreatDoorSimW
import Derived.Test.YtmpmbnmldmpmiaaGreatDoorPlaces
set_option linter.unusedVariables false
set_option linter.unusedSimpArgs false
set_option maxRecDepth 100000
namespace Go.Proofs.YtmpmbnmldmpmiaaGreatDoor.Sim
open Go Go.RowKit Go.Proofs.YtmpmbnmldmpmiaaGreatDoor.A Go.Proofs.YtmpmbnmldmpmiaaGreatDoorW.PrintWords Go.Proofs.YtmpmbnmldmpmiaaGreatDoorW.PrintLast Go.Proofs.YtmpmbnmldmpmiaaGreatDoorW.PrintMore
/-- From place i on so many things more; z: what comes behind them. -/
def rowsL (f : Nat → Option Int) (z : Int) : Nat → Nat → Option Int
  | 0, _ => some z
  | k + 1, i => (f i).bind fun c => if c = 0 then rowsL f z k (i + 1) else some c
def rowsV (f : Nat → Option Int) (n m : Nat) : Option Int := rowsL f (numbersL (FloatKind.f64.nearest n) (FloatKind.f64.nearest m)) (min n m) 0
set_option maxHeartbeats 1000000 in
theorem rows_ok {b : Bs} {n m : Nat} {g : FuncId} {caps : List V} {f : Nat → Option Int} {r : Int} (hn : n ≤ 281474976710656) (hr : rowsV f n m = some r) (H : Heap) (N : Nat)
    (hf : ∀ i c, i < n → i < m → f i = some c → ∀ L, Ok Tryz.prog b g (V.s (.int .i64 (i : Int)) :: caps) ⟨H, N, L⟩ fun v S' => v = .s (.int .i64 c) ∧ S' = ⟨H, N, L⟩) (L : Nat) :
    Ok Tryz.prog b 64 [.s (.int .i64 n), .s (.int .i64 m), .fn g [] caps] ⟨H, N, L⟩ fun v S' => ∃ x, v = .s x ∧ x = .int .i64 r ∧ S' = ⟨H, N, L⟩ := by
  have hT : Tab (whole b.v) b := whole_tab b
  refine Ok.runQ hT Tryz.func64 (by kernel_rfl) rfl rfl rfl rfl ?_
  first | refine WpF.row hT (by decide) (by decide) (ev ?_) | refine WpF.seq (WpF.row hT (by decide) (by decide) (ev ?_)) | refine WpF.seq (WpF.seq (WpF.row hT (by decide) (by decide) (ev ?_))) | refine WpF.seq (WpF.seq (WpF.seq (WpF.row hT (by decide) (by decide) (ev ?_))))
  have hmin : (if (m : Int) < (n : Int) then (m : Int) else (n : Int)) = ((min n m : Nat) : Int) := by
    split <;> omega
  unfold rowsV at hr
  have q1 : min n m ≤ n := Nat.min_le_left _ _
  have q2 : min n m ≤ m := Nat.min_le_right _ _
  generalize min n m = M at hmin hr q1 q2
  first | refine WpF.row hT (by decide) (by decide) (evh ?_) | refine WpF.seq (WpF.row hT (by decide) (by decide) (evh ?_)) | refine WpF.seq (WpF.seq (WpF.row hT (by decide) (by decide) (evh ?_))) | refine WpF.seq (WpF.seq (WpF.seq (WpF.row hT (by decide) (by decide) (evh ?_))))
  first | refine WpF.block ?_ | refine WpF.seq (WpF.block ?_) | refine WpF.seq (WpF.seq (WpF.block ?_)) | refine WpF.seq (WpF.seq (WpF.seq (WpF.block ?_)))
  refine WpF.loop (fun k F S => ∃ (i : Nat), S = ⟨H, N, N⟩ ∧ F 0 = .s (.int .i64 n) ∧ F 1 = .s (.int .i64 m) ∧ F 2 = .fn g [] caps ∧ F 11 = .s (.int .i64 ((M : Nat) : Int)) ∧ F 12 = .s (.int .i64 (i : Int)) ∧ i ≤ M ∧ k = M - i ∧ rowsL f (numbersL (FloatKind.f64.nearest n) (FloatKind.f64.nearest m)) (M - i) i = some r) (M) ⟨0, rfl, rfl, rfl, rfl, rfl, rfl, Nat.zero_le _, rfl, hr⟩ ?_
  rintro k F S ⟨i, rfl, f0, f1, f2, f11, f12, hi, rfl, hrr⟩
  first | refine WpF.row hT (by decide) (by decide) (evh ?_) | refine WpF.seq (WpF.row hT (by decide) (by decide) (evh ?_)) | refine WpF.seq (WpF.seq (WpF.row hT (by decide) (by decide) (evh ?_))) | refine WpF.seq (WpF.seq (WpF.seq (WpF.row hT (by decide) (by decide) (evh ?_))))
  by_cases hlt : i < M
  · have d1 : ((i : Int) < ((M : Nat) : Int)) := by omega
    have d7 : IntKind.i64.wrap ((i : Int) + 1) = ((i + 1 : Nat) : Int) := by rw [IntKind.wrap_i64]; omega
    obtain ⟨k', hk'⟩ : ∃ k', M - i = k' + 1 := ⟨M - i - 1, by omega⟩
    have hk'' : k' = M - (i + 1) := by omega
    rw [hk', rowsL] at hrr
    obtain ⟨c, hc, hrest⟩ := Option.bind_eq_some_iff.1 hrr
    refine WpF.seq (WpF.cond (by decide) rfl (fun _ => WpF.skip ?_) (fun e => absurd d1 (of_decide_eq_false e)))
    · first | refine WpF.block ?_ | refine WpF.seq (WpF.block ?_) | refine WpF.seq (WpF.seq (WpF.block ?_)) | refine WpF.seq (WpF.seq (WpF.seq (WpF.block ?_)))
      first | refine WpF.row hT (by decide) (by decide) (evh ?_) | refine WpF.seq (WpF.row hT (by decide) (by decide) (evh ?_)) | refine WpF.seq (WpF.seq (WpF.row hT (by decide) (by decide) (evh ?_))) | refine WpF.seq (WpF.seq (WpF.seq (WpF.row hT (by decide) (by decide) (evh ?_))))
      first | refine WpF.row hT (by decide) (by decide) (evh ?_) | refine WpF.seq (WpF.row hT (by decide) (by decide) (evh ?_)) | refine WpF.seq (WpF.seq (WpF.row hT (by decide) (by decide) (evh ?_))) | refine WpF.seq (WpF.seq (WpF.seq (WpF.row hT (by decide) (by decide) (evh ?_))))
      refine SeqF.callE hT (by decide) (hf i c (by omega) (by omega) hc N) (by decide) rfl (by rfl) (by simp only [evF_tmp, putF_some, f2]; rfl) (by simp only [List.toList_toArray, List.map_cons, List.map_nil, evF_tmp, putF_some, List.nil_append, List.cons_append]; rfl) ?_
      rintro v S' ⟨rfl, rfl⟩ _ _
      refine evh ?_
      by_cases h0 : c = 0
      · subst h0
        first | refine WpF.row hT (by decide) (by decide) (evh ?_) | refine WpF.seq (WpF.row hT (by decide) (by decide) (evh ?_)) | refine WpF.seq (WpF.seq (WpF.row hT (by decide) (by decide) (evh ?_))) | refine WpF.seq (WpF.seq (WpF.seq (WpF.row hT (by decide) (by decide) (evh ?_))))
        refine WpF.cond (by decide) rfl (fun e => by cases e) (fun _ => WpF.skip ?_)
        first | refine WpF.row hT (by decide) (by decide) (evh ?_) | refine WpF.seq (WpF.row hT (by decide) (by decide) (evh ?_)) | refine WpF.seq (WpF.seq (WpF.row hT (by decide) (by decide) (evh ?_))) | refine WpF.seq (WpF.seq (WpF.seq (WpF.row hT (by decide) (by decide) (evh ?_))))
        rw [if_pos rfl] at hrest
        exact ⟨M - (i + 1), by omega, i + 1, rfl, f0, f1, f2, f11, by rw [← d7]; rfl, hlt, rfl, by rw [← hk'']; exact hrest⟩
      · have d8 : (c != 0) = true := by simpa using h0
        rw [if_neg h0] at hrest
        cases hrest
        first | refine WpF.row hT (by decide) (by decide) (evh ?_) | refine WpF.seq (WpF.row hT (by decide) (by decide) (evh ?_)) | refine WpF.seq (WpF.seq (WpF.row hT (by decide) (by decide) (evh ?_))) | refine WpF.seq (WpF.seq (WpF.seq (WpF.row hT (by decide) (by decide) (evh ?_))))
        refine WpF.cond (by decide) rfl (fun _ => ?_) (fun e => by cases e)
        first | refine WpF.row hT (by decide) (by decide) (evh ?_) | refine WpF.seq (WpF.row hT (by decide) (by decide) (evh ?_)) | refine WpF.seq (WpF.seq (WpF.row hT (by decide) (by decide) (evh ?_))) | refine WpF.seq (WpF.seq (WpF.seq (WpF.row hT (by decide) (by decide) (evh ?_))))
        refine WpF.ret ⟨.inr rfl, evr ?_⟩
        trivial
  · have d1 : ¬ ((i : Int) < ((M : Nat) : Int)) := by omega
    have hz : M - i = 0 := by omega
    rw [hz, rowsL] at hrr
    cases hrr
    refine WpF.seq (WpF.cond (by decide) rfl (fun e => absurd (of_decide_eq_true e) d1) (fun e => WpF.exit ?_))
    first | refine WpF.row hT (by decide) (by decide) (evh ?_) | refine WpF.seq (WpF.row hT (by decide) (by decide) (evh ?_)) | refine WpF.seq (WpF.seq (WpF.row hT (by decide) (by decide) (evh ?_))) | refine WpF.seq (WpF.seq (WpF.seq (WpF.row hT (by decide) (by decide) (evh ?_))))
    refine SeqF.callE hT (by decide) ((numbers_gv b.v _ _).okx ⟨H, N, N⟩) (by decide) rfl rfl rfl rfl ?_
    rintro v S' ⟨rfl, rfl⟩ _ _
    refine evh ?_
    refine WpF.ret ⟨.inr rfl, evr ?_⟩
    trivial
end Go.Proofs.YtmpmbnmldmpmiaaGreatDoor.Sim
set_option linter.unusedVariables false
set_option linter.unusedSimpArgs false
set_option maxRecDepth 100000
namespace Go.Proofs.YtmpmbnmldmpmiaaGreatDoor.Sim
open Go Go.RowKit Go.Proofs.YtmpmbnmldmpmiaaGreatDoor.A Go.Proofs.YtmpmbnmldmpmiaaGreatDoorW.PrintWords Go.Proofs.YtmpmbnmldmpmiaaGreatDoorW.PrintLast Go.Proofs.YtmpmbnmldmpmiaaGreatDoorW.PrintMore
theorem strCmp_gv (v : World) (a b : ByteArray) : Gv Tryz.prog 63 [.string a, .string b] v fun u v' => u = .int .i64 (Lib.compareBytes a.data.toList b.data.toList) :=
  (Gv.of_calls Tryz.func63 (by kernel_rfl) rfl fun w _ => (Tryz.strings_Compare a b w).mono fun e w' ⟨he, hw⟩ => ⟨he, by rw [hw]; exact Below.refl _ _⟩).mono fun u v' h _ => h.1
def boxV (x : S27) (A3 : Option Addr) (c3 : Nat) (A4 : Option Addr) (c4 : Nat) : Blk := .row [.s (.int .i64 x.f0), .s (.float .f64 x.f1), .s (.string x.f2), .s (.slice A3 x.f3.length c3), .s (.slice A4 x.f4.length c4)] 27 none .no
section
variable {b : Bs} {x y : S27} {A3 A4 B3 B4 : Option Addr} {c3 c4 d3 d4 : Nat} {H : Heap} {N pa pb qa qb ra rb : Nat}
set_option maxHeartbeats 1000000 in
theorem cmp1_ok (h3 : Rw b.v x.f3 A3 c3) (k3 : Rw b.v y.f3 B3 d3) (ha : find pa H = some (boxV x A3 c3 A4 c4)) (hb : find pb H = some (boxV y B3 d3 B4 d4)) {i : Nat} (hi : i < x.f3.length) (hi' : i < y.f3.length) {c : Int}
    (hc : ∀ ux uy, Vr b.v x.f3[i] ux → Vr b.v y.f3[i] uy → Gv Tryz.prog 20 [ux, uy] b.v fun u _ => u = .int .i64 c) (L : Nat) :
    Ok Tryz.prog b 65 [.s (.int .i64 (i : Int)), .ptr pa 0, .ptr pb 0] ⟨H, N, L⟩ fun v S' => v = .s (.int .i64 c) ∧ S' = ⟨H, N, L⟩ := by
  have hT : Tab (whole b.v) b := whole_tab b
  obtain ⟨k, off, cs, P3, p3, P4, p4, rfl, hw, hx, r3, r4⟩ := h3.get hi
  obtain ⟨k2, off2, cs2, Q3, q3, Q4, q4, rfl, hw2, hx2, s3, s4⟩ := k3.get hi'
  have hcall := hc _ _ ⟨_, _, _, _, rfl, r3, r4⟩ ⟨_, _, _, _, rfl, s3, s4⟩
  have g0 : (0 : Int) ≤ (i : Int) := by omega
  have g1 : (i : Int) < (x.f3.length : Int) := by omega
  have g2 : (i : Int) < (y.f3.length : Int) := by omega
  unfold boxV at ha hb
  refine (Ok.runQ (Q := fun u => u = .int .i64 c) hT Tryz.func65 (by kernel_rfl) rfl rfl rfl rfl ?_).mono fun v S' ⟨u, h1, h2, h3⟩ _ _ => ⟨by rw [h1, h2], h3⟩
  first | refine WpF.row hT (by decide) (by decide) (ev ?_) | refine WpF.seq (WpF.row hT (by decide) (by decide) (ev ?_)) | refine WpF.seq (WpF.seq (WpF.row hT (by decide) (by decide) (ev ?_))) | refine WpF.seq (WpF.seq (WpF.seq (WpF.row hT (by decide) (by decide) (ev ?_))))
  refine WpF.seq (WpF.drawE hT (by kernel_rfl) (by decide) (callOne_ok hcall) (ks := [(2, 10), (0, 1), (0, 1)])
    (ds := [[], [0], [], [1, 2], [3], [], [5], [], [6, 7], [8], [4, 9], [10, 10, 0, 1, 2, 3, 4, 5, 6, 7, 8, 9, 10]])
    (ancs := [0, 1, 0, 7, 15, 0, 32, 0, 224, 480, 1023, 2047]) (by kernel_rfl) fun hnew => ?_)
  have hn0 : newsX N H = [] := hnew N (Nat.le_refl _)
  refine evh ?_
  refine WpF.ret ⟨.inr rfl, evr ?_⟩
  trivial
set_option maxHeartbeats 1000000 in
theorem cmp2_ok (h3 : Sw b.v x.f4 A4 c4) (k3 : Sw b.v y.f4 B4 d4) {n m : Nat} {pl pm : List Nat} (ha : find pa H = some (boxV x A3 c3 A4 c4)) (hb : find pb H = some (boxV y B3 d3 B4 d4))
    (hp : find qa H = some (.row [.slc ra 0 n (some n)] 69 none .no)) (hq : find qb H = some (.row [.slc rb 0 m (some m)] 69 none .no)) (hra : find ra H = some (.row (intRow pl) 3 none .no)) (hrb : find rb H = some (.row (intRow pm) 3 none .no))
    {i j j' : Nat} (hin : i < n) (him : i < m) (hj : pl[i]? = some j) (hj' : pm[i]? = some j') (hi : j < x.f4.length) (hi' : j' < y.f4.length) (L : Nat) :
    Ok Tryz.prog b 67 [.s (.int .i64 (i : Int)), .ptr pa 0, .ptr qa 0, .ptr pb 0, .ptr qb 0] ⟨H, N, L⟩ fun v S' => v = .s (.int .i64 (Lib.compareBytes x.f4[j].data.toList y.f4[j'].data.toList)) ∧ S' = ⟨H, N, L⟩ := by
  have hT : Tab (whole b.v) b := whole_tab b
  obtain ⟨k, off, rfl, hx⟩ := h3.get hi
  obtain ⟨k2, off2, rfl, hx2⟩ := k3.get hi'
  have hcall := strCmp_gv b.v x.f4[j] y.f4[j']
  have g0 : (0 : Int) ≤ (i : Int) := by omega
  have g1 : (i : Int) < (n : Int) := by omega
  have g2 : (i : Int) < (m : Int) := by omega
  have g3 : (0 : Int) ≤ (j : Int) := by omega
  have g4 : (0 : Int) ≤ (j' : Int) := by omega
  have g5 : (j : Int) < (x.f4.length : Int) := by omega
  have g6 : (j' : Int) < (y.f4.length : Int) := by omega
  have g7 : (intRow pl)[i]? = some (V.s (.int .i64 (j : Int))) := by unfold intRow; rw [List.getElem?_map, hj]; rfl
  have g8 : (intRow pm)[i]? = some (V.s (.int .i64 (j' : Int))) := by unfold intRow; rw [List.getElem?_map, hj']; rfl
  unfold boxV at ha hb
  refine (Ok.runQ (Q := fun u => u = .int .i64 (Lib.compareBytes x.f4[j].data.toList y.f4[j'].data.toList)) hT Tryz.func67 (by kernel_rfl) rfl rfl rfl rfl ?_).mono fun v S' ⟨u, h1, h2, h3⟩ _ _ => ⟨by rw [h1, h2], h3⟩
  first | refine WpF.row hT (by decide) (by decide) (ev ?_) | refine WpF.seq (WpF.row hT (by decide) (by decide) (ev ?_)) | refine WpF.seq (WpF.seq (WpF.row hT (by decide) (by decide) (ev ?_))) | refine WpF.seq (WpF.seq (WpF.seq (WpF.row hT (by decide) (by decide) (ev ?_))))
  refine WpF.seq (WpF.drawE hT (by kernel_rfl) (by decide) (callOne_ok hcall) (ks := [(2, 16), (0, 1), (0, 1)])
    (ds := [[], [0], [], [], [2, 3], [4], [1, 5], [6], [], [8], [], [], [10, 11], [12], [9, 13], [14], [7, 15], [16, 16, 0, 1, 2, 3, 4, 5, 6, 7, 8, 9, 10, 11, 12, 13, 14, 15, 16]])
    (ancs := [0, 1, 0, 0, 12, 28, 63, 127, 0, 256, 0, 0, 3072, 7168, 16128, 32512, 65535, 131071]) (by kernel_rfl) fun hnew => ?_)
  have hn0 : newsX N H = [] := hnew N (Nat.le_refl _)
  refine evh ?_
  refine WpF.ret ⟨.inr rfl, evr ?_⟩
  trivial
set_option maxHeartbeats 1000000 in
theorem cmp3_ok (h3 : Rw b.v x.f3 A3 c3) (k3 : Rw b.v y.f3 B3 d3) {n m : Nat} {pl pm : List Nat} (ha : find pa H = some (boxV x A3 c3 A4 c4)) (hb : find pb H = some (boxV y B3 d3 B4 d4))
    (hp : find qa H = some (.row [.slc ra 0 n (some n)] 69 none .no)) (hq : find qb H = some (.row [.slc rb 0 m (some m)] 69 none .no)) (hra : find ra H = some (.row (intRow pl) 3 none .no)) (hrb : find rb H = some (.row (intRow pm) 3 none .no))
    {i j j' : Nat} (hin : i < n) (him : i < m) (hj : pl[i]? = some j) (hj' : pm[i]? = some j') (hi : j < x.f3.length) (hi' : j' < y.f3.length) {c : Int}
    (hc : ∀ ux uy, Vr b.v x.f3[j] ux → Vr b.v y.f3[j'] uy → Gv Tryz.prog 20 [ux, uy] b.v fun u _ => u = .int .i64 c) (L : Nat) :
    Ok Tryz.prog b 68 [.s (.int .i64 (i : Int)), .ptr pa 0, .ptr qa 0, .ptr pb 0, .ptr qb 0] ⟨H, N, L⟩ fun v S' => v = .s (.int .i64 (c)) ∧ S' = ⟨H, N, L⟩ := by
  have hT : Tab (whole b.v) b := whole_tab b
  obtain ⟨k, off, cs, P3, p3, P4, p4, rfl, hw, hx, r3, r4⟩ := h3.get hi
  obtain ⟨k2, off2, cs2, Q3, q3, Q4, q4, rfl, hw2, hx2, s3, s4⟩ := k3.get hi'
  have hcall := hc _ _ ⟨_, _, _, _, rfl, r3, r4⟩ ⟨_, _, _, _, rfl, s3, s4⟩
  have g0 : (0 : Int) ≤ (i : Int) := by omega
  have g1 : (i : Int) < (n : Int) := by omega
  have g2 : (i : Int) < (m : Int) := by omega
  have g3 : (0 : Int) ≤ (j : Int) := by omega
  have g4 : (0 : Int) ≤ (j' : Int) := by omega
  have g5 : (j : Int) < (x.f3.length : Int) := by omega
  have g6 : (j' : Int) < (y.f3.length : Int) := by omega
  have g7 : (intRow pl)[i]? = some (V.s (.int .i64 (j : Int))) := by unfold intRow; rw [List.getElem?_map, hj]; rfl
  have g8 : (intRow pm)[i]? = some (V.s (.int .i64 (j' : Int))) := by unfold intRow; rw [List.getElem?_map, hj']; rfl
  unfold boxV at ha hb
  refine (Ok.runQ (Q := fun u => u = .int .i64 (c)) hT Tryz.func68 (by kernel_rfl) rfl rfl rfl rfl ?_).mono fun v S' ⟨u, h1, h2, h3⟩ _ _ => ⟨by rw [h1, h2], h3⟩
  first | refine WpF.row hT (by decide) (by decide) (ev ?_) | refine WpF.seq (WpF.row hT (by decide) (by decide) (ev ?_)) | refine WpF.seq (WpF.seq (WpF.row hT (by decide) (by decide) (ev ?_))) | refine WpF.seq (WpF.seq (WpF.seq (WpF.row hT (by decide) (by decide) (ev ?_))))
  refine WpF.seq (WpF.drawE hT (by kernel_rfl) (by decide) (callOne_ok hcall) (ks := [(2, 16), (0, 1), (0, 1)])
    (ds := [[], [0], [], [], [2, 3], [4], [1, 5], [6], [], [8], [], [], [10, 11], [12], [9, 13], [14], [7, 15], [16, 16, 0, 1, 2, 3, 4, 5, 6, 7, 8, 9, 10, 11, 12, 13, 14, 15, 16]])
    (ancs := [0, 1, 0, 0, 12, 28, 63, 127, 0, 256, 0, 0, 3072, 7168, 16128, 32512, 65535, 131071]) (by kernel_rfl) fun hnew => ?_)
  have hn0 : newsX N H = [] := hnew N (Nat.le_refl _)
  refine evh ?_
  refine WpF.ret ⟨.inr rfl, evr ?_⟩
  trivial
end
end Go.Proofs.YtmpmbnmldmpmiaaGreatDoor.Sim
set_option linter.unusedVariables false
set_option linter.unusedSimpArgs false
set_option maxRecDepth 100000
namespace Go.Proofs.YtmpmbnmldmpmiaaGreatDoor.Sim
open Go Go.RowKit Go.Proofs.YtmpmbnmldmpmiaaGreatDoor.A Go.Proofs.YtmpmbnmldmpmiaaGreatDoorW.PrintWords Go.Proofs.YtmpmbnmldmpmiaaGreatDoorW.PrintLast Go.Proofs.YtmpmbnmldmpmiaaGreatDoorW.PrintMore
/-- A caller that knows two calls of one function, each of which answers a new row. -/
noncomputable def callRows (f0 : FuncId) (as1 as2 : List V) (n1 n2 : Nat) (cs1 cs2 : List Value) (e : TypeId) (h : as1 = as2 → n1 = n2 ∧ cs1 = cs2) : Caller := fun f ar S => open Classical in
  if f = f0 then (if ar = as1 then some (.slc S.next 0 n1 (some n1), ⟨(S.next, .row (cs1.map .s) e none .no) :: S.heap, S.next + 1, S.low⟩) else if ar = as2 then some (.slc S.next 0 n2 (some n2), ⟨(S.next, .row (cs2.map .s) e none .no) :: S.heap, S.next + 1, S.low⟩) else none) else none
theorem callRows_1 (f : FuncId) (as1 as2 : List V) (n1 n2 : Nat) (cs1 cs2 : List Value) (e : TypeId) (h : as1 = as2 → n1 = n2 ∧ cs1 = cs2) (S : St) : callRows f as1 as2 n1 n2 cs1 cs2 e h f as1 S = some (.slc S.next 0 n1 (some n1), ⟨(S.next, .row (cs1.map .s) e none .no) :: S.heap, S.next + 1, S.low⟩) := by simp [callRows]
theorem callRows_2 (f : FuncId) (as1 as2 : List V) (n1 n2 : Nat) (cs1 cs2 : List Value) (e : TypeId) (h : as1 = as2 → n1 = n2 ∧ cs1 = cs2) (S : St) : callRows f as1 as2 n1 n2 cs1 cs2 e h f as2 S = some (.slc S.next 0 n2 (some n2), ⟨(S.next, .row (cs2.map .s) e none .no) :: S.heap, S.next + 1, S.low⟩) := by
  unfold callRows
  rw [if_pos rfl]
  split
  · rename_i h1
    obtain ⟨rfl, rfl⟩ := h h1.symm
    rfl
  · rw [if_pos rfl]
theorem callRows_ok {P : Program} {f : FuncId} {us1 us2 : List Value} {n1 n2 : Nat} {cs1 cs2 : List Value} {e : TypeId} {b : Bs} (h : us1.map V.s = us2.map V.s → n1 = n2 ∧ cs1 = cs2)
    (h1 : ∀ b' : Bs, b'.v = b.v → Ok P b' f (us1.map .s) ⟨[], 0, 0⟩ fun x S' => ∃ id, x = .slc id 0 n1 (some n1) ∧ find id S'.heap = some (.row (cs1.map .s) e none .no))
    (h2 : ∀ b' : Bs, b'.v = b.v → Ok P b' f (us2.map .s) ⟨[], 0, 0⟩ fun x S' => ∃ id, x = .slc id 0 n2 (some n2) ∧ find id S'.heap = some (.row (cs2.map .s) e none .no)) : CallOk P b (callRows f (us1.map .s) (us2.map .s) n1 n2 cs1 cs2 e h) := by
  intro f' ar S v S' hc
  unfold callRows at hc
  split at hc
  · rename_i hf
    subst hf
    split at hc
    · rename_i ha
      subst ha
      cases hc
      exact ⟨⟨Nat.le_succ _, Nat.le_refl _⟩, fun g w us' hM hr hf => Ok.rowC h1 rfl S g w us' hM hr hf⟩
    · split at hc
      · rename_i ha
        subst ha
        cases hc
        exact ⟨⟨Nat.le_succ _, Nat.le_refl _⟩, fun g w us' hM hr hf => Ok.rowC h2 rfl S g w us' hM hr hf⟩
      · cases hc
  · cases hc
theorem Sw.inj {w : World} {l l' : List ByteArray} {A : Option Addr} {c c' : Nat} (h : Sw w l A c) (h' : Sw w l' A c') (hl : l.length = l'.length) : l = l' := by
  apply List.ext_getElem hl
  intro i h1 h2
  obtain ⟨k, off, rfl, q1⟩ := h.get h1
  obtain ⟨k', off', e, q2⟩ := h'.get h2
  cases e
  rw [q1] at q2
  injection q2 with q2
  injection q2
/-- value.Compare, by so many levels at most. -/
def cmpV : Nat → S27 → S27 → Option Int
  | 0, _, _ => none
  | k + 1, a, b =>
    if a.f0 ≠ b.f0 then some (numbersL (FloatKind.f64.nearest a.f0) (FloatKind.f64.nearest b.f0))
    else if a.f0 = 3 then some (numbersL a.f1 b.f1)
    else if a.f0 = 4 then some (Lib.compareBytes a.f2.data.toList b.f2.data.toList)
    else if a.f0 = 5 then
      (if a.f3.length ≤ 35184372088832 ∧ b.f3.length ≤ 35184372088832 then rowsV (fun i => (a.f3[i]?).bind fun x => (b.f3[i]?).bind fun y => cmpV k x y) a.f3.length b.f3.length else none)
    else if a.f0 = 6 then
      (if a.f4.length ≤ 35184372088832 ∧ b.f4.length ≤ 35184372088832 then
        (rowsV (fun i => ((placesL a.f4)[i]?).bind fun j => ((placesL b.f4)[i]?).bind fun j' => (a.f4[j]?).bind fun s => (b.f4[j']?).bind fun t => some (Lib.compareBytes s.data.toList t.data.toList)) a.f4.length b.f4.length).bind fun c =>
        if c ≠ 0 then some c else rowsV (fun i => ((placesL a.f4)[i]?).bind fun j => ((placesL b.f4)[i]?).bind fun j' => (a.f3[j]?).bind fun x => (b.f3[j']?).bind fun y => cmpV k x y) a.f4.length b.f4.length
      else none)
    else some 0
set_option maxHeartbeats 4000000 in
theorem cmp_gv : ∀ (k : Nat) (x y : S27) (r : Int), cmpV k x y = some r → ∀ (v : World) (ux uy : Value), Vr v x ux → Vr v y uy → Gv Tryz.prog 20 [ux, uy] v fun u _ => u = .int .i64 r := by
  intro k
  induction k with
  | zero => intro x y r h; cases h
  | succ k ih =>
  intro x y r h v ux uy hx hy
  obtain ⟨A3, c3, A4, c4, rfl, h3, h4⟩ := hx
  obtain ⟨B3, d3, B4, d4, rfl, k3, k4⟩ := hy
  rw [cmpV] at h
  refine Gv.run Tryz.func20 (by kernel_rfl) rfl rfl rfl rfl fun b hb => WpB.ofF ?_
  subst hb
  have hT : Tab (whole b.v) b := whole_tab b
  first | refine WpF.row hT (by decide) (by decide) (ev ?_) | refine WpF.seq (WpF.row hT (by decide) (by decide) (ev ?_)) | refine WpF.seq (WpF.seq (WpF.row hT (by decide) (by decide) (ev ?_))) | refine WpF.seq (WpF.seq (WpF.seq (WpF.row hT (by decide) (by decide) (ev ?_))))
  by_cases e0 : x.f0 = y.f0
  rotate_left
  · rw [if_pos e0] at h
    cases h
    have q1 : (x.f0 != y.f0) = true := by simpa using e0
    first | refine WpF.row hT (by decide) (by decide) (evh ?_) | refine WpF.seq (WpF.row hT (by decide) (by decide) (evh ?_)) | refine WpF.seq (WpF.seq (WpF.row hT (by decide) (by decide) (evh ?_))) | refine WpF.seq (WpF.seq (WpF.seq (WpF.row hT (by decide) (by decide) (evh ?_))))
    first | refine WpF.cond (by decide) rfl (fun _ => ?_) (fun e => by cases e) | refine WpF.seq (WpF.cond (by decide) rfl (fun _ => ?_) (fun e => by cases e)) | refine WpF.seq (WpF.seq (WpF.cond (by decide) rfl (fun _ => ?_) (fun e => by cases e))) | refine WpF.seq (WpF.seq (WpF.seq (WpF.cond (by decide) rfl (fun _ => ?_) (fun e => by cases e))))
    first | refine WpF.row hT (by decide) (by decide) (evh ?_) | refine WpF.seq (WpF.row hT (by decide) (by decide) (evh ?_)) | refine WpF.seq (WpF.seq (WpF.row hT (by decide) (by decide) (evh ?_))) | refine WpF.seq (WpF.seq (WpF.seq (WpF.row hT (by decide) (by decide) (evh ?_))))
    refine SeqF.callE hT (by decide) ((numbers_gv b.v _ _).okx _) (by decide) rfl rfl rfl rfl ?_
    rintro v S' ⟨rfl, rfl⟩ _ _
    refine evh ?_
    refine WpF.ret ⟨.inr rfl, evr ?_⟩
    trivial
  rw [if_neg (by simpa using e0)] at h
  have q1 : (x.f0 != y.f0) = false := by simpa using e0
  have E0 := Hide.mk e0
  clear e0
  first | refine WpF.row hT (by decide) (by decide) (evh ?_) | refine WpF.seq (WpF.row hT (by decide) (by decide) (evh ?_)) | refine WpF.seq (WpF.seq (WpF.row hT (by decide) (by decide) (evh ?_))) | refine WpF.seq (WpF.seq (WpF.seq (WpF.row hT (by decide) (by decide) (evh ?_))))
  first | refine WpF.cond (by decide) rfl (fun e => by cases e) (fun _ => WpF.skip ?_) | refine WpF.seq (WpF.cond (by decide) rfl (fun e => by cases e) (fun _ => WpF.skip ?_)) | refine WpF.seq (WpF.seq (WpF.cond (by decide) rfl (fun e => by cases e) (fun _ => WpF.skip ?_))) | refine WpF.seq (WpF.seq (WpF.seq (WpF.cond (by decide) rfl (fun e => by cases e) (fun _ => WpF.skip ?_))))
  first | refine WpF.row hT (by decide) (by decide) (evh ?_) | refine WpF.seq (WpF.row hT (by decide) (by decide) (evh ?_)) | refine WpF.seq (WpF.seq (WpF.row hT (by decide) (by decide) (evh ?_))) | refine WpF.seq (WpF.seq (WpF.seq (WpF.row hT (by decide) (by decide) (evh ?_))))
  clear q1
  first | refine WpF.block ?_ | refine WpF.seq (WpF.block ?_) | refine WpF.seq (WpF.seq (WpF.block ?_)) | refine WpF.seq (WpF.seq (WpF.seq (WpF.block ?_)))
  by_cases e3 : x.f0 = 3
  · rw [if_pos e3] at h
    cases h
    have q3 : (x.f0 == 3) = true := by simpa using e3
    clear e3
    first | refine WpF.row hT (by decide) (by decide) (evh ?_) | refine WpF.seq (WpF.row hT (by decide) (by decide) (evh ?_)) | refine WpF.seq (WpF.seq (WpF.row hT (by decide) (by decide) (evh ?_))) | refine WpF.seq (WpF.seq (WpF.seq (WpF.row hT (by decide) (by decide) (evh ?_))))
    first | refine WpF.cond (by decide) rfl (fun _ => ?_) (fun e => by cases e) | refine WpF.seq (WpF.cond (by decide) rfl (fun _ => ?_) (fun e => by cases e)) | refine WpF.seq (WpF.seq (WpF.cond (by decide) rfl (fun _ => ?_) (fun e => by cases e))) | refine WpF.seq (WpF.seq (WpF.seq (WpF.cond (by decide) rfl (fun _ => ?_) (fun e => by cases e))))
    first | refine WpF.row hT (by decide) (by decide) (evh ?_) | refine WpF.seq (WpF.row hT (by decide) (by decide) (evh ?_)) | refine WpF.seq (WpF.seq (WpF.row hT (by decide) (by decide) (evh ?_))) | refine WpF.seq (WpF.seq (WpF.seq (WpF.row hT (by decide) (by decide) (evh ?_))))
    refine SeqF.callE hT (by decide) ((numbers_gv b.v _ _).okx _) (by decide) rfl rfl rfl rfl ?_
    rintro v S' ⟨rfl, rfl⟩ _ _
    refine evh ?_
    refine WpF.ret ⟨.inr rfl, evr ?_⟩
    trivial
  rw [if_neg e3] at h
  have q3 : (x.f0 == 3) = false := by simpa using e3
  clear e3
  first | refine WpF.row hT (by decide) (by decide) (evh ?_) | refine WpF.seq (WpF.row hT (by decide) (by decide) (evh ?_)) | refine WpF.seq (WpF.seq (WpF.row hT (by decide) (by decide) (evh ?_))) | refine WpF.seq (WpF.seq (WpF.seq (WpF.row hT (by decide) (by decide) (evh ?_))))
  first | refine WpF.cond (by decide) rfl (fun e => by cases e) (fun _ => ?_) | refine WpF.seq (WpF.cond (by decide) rfl (fun e => by cases e) (fun _ => ?_)) | refine WpF.seq (WpF.seq (WpF.cond (by decide) rfl (fun e => by cases e) (fun _ => ?_))) | refine WpF.seq (WpF.seq (WpF.seq (WpF.cond (by decide) rfl (fun e => by cases e) (fun _ => ?_))))
  clear q3
  by_cases e4 : x.f0 = 4
  · rw [if_pos e4] at h
    cases h
    have q3 : (x.f0 == 4) = true := by simpa using e4
    clear e4
    first | refine WpF.row hT (by decide) (by decide) (evh ?_) | refine WpF.seq (WpF.row hT (by decide) (by decide) (evh ?_)) | refine WpF.seq (WpF.seq (WpF.row hT (by decide) (by decide) (evh ?_))) | refine WpF.seq (WpF.seq (WpF.seq (WpF.row hT (by decide) (by decide) (evh ?_))))
    first | refine WpF.cond (by decide) rfl (fun _ => ?_) (fun e => by cases e) | refine WpF.seq (WpF.cond (by decide) rfl (fun _ => ?_) (fun e => by cases e)) | refine WpF.seq (WpF.seq (WpF.cond (by decide) rfl (fun _ => ?_) (fun e => by cases e))) | refine WpF.seq (WpF.seq (WpF.seq (WpF.cond (by decide) rfl (fun _ => ?_) (fun e => by cases e))))
    first | refine WpF.row hT (by decide) (by decide) (evh ?_) | refine WpF.seq (WpF.row hT (by decide) (by decide) (evh ?_)) | refine WpF.seq (WpF.seq (WpF.row hT (by decide) (by decide) (evh ?_))) | refine WpF.seq (WpF.seq (WpF.seq (WpF.row hT (by decide) (by decide) (evh ?_))))
    refine SeqF.callE hT (by decide) ((strCmp_gv b.v _ _).okx _) (by decide) rfl rfl rfl rfl ?_
    rintro v S' ⟨rfl, rfl⟩ _ _
    refine evh ?_
    refine WpF.ret ⟨.inr rfl, evr ?_⟩
    trivial
  rw [if_neg e4] at h
  have q3 : (x.f0 == 4) = false := by simpa using e4
  clear e4
  first | refine WpF.row hT (by decide) (by decide) (evh ?_) | refine WpF.seq (WpF.row hT (by decide) (by decide) (evh ?_)) | refine WpF.seq (WpF.seq (WpF.row hT (by decide) (by decide) (evh ?_))) | refine WpF.seq (WpF.seq (WpF.seq (WpF.row hT (by decide) (by decide) (evh ?_))))
  first | refine WpF.cond (by decide) rfl (fun e => by cases e) (fun _ => ?_) | refine WpF.seq (WpF.cond (by decide) rfl (fun e => by cases e) (fun _ => ?_)) | refine WpF.seq (WpF.seq (WpF.cond (by decide) rfl (fun e => by cases e) (fun _ => ?_))) | refine WpF.seq (WpF.seq (WpF.seq (WpF.cond (by decide) rfl (fun e => by cases e) (fun _ => ?_))))
  clear q3
  by_cases e5 : x.f0 = 5
  · rw [if_pos e5] at h
    split at h
    rotate_left
    · cases h
    rename_i hlen
    have q3 : (x.f0 == 5) = true := by simpa using e5
    clear e5
    first | refine WpF.row hT (by decide) (by decide) (evh ?_) | refine WpF.seq (WpF.row hT (by decide) (by decide) (evh ?_)) | refine WpF.seq (WpF.seq (WpF.row hT (by decide) (by decide) (evh ?_))) | refine WpF.seq (WpF.seq (WpF.seq (WpF.row hT (by decide) (by decide) (evh ?_))))
    first | refine WpF.cond (by decide) rfl (fun _ => ?_) (fun e => by cases e) | refine WpF.seq (WpF.cond (by decide) rfl (fun _ => ?_) (fun e => by cases e)) | refine WpF.seq (WpF.seq (WpF.cond (by decide) rfl (fun _ => ?_) (fun e => by cases e))) | refine WpF.seq (WpF.seq (WpF.seq (WpF.cond (by decide) rfl (fun _ => ?_) (fun e => by cases e))))
    first | refine WpF.row hT (by decide) (by decide) (evh ?_) | refine WpF.seq (WpF.row hT (by decide) (by decide) (evh ?_)) | refine WpF.seq (WpF.seq (WpF.row hT (by decide) (by decide) (evh ?_))) | refine WpF.seq (WpF.seq (WpF.seq (WpF.row hT (by decide) (by decide) (evh ?_))))
    refine SeqF.callE hT (by decide) (rows_ok (g := 65) (caps := [.ptr 0 0, .ptr 1 0]) (by omega) h _ _ (fun i c hi hi' hc L => ?_) _) (by decide) rfl rfl rfl rfl ?_
    · rw [List.getElem?_eq_getElem hi, List.getElem?_eq_getElem hi'] at hc
      exact cmp1_ok h3 k3 rfl rfl hi hi' (fun ux uy hx hy => ih _ _ _ hc _ _ _ hx hy) L
    rintro v S' ⟨u, rfl, rfl, rfl⟩ _ _
    refine evh ?_
    refine WpF.ret ⟨.inr rfl, evr ?_⟩
    trivial
  rw [if_neg e5] at h
  have q3 : (x.f0 == 5) = false := by simpa using e5
  clear e5
  first | refine WpF.row hT (by decide) (by decide) (evh ?_) | refine WpF.seq (WpF.row hT (by decide) (by decide) (evh ?_)) | refine WpF.seq (WpF.seq (WpF.row hT (by decide) (by decide) (evh ?_))) | refine WpF.seq (WpF.seq (WpF.seq (WpF.row hT (by decide) (by decide) (evh ?_))))
  first | refine WpF.cond (by decide) rfl (fun e => by cases e) (fun _ => ?_) | refine WpF.seq (WpF.cond (by decide) rfl (fun e => by cases e) (fun _ => ?_)) | refine WpF.seq (WpF.seq (WpF.cond (by decide) rfl (fun e => by cases e) (fun _ => ?_))) | refine WpF.seq (WpF.seq (WpF.seq (WpF.cond (by decide) rfl (fun e => by cases e) (fun _ => ?_))))
  clear q3
  by_cases e6 : x.f0 = 6
  · rw [if_pos e6] at h
    split at h
    rotate_left
    · cases h
    rename_i hlen
    have q3 : (x.f0 == 6) = true := by simpa using e6
    clear e6
    first | refine WpF.row hT (by decide) (by decide) (evh ?_) | refine WpF.seq (WpF.row hT (by decide) (by decide) (evh ?_)) | refine WpF.seq (WpF.seq (WpF.row hT (by decide) (by decide) (evh ?_))) | refine WpF.seq (WpF.seq (WpF.seq (WpF.row hT (by decide) (by decide) (evh ?_))))
    first | refine WpF.cond (by decide) rfl (fun _ => ?_) (fun e => by cases e) | refine WpF.seq (WpF.cond (by decide) rfl (fun _ => ?_) (fun e => by cases e)) | refine WpF.seq (WpF.seq (WpF.cond (by decide) rfl (fun _ => ?_) (fun e => by cases e))) | refine WpF.seq (WpF.seq (WpF.seq (WpF.cond (by decide) rfl (fun _ => ?_) (fun e => by cases e))))
    have hinj : [Value.agg #[.int .i64 x.f0, .float .f64 x.f1, .string x.f2, .slice A3 x.f3.length c3, .slice A4 x.f4.length c4]].map V.s = [Value.agg #[.int .i64 y.f0, .float .f64 y.f1, .string y.f2, .slice B3 y.f3.length d3, .slice B4 y.f4.length d4]].map V.s → x.f4.length = y.f4.length ∧ ((placesL x.f4).map fun (i : Nat) => Value.int .i64 i) = ((placesL y.f4).map fun (i : Nat) => Value.int .i64 i) := by
      intro he
      simp only [List.map_cons, List.map_nil, List.cons.injEq, V.s.injEq, Value.agg.injEq, Array.mk.injEq, and_true, Value.slice.injEq] at he
      obtain ⟨_, _, _, _, rfl, hl, _⟩ := he
      rw [h4.inj k4 hl]
      exact ⟨rfl, rfl⟩
    have hok := callRows_ok hinj (fun b' hb' => places_ok ⟨A3, c3, A4, c4, rfl, h3, h4⟩ hlen.1 b' hb') (fun b' hb' => places_ok ⟨B3, d3, B4, d4, rfl, k3, k4⟩ hlen.2 b' hb')
    have r1 := callRows_1 66 _ _ _ _ _ _ 3 hinj
    have r2 := callRows_2 66 _ _ _ _ _ _ 3 hinj
    simp only [List.map_cons, List.map_nil] at hok r1 r2
    refine WpF.seq (WpF.drawE hT (by kernel_rfl) (by decide) hok (ks := [(2, 6), (0, 1), (0, 1)])
      (ds := [[], [0], [], [2, 1], [], [], [4, 1, 3, 0, 1, 4, 5], [5, 3, 6, 0, 1, 2, 3, 4, 5, 6]])
      (ancs := [0, 1, 0, 7, 0, 0, 63, 127]) (by kernel_rfl) fun hnew => ?_)
    clear hnew
    refine evh ?_
    obtain ⟨c0, hc0, hrest⟩ := Option.bind_eq_some_iff.1 h
    first | refine WpF.row hT (by decide) (by decide) (evh ?_) | refine WpF.seq (WpF.row hT (by decide) (by decide) (evh ?_)) | refine WpF.seq (WpF.seq (WpF.row hT (by decide) (by decide) (evh ?_))) | refine WpF.seq (WpF.seq (WpF.seq (WpF.row hT (by decide) (by decide) (evh ?_))))
    refine SeqF.callE hT (by decide) (rows_ok (g := 67) (caps := [_, _, _, _]) (by omega) hc0 _ _ (fun i c hi hi' hc L => ?_) _) (by decide) rfl rfl rfl rfl ?_
    · obtain ⟨j, hj, hc⟩ := Option.bind_eq_some_iff.1 hc
      obtain ⟨j', hj', hc⟩ := Option.bind_eq_some_iff.1 hc
      have hjl := placesL_lt (List.mem_of_getElem? hj)
      have hjl' := placesL_lt (List.mem_of_getElem? hj')
      rw [List.getElem?_eq_getElem hjl, List.getElem?_eq_getElem hjl'] at hc
      cases hc
      exact cmp2_ok h4 k4 rfl rfl rfl rfl (by rw [intRow_eq]; rfl) (by rw [intRow_eq]; rfl) hi hi' hj hj' hjl hjl' L
    rintro v S' ⟨u, rfl, rfl, rfl⟩ _ _
    refine evh ?_
    by_cases hz : c0 = 0
    · subst hz
      rw [if_neg (by simp)] at hrest
      first | refine WpF.row hT (by decide) (by decide) (evh ?_) | refine WpF.seq (WpF.row hT (by decide) (by decide) (evh ?_)) | refine WpF.seq (WpF.seq (WpF.row hT (by decide) (by decide) (evh ?_))) | refine WpF.seq (WpF.seq (WpF.seq (WpF.row hT (by decide) (by decide) (evh ?_))))
      first | refine WpF.cond (by decide) rfl (fun e => by cases e) (fun _ => WpF.skip ?_) | refine WpF.seq (WpF.cond (by decide) rfl (fun e => by cases e) (fun _ => WpF.skip ?_)) | refine WpF.seq (WpF.seq (WpF.cond (by decide) rfl (fun e => by cases e) (fun _ => WpF.skip ?_))) | refine WpF.seq (WpF.seq (WpF.seq (WpF.cond (by decide) rfl (fun e => by cases e) (fun _ => WpF.skip ?_))))
      first | refine WpF.row hT (by decide) (by decide) (evh ?_) | refine WpF.seq (WpF.row hT (by decide) (by decide) (evh ?_)) | refine WpF.seq (WpF.seq (WpF.row hT (by decide) (by decide) (evh ?_))) | refine WpF.seq (WpF.seq (WpF.seq (WpF.row hT (by decide) (by decide) (evh ?_))))
      refine SeqF.callE hT (by decide) (rows_ok (g := 68) (caps := [_, _, _, _]) (by omega) hrest _ _ (fun i c hi hi' hc L => ?_) _) (by decide) rfl rfl rfl rfl ?_
      · obtain ⟨j, hj, hc⟩ := Option.bind_eq_some_iff.1 hc
        obtain ⟨j', hj', hc⟩ := Option.bind_eq_some_iff.1 hc
        obtain ⟨s, hs, hc⟩ := Option.bind_eq_some_iff.1 hc
        obtain ⟨t, ht, hc⟩ := Option.bind_eq_some_iff.1 hc
        obtain ⟨hjl, rfl⟩ := List.getElem?_eq_some_iff.1 hs
        obtain ⟨hjl', rfl⟩ := List.getElem?_eq_some_iff.1 ht
        exact cmp3_ok h3 k3 rfl rfl rfl rfl (by rw [intRow_eq]; rfl) (by rw [intRow_eq]; rfl) hi hi' hj hj' hjl hjl' (fun ux uy hx hy => ih _ _ _ hc _ _ _ hx hy) L
      rintro v S' ⟨u, rfl, rfl, rfl⟩ _ _
      refine evh ?_
      refine WpF.ret ⟨.inr rfl, evr ?_⟩
      trivial
    · rw [if_pos hz] at hrest
      have q9 : (c0 != 0) = true := by simpa using hz
      have hcr : c0 = r := by injection hrest
      subst hcr
      first | refine WpF.row hT (by decide) (by decide) (evh ?_) | refine WpF.seq (WpF.row hT (by decide) (by decide) (evh ?_)) | refine WpF.seq (WpF.seq (WpF.row hT (by decide) (by decide) (evh ?_))) | refine WpF.seq (WpF.seq (WpF.seq (WpF.row hT (by decide) (by decide) (evh ?_))))
      first | refine WpF.cond (by decide) rfl (fun _ => ?_) (fun e => by cases e) | refine WpF.seq (WpF.cond (by decide) rfl (fun _ => ?_) (fun e => by cases e)) | refine WpF.seq (WpF.seq (WpF.cond (by decide) rfl (fun _ => ?_) (fun e => by cases e))) | refine WpF.seq (WpF.seq (WpF.seq (WpF.cond (by decide) rfl (fun _ => ?_) (fun e => by cases e))))
      first | refine WpF.row hT (by decide) (by decide) (evh ?_) | refine WpF.seq (WpF.row hT (by decide) (by decide) (evh ?_)) | refine WpF.seq (WpF.seq (WpF.row hT (by decide) (by decide) (evh ?_))) | refine WpF.seq (WpF.seq (WpF.seq (WpF.row hT (by decide) (by decide) (evh ?_))))
      refine WpF.ret ⟨.inr rfl, evr ?_⟩
      trivial
  rw [if_neg e6] at h
  have q3 : (x.f0 == 6) = false := by simpa using e6
  clear e6
  first | refine WpF.row hT (by decide) (by decide) (evh ?_) | refine WpF.seq (WpF.row hT (by decide) (by decide) (evh ?_)) | refine WpF.seq (WpF.seq (WpF.row hT (by decide) (by decide) (evh ?_))) | refine WpF.seq (WpF.seq (WpF.seq (WpF.row hT (by decide) (by decide) (evh ?_))))
  first | refine WpF.cond (by decide) rfl (fun e => by cases e) (fun _ => WpF.skip ?_) | refine WpF.seq (WpF.cond (by decide) rfl (fun e => by cases e) (fun _ => WpF.skip ?_)) | refine WpF.seq (WpF.seq (WpF.cond (by decide) rfl (fun e => by cases e) (fun _ => WpF.skip ?_))) | refine WpF.seq (WpF.seq (WpF.seq (WpF.cond (by decide) rfl (fun e => by cases e) (fun _ => WpF.skip ?_))))
  cases h
  first | refine WpF.row hT (by decide) (by decide) (evh ?_) | refine WpF.seq (WpF.row hT (by decide) (by decide) (evh ?_)) | refine WpF.seq (WpF.seq (WpF.row hT (by decide) (by decide) (evh ?_))) | refine WpF.seq (WpF.seq (WpF.seq (WpF.row hT (by decide) (by decide) (evh ?_))))
  refine WpF.ret ⟨.inr rfl, evr ?_⟩
  trivial
end Go.Proofs.YtmpmbnmldmpmiaaGreatDoor.Sim
