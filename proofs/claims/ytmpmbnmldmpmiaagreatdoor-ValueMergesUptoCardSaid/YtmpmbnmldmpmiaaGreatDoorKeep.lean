/- Texts of this claim, put together. -/
import Derived.Test.YtmpmbnmldmpmiaaGreatDoorOrdP
import Derived.Test.YtmpmbnmldmpmiaaGreatDoorRefA
import Derived.Test.YtmpmbnmldmpmiaaGreatDoorA28
set_option linter.unusedVariables false
set_option linter.unusedSimpArgs false
namespace Go.Proofs.YtmpmbnmldmpmiaaGreatDoor.Sim
open Go Go.RowKit Go.Proofs.YtmpmbnmldmpmiaaGreatDoor.A Go.Proofs.YtmpmbnmldmpmiaaGreatDoorW.PrintWords Go.Proofs.YtmpmbnmldmpmiaaGreatDoorW.PrintLast Go.Proofs.YtmpmbnmldmpmiaaGreatDoorW.PrintMore
theorem posL_cases (key : ByteArray) : ∀ (l : List ByteArray) (i : Nat), (posL key l i = -1 ∧ ∀ k ∈ l, k ≠ key) ∨ ∃ j : Nat, posL key l i = ((i + j : Nat) : Int) ∧ ∃ h : j < l.length, l[j] = key ∧ ∀ k ∈ l.take j, k ≠ key
  | [], i => .inl ⟨rfl, fun k h => by cases h⟩
  | x :: r, i => by
    unfold posL
    by_cases h : (x.toList == key.toList) = true
    · rw [if_pos h]
      exact .inr ⟨0, rfl, by simp, toList_inj (by simpa using h), fun k hk => by simp at hk⟩
    · rw [if_neg h]
      have hne : x ≠ key := fun e => h (by rw [e]; simp)
      rcases posL_cases key r (i + 1) with ⟨h1, h2⟩ | ⟨j, h1, h2, h3, h4⟩
      · refine .inl ⟨h1, fun k hk => ?_⟩
        rcases List.mem_cons.1 hk with rfl | hk
        · exact hne
        · exact h2 k hk
      · refine .inr ⟨j + 1, by rw [h1]; congr 1; omega, by simp; omega, by simpa using h3, fun k hk => ?_⟩
        rw [List.take_succ_cons] at hk
        rcases List.mem_cons.1 hk with rfl | hk
        · exact hne
        · exact h4 k hk
theorem posL_none {key : ByteArray} {l : List ByteArray} {i : Nat} (h : ∀ k ∈ l, k ≠ key) : posL key l i = -1 := by
  rcases posL_cases key l i with ⟨h1, _⟩ | ⟨j, _, h2, h3, _⟩
  · exact h1
  · exact absurd h3 (h _ (List.getElem_mem h2))
def objV (l : List S27) (ks : List ByteArray) : S27 := ⟨6, 0, ⟨#[]⟩, l, ks⟩
end Go.Proofs.YtmpmbnmldmpmiaaGreatDoor.Sim
set_option linter.unusedVariables false
set_option linter.unusedSimpArgs false
set_option maxRecDepth 100000
namespace Go.Proofs.YtmpmbnmldmpmiaaGreatDoor.Sim
open Go Go.RowKit Go.Proofs.YtmpmbnmldmpmiaaGreatDoor.A Go.Proofs.YtmpmbnmldmpmiaaGreatDoorW.PrintWords Go.Proofs.YtmpmbnmldmpmiaaGreatDoorW.PrintLast Go.Proofs.YtmpmbnmldmpmiaaGreatDoorW.PrintMore
set_option maxHeartbeats 1000000 in
theorem at_gv {v : World} {x : S27} {u : Value} (h : Vr v x u) (key : ByteArray) : Gv Tryz.prog 56 [u, .string key] v fun u' _ => u' = .int .i64 (posL key x.f4 0) := by
  obtain ⟨A3, c3, A4, c4, rfl, h3, h4⟩ := h
  refine Gv.run Tryz.func56 (by kernel_rfl) rfl rfl rfl rfl fun b hb => ?_
  subst hb
  first | refine WpB.row (by decide) (by decide) (ev ?_) | refine WpB.seq (WpB.row (by decide) (by decide) (ev ?_)) | refine WpB.seq (WpB.seq (WpB.row (by decide) (by decide) (ev ?_))) | refine WpB.seq (WpB.seq (WpB.seq (WpB.row (by decide) (by decide) (ev ?_))))
  first | refine WpB.row (by decide) (by decide) (evh ?_) | refine WpB.seq (WpB.row (by decide) (by decide) (evh ?_)) | refine WpB.seq (WpB.seq (WpB.row (by decide) (by decide) (evh ?_))) | refine WpB.seq (WpB.seq (WpB.seq (WpB.row (by decide) (by decide) (evh ?_))))
  first | refine WpB.block ?_ | refine WpB.seq (WpB.block ?_) | refine WpB.seq (WpB.seq (WpB.block ?_)) | refine WpB.seq (WpB.seq (WpB.seq (WpB.block ?_)))
  refine WpB.loop (fun m b' F S => ∃ (i : Nat), b' = b ∧ S = ⟨[(0, .row [.s (.int .i64 x.f0), .s (.float .f64 x.f1), .s (.string x.f2), .s (.slice A3 x.f3.length c3), .s (.slice A4 x.f4.length c4)] 27 none .no)], 1, 0⟩ ∧ F 1 = .s (.string key) ∧ F 8 = .s (.slice A4 x.f4.length c4) ∧ F 9 = .s (.int .i64 (x.f4.length : Int)) ∧ F 10 = .s (.int .i64 (i : Int)) ∧ i ≤ x.f4.length ∧ m = x.f4.length - i ∧ posL key (x.f4.drop i) i = posL key x.f4 0) x.f4.length ⟨0, rfl, rfl, rfl, rfl, rfl, rfl, Nat.zero_le _, rfl, rfl⟩ ?_
  rintro m b' F S ⟨i, rfl, rfl, f1, f8, f9, f10, hi, rfl, hp⟩
  first | refine WpB.row (by decide) (by decide) (evh ?_) | refine WpB.seq (WpB.row (by decide) (by decide) (evh ?_)) | refine WpB.seq (WpB.seq (WpB.row (by decide) (by decide) (evh ?_))) | refine WpB.seq (WpB.seq (WpB.seq (WpB.row (by decide) (by decide) (evh ?_))))
  have hmax := h4.1.2.1
  by_cases hlt : i < x.f4.length
  · obtain ⟨k', off, rfl, x1⟩ := h4.get hlt
    have g0 : (0 : Int) ≤ (i : Int) := by omega
    have g1 : (i : Int) < (x.f4.length : Int) := by omega
    have d7 : IntKind.i64.wrap ((i : Int) + 1) = ((i + 1 : Nat) : Int) := by rw [IntKind.wrap_i64]; omega
    rw [List.drop_eq_getElem_cons hlt, posL] at hp
    first | refine WpB.cond (by decide) rfl (fun _ => WpB.skip ?_) (fun e => by first | (cases e; done) | exact absurd g1 (of_decide_eq_false e)) | refine WpB.seq (WpB.cond (by decide) rfl (fun _ => WpB.skip ?_) (fun e => by first | (cases e; done) | exact absurd g1 (of_decide_eq_false e))) | refine WpB.seq (WpB.seq (WpB.cond (by decide) rfl (fun _ => WpB.skip ?_) (fun e => by first | (cases e; done) | exact absurd g1 (of_decide_eq_false e)))) | refine WpB.seq (WpB.seq (WpB.seq (WpB.cond (by decide) rfl (fun _ => WpB.skip ?_) (fun e => by first | (cases e; done) | exact absurd g1 (of_decide_eq_false e)))))
    first | refine WpB.block ?_ | refine WpB.seq (WpB.block ?_) | refine WpB.seq (WpB.seq (WpB.block ?_)) | refine WpB.seq (WpB.seq (WpB.seq (WpB.block ?_)))
    first | refine WpB.row (by decide) (by decide) (evh ?_) | refine WpB.seq (WpB.row (by decide) (by decide) (evh ?_)) | refine WpB.seq (WpB.seq (WpB.row (by decide) (by decide) (evh ?_))) | refine WpB.seq (WpB.seq (WpB.seq (WpB.row (by decide) (by decide) (evh ?_))))
    first | refine WpB.row (by decide) (by decide) (evh ?_) | refine WpB.seq (WpB.row (by decide) (by decide) (evh ?_)) | refine WpB.seq (WpB.seq (WpB.row (by decide) (by decide) (evh ?_))) | refine WpB.seq (WpB.seq (WpB.seq (WpB.row (by decide) (by decide) (evh ?_))))
    cases hq : (x.f4[i].toList == key.toList) with
    | true =>
      rw [hq, if_pos rfl] at hp
      first | refine WpB.cond (by decide) rfl (fun _ => ?_) (fun e => by cases e) | refine WpB.seq (WpB.cond (by decide) rfl (fun _ => ?_) (fun e => by cases e)) | refine WpB.seq (WpB.seq (WpB.cond (by decide) rfl (fun _ => ?_) (fun e => by cases e))) | refine WpB.seq (WpB.seq (WpB.seq (WpB.cond (by decide) rfl (fun _ => ?_) (fun e => by cases e))))
      first | refine WpB.row (by decide) (by decide) (evh ?_) | refine WpB.seq (WpB.row (by decide) (by decide) (evh ?_)) | refine WpB.seq (WpB.seq (WpB.row (by decide) (by decide) (evh ?_))) | refine WpB.seq (WpB.seq (WpB.seq (WpB.row (by decide) (by decide) (evh ?_))))
      refine WpB.ret ⟨.inr rfl, evr ?_⟩
      trivial
    | false =>
      rw [hq, if_neg (by simp)] at hp
      first | refine WpB.cond (by decide) rfl (fun e => by cases e) (fun _ => WpB.skip ?_) | refine WpB.seq (WpB.cond (by decide) rfl (fun e => by cases e) (fun _ => WpB.skip ?_)) | refine WpB.seq (WpB.seq (WpB.cond (by decide) rfl (fun e => by cases e) (fun _ => WpB.skip ?_))) | refine WpB.seq (WpB.seq (WpB.seq (WpB.cond (by decide) rfl (fun e => by cases e) (fun _ => WpB.skip ?_))))
      first | refine WpB.row (by decide) (by decide) (evh ?_) | refine WpB.seq (WpB.row (by decide) (by decide) (evh ?_)) | refine WpB.seq (WpB.seq (WpB.row (by decide) (by decide) (evh ?_))) | refine WpB.seq (WpB.seq (WpB.seq (WpB.row (by decide) (by decide) (evh ?_))))
      exact ⟨x.f4.length - (i + 1), by omega, i + 1, rfl, rfl, f1, f8, f9, by rw [← d7]; rfl, hlt, rfl, hp⟩
  · have g1 : ¬ ((i : Int) < (x.f4.length : Int)) := by omega
    first | refine WpB.cond (by decide) rfl (fun e => by first | (cases e; done) | exact absurd (of_decide_eq_true e) g1) (fun _ => WpB.exit ?_) | refine WpB.seq (WpB.cond (by decide) rfl (fun e => by first | (cases e; done) | exact absurd (of_decide_eq_true e) g1) (fun _ => WpB.exit ?_)) | refine WpB.seq (WpB.seq (WpB.cond (by decide) rfl (fun e => by first | (cases e; done) | exact absurd (of_decide_eq_true e) g1) (fun _ => WpB.exit ?_))) | refine WpB.seq (WpB.seq (WpB.seq (WpB.cond (by decide) rfl (fun e => by first | (cases e; done) | exact absurd (of_decide_eq_true e) g1) (fun _ => WpB.exit ?_))))
    rw [List.drop_eq_nil_of_le (by omega), posL] at hp
    first | refine WpB.row (by decide) (by decide) (evh ?_) | refine WpB.seq (WpB.row (by decide) (by decide) (evh ?_)) | refine WpB.seq (WpB.seq (WpB.row (by decide) (by decide) (evh ?_))) | refine WpB.seq (WpB.seq (WpB.seq (WpB.row (by decide) (by decide) (evh ?_))))
    refine WpB.ret ⟨.inr rfl, evr ?_⟩
    trivial
set_option maxHeartbeats 1000000 in
theorem get_ex {v : World} {x : S27} {u : Value} (h : Vr v x u) (hl : x.f4.length ≤ x.f3.length) (key : ByteArray) : ∃ uy, Vr v (getL x key).1 uy ∧ Gv Tryz.prog 14 [u, .string key] v fun u' v' => u' = .tuple #[uy, .bool (getL x key).2] := by
  have hp := at_gv h key
  have hr := posL_range key x.f4 0
  unfold getL
  obtain ⟨A3, c3, A4, c4, rfl, h3, h4⟩ := h
  generalize posL key x.f4 0 = p at hr hp
  by_cases hneg : p < 0
  · rw [if_pos hneg]
    refine ⟨_, Vr.z, ?_⟩
    refine Gv.run Tryz.func14 (by kernel_rfl) rfl rfl rfl rfl fun b hb => ?_
    subst hb
    have hge : ¬ (p ≥ 0) := by omega
    first | refine WpB.row (by decide) (by decide) (ev ?_) | refine WpB.seq (WpB.row (by decide) (by decide) (ev ?_)) | refine WpB.seq (WpB.seq (WpB.row (by decide) (by decide) (ev ?_))) | refine WpB.seq (WpB.seq (WpB.seq (WpB.row (by decide) (by decide) (ev ?_))))
    first | refine WpB.row (by decide) (by decide) (evh ?_) | refine WpB.seq (WpB.row (by decide) (by decide) (evh ?_)) | refine WpB.seq (WpB.seq (WpB.row (by decide) (by decide) (evh ?_))) | refine WpB.seq (WpB.seq (WpB.seq (WpB.row (by decide) (by decide) (evh ?_))))
    refine SeqB.callQ (by decide) (hp.okx _) (by decide) rfl rfl rfl rfl ?_
    rintro u S' ⟨rfl, rfl⟩ _
    refine evh ?_
    first | refine WpB.row (by decide) (by decide) (evh ?_) | refine WpB.seq (WpB.row (by decide) (by decide) (evh ?_)) | refine WpB.seq (WpB.seq (WpB.row (by decide) (by decide) (evh ?_))) | refine WpB.seq (WpB.seq (WpB.seq (WpB.row (by decide) (by decide) (evh ?_))))
    first | refine WpB.cond (by decide) rfl (fun e => by first | (cases e; done) | exact absurd (of_decide_eq_true e) hge) (fun _ => WpB.skip ?_) | refine WpB.seq (WpB.cond (by decide) rfl (fun e => by first | (cases e; done) | exact absurd (of_decide_eq_true e) hge) (fun _ => WpB.skip ?_)) | refine WpB.seq (WpB.seq (WpB.cond (by decide) rfl (fun e => by first | (cases e; done) | exact absurd (of_decide_eq_true e) hge) (fun _ => WpB.skip ?_))) | refine WpB.seq (WpB.seq (WpB.seq (WpB.cond (by decide) rfl (fun e => by first | (cases e; done) | exact absurd (of_decide_eq_true e) hge) (fun _ => WpB.skip ?_))))
    first | refine WpB.row (by decide) (by decide) (evh ?_) | refine WpB.seq (WpB.row (by decide) (by decide) (evh ?_)) | refine WpB.seq (WpB.seq (WpB.row (by decide) (by decide) (evh ?_))) | refine WpB.seq (WpB.seq (WpB.seq (WpB.row (by decide) (by decide) (evh ?_))))
    refine WpB.ret ⟨.inr rfl, evr ?_⟩
    trivial
  · rw [if_neg hneg]
    have hp0 : 0 ≤ p := by omega
    have hplt : p < x.f3.length := by
      rcases hr with h | ⟨j, h, hj⟩
      · omega
      · omega
    obtain ⟨j, rfl⟩ : ∃ j : Nat, p = j := ⟨p.toNat, by omega⟩
    have hj : j < x.f3.length := by omega
    obtain ⟨k, off, cs, P3, p3, P4, p4, rfl, hw, hx, r3, r4⟩ := h3.get hj
    refine ⟨.agg #[.int .i64 x.f3[j].f0, .float .f64 x.f3[j].f1, .string x.f3[j].f2, .slice P3 x.f3[j].f3.length p3, .slice P4 x.f3[j].f4.length p4], ?_, ?_⟩
    · rw [Int.toNat_natCast, List.getElem?_eq_getElem hj]
      exact ⟨_, _, _, _, rfl, r3, r4⟩
    refine Gv.run Tryz.func14 (by kernel_rfl) rfl rfl rfl rfl fun b hb => ?_
    subst hb
    have hge : (j : Int) ≥ 0 := by omega
    first | refine WpB.row (by decide) (by decide) (ev ?_) | refine WpB.seq (WpB.row (by decide) (by decide) (ev ?_)) | refine WpB.seq (WpB.seq (WpB.row (by decide) (by decide) (ev ?_))) | refine WpB.seq (WpB.seq (WpB.seq (WpB.row (by decide) (by decide) (ev ?_))))
    first | refine WpB.row (by decide) (by decide) (evh ?_) | refine WpB.seq (WpB.row (by decide) (by decide) (evh ?_)) | refine WpB.seq (WpB.seq (WpB.row (by decide) (by decide) (evh ?_))) | refine WpB.seq (WpB.seq (WpB.seq (WpB.row (by decide) (by decide) (evh ?_))))
    refine SeqB.callQ (by decide) (hp.okx _) (by decide) rfl rfl rfl rfl ?_
    rintro u S' ⟨rfl, rfl⟩ _
    refine evh ?_
    first | refine WpB.row (by decide) (by decide) (evh ?_) | refine WpB.seq (WpB.row (by decide) (by decide) (evh ?_)) | refine WpB.seq (WpB.seq (WpB.row (by decide) (by decide) (evh ?_))) | refine WpB.seq (WpB.seq (WpB.seq (WpB.row (by decide) (by decide) (evh ?_))))
    first | refine WpB.cond (by decide) rfl (fun _ => ?_) (fun e => by first | (cases e; done) | exact absurd hge (of_decide_eq_false e)) | refine WpB.seq (WpB.cond (by decide) rfl (fun _ => ?_) (fun e => by first | (cases e; done) | exact absurd hge (of_decide_eq_false e))) | refine WpB.seq (WpB.seq (WpB.cond (by decide) rfl (fun _ => ?_) (fun e => by first | (cases e; done) | exact absurd hge (of_decide_eq_false e)))) | refine WpB.seq (WpB.seq (WpB.seq (WpB.cond (by decide) rfl (fun _ => ?_) (fun e => by first | (cases e; done) | exact absurd hge (of_decide_eq_false e)))))
    first | refine WpB.row (by decide) (by decide) (evh ?_) | refine WpB.seq (WpB.row (by decide) (by decide) (evh ?_)) | refine WpB.seq (WpB.seq (WpB.row (by decide) (by decide) (evh ?_))) | refine WpB.seq (WpB.seq (WpB.seq (WpB.row (by decide) (by decide) (evh ?_))))
    refine WpB.ret ⟨.inr rfl, evr ?_⟩
    trivial
end Go.Proofs.YtmpmbnmldmpmiaaGreatDoor.Sim
set_option linter.unusedVariables false
set_option linter.unusedSimpArgs false
set_option maxRecDepth 100000
namespace Go.Proofs.YtmpmbnmldmpmiaaGreatDoor.Sim
open Go Go.RowKit Go.Proofs.YtmpmbnmldmpmiaaGreatDoor.A Go.Proofs.YtmpmbnmldmpmiaaGreatDoorW.PrintWords Go.Proofs.YtmpmbnmldmpmiaaGreatDoorW.PrintLast Go.Proofs.YtmpmbnmldmpmiaaGreatDoorW.PrintMore
theorem zeros_length (z : Array Value) (n : Nat) : (zeros z n).length = n := by simp [zeros]
theorem zeros_drop (z : Array Value) (n k : Nat) (h : z.size = k) : (zeros z ((n + 1) * k)).drop (n * k) = zeros z k := by
  apply List.ext_getElem?
  intro i
  rw [List.getElem?_drop]
  unfold zeros
  simp only [List.getElem?_map]
  rcases Nat.lt_or_ge i k with hi | hi
  · rw [List.getElem?_range (by rw [Nat.add_mul, Nat.one_mul]; omega), List.getElem?_range hi]
    simp only [Option.map_some]
    rw [h, Nat.add_comm, Nat.add_mul_mod_self_right]
  · rw [List.getElem?_eq_none (by rw [List.length_range, Nat.add_mul, Nat.one_mul]; omega), List.getElem?_eq_none (by rw [List.length_range]; omega)]
theorem zeros_fill (z : Array Value) (n k : Nat) (h : z.size = k) (l : List V) (hl : l.length = n * k) : setRange (zeros z ((n + 1) * k)) 0 l = l ++ zeros z k := by
  unfold setRange
  rw [List.take_zero, List.nil_append, Nat.zero_add, hl, zeros_drop z n k h]
def zS : List V := [.s (.string (⟨#[]⟩ : ByteArray))]
def zV : List V := [.s (.int .i64 0), .s (.float .f64 0), .s (.string (⟨#[]⟩ : ByteArray)), .s (.slice none 0 0), .s (.slice none 0 0)]
theorem all_one3 {w : World} : ∀ (l : List S27) (xs : List Value), Fl k27 w l xs → (xs.map V.s).all one = true
  | [], xs, h => by
    have : xs = [] := List.eq_nil_of_length_eq_zero (by have := h.1; simpa using this)
    subst this
    rfl
  | x :: r, xs, h => by
    have h0 := h.2 0 x rfl
    rw [Nat.zero_mul, List.drop_zero] at h0
    obtain ⟨A3, c3, A4, c4, e, _, _, _, _⟩ := k27_open h0
    have hd : Fl k27 w r (xs.drop (1 * 5)) := h.drop 1
    have ih := all_one3 r _ hd
    have e : xs.take 5 = _ := e
    rw [← List.take_append_drop 5 xs, List.map_append, List.all_append, e]
    rw [Nat.one_mul] at ih
    rw [ih]
    rfl
theorem all_one4 {w : World} : ∀ (l : List ByteArray) (xs : List Value), Fl Kd.string w l xs → (xs.map V.s).all one = true
  | [], xs, h => by
    have : xs = [] := List.eq_nil_of_length_eq_zero (by have := h.1; simpa using this)
    subst this
    rfl
  | x :: r, xs, h => by
    have h0 := h.2 0 x rfl
    rw [Nat.zero_mul, List.drop_zero] at h0
    have hd : Fl Kd.string w r (xs.drop (1 * 1)) := h.drop 1
    have ih := all_one4 r _ hd
    have e : xs.take 1 = [.string x] := h0
    rw [← List.take_append_drop 1 xs, List.map_append, List.all_append, e]
    rw [Nat.one_mul] at ih
    rw [ih]
    rfl
set_option maxHeartbeats 2000000 in
theorem own_ok {v : World} {x : S27} {A3 A4 : Option Addr} {c3 c4 : Nat} (h3 : Rw v x.f3 A3 c3) (h4 : Sw v x.f4 A4 c4) (h3l : x.f3.length ≤ 1759218604400) (h4l : x.f4.length ≤ 8796093021952) (b : Bs) (hb : b.v = v) :
    ∃ xs3 xs4, Fl k27 v x.f3 xs3 ∧ Fl Kd.string v x.f4 xs4 ∧ ∀ (H : Heap) (N L : Nat), Ok Tryz.prog b 86 [.s (.agg #[.int .i64 x.f0, .float .f64 x.f1, .string x.f2, .slice A3 x.f3.length c3, .slice A4 x.f4.length c4])] ⟨H, N, L⟩ fun r S' => ∃ lo, r = .agg [.s (.int .i64 6), .s (.float .f64 0), .s (.string (⟨#[]⟩ : ByteArray)), .slc (N + 15) 0 x.f3.length (some (x.f3.length + 1)), .slc (N + 6) 0 x.f4.length (some (x.f4.length + 1))] ∧ S' = ⟨(N + 6, .row (xs4.map .s ++ zS) 9 none .no) :: (N + 15, .row (xs3.map .s ++ zV) 27 none .no) :: (N + 1, .row [.s (.int .i64 6), .s (.float .f64 0), .s (.string (⟨#[]⟩ : ByteArray)), .slc (N + 15) 0 x.f3.length (some (x.f3.length + 1)), .slc (N + 6) 0 x.f4.length (some (x.f4.length + 1))] 27 none .no) :: (N, .row [.s (.int .i64 x.f0), .s (.float .f64 x.f1), .s (.string x.f2), .s (.slice A3 x.f3.length c3), .s (.slice A4 x.f4.length c4)] 27 none .no) :: H, N + 19, lo⟩ := by
  subst hb
  have hT : Tab (whole b.v) b := whole_tab b
  obtain ⟨xs3, fl3, src3⟩ := C_flat (c := c3) h3.1 (show 0 < k27.sz by decide)
  obtain ⟨xs4, fl4, src4⟩ := C_flat (c := c4) h4.1 (show 0 < Kd.string.sz by decide)
  refine ⟨xs3, xs4, fl3, fl4, ?_⟩
  have src3 : ∀ H, srcX (whole b.v) 5 (.s (.slice A3 x.f3.length c3)) H = some (x.f3.length, xs3.map .s) := src3
  have src4 : ∀ H, srcX (whole b.v) 1 (.s (.slice A4 x.f4.length c4)) H = some (x.f4.length, xs4.map .s) := src4
  have l3 : xs3.length = x.f3.length * 5 := fl3.1
  have l4 : xs4.length = x.f4.length := by have := fl4.1; rw [show Kd.string.sz = 1 from rfl, Nat.mul_one] at this; exact this
  generalize hn3 : x.f3.length = n3 at *
  generalize hn4 : x.f4.length = n4 at *
  have m3 : (xs3.map V.s).length = n3 * 5 := by rw [List.length_map, l3]
  have m4 : (xs4.map V.s).length = n4 * 1 := by rw [List.length_map, l4, Nat.mul_one]
  have f3 := zeros_fill #[.int .i64 0, .float .f64 0, .string (⟨#[]⟩ : ByteArray), .slice none 0 0, .slice none 0 0] n3 5 rfl _ m3
  have f4 := zeros_fill #[.string (⟨#[]⟩ : ByteArray)] n4 1 rfl _ m4
  rw [Nat.mul_one] at f4
  have y3 : zeros #[.int .i64 0, .float .f64 0, .string (⟨#[]⟩ : ByteArray), .slice none 0 0, .slice none 0 0] 5 = zV := by rfl
  have y4 : zeros #[.string (⟨#[]⟩ : ByteArray)] 1 = zS := by rfl
  rw [y3] at f3
  rw [y4] at f4
  obtain ⟨p3, hp3⟩ : ∃ p, p = n3 + 1 := ⟨_, rfl⟩
  obtain ⟨p4, hp4⟩ : ∃ p, p = n4 + 1 := ⟨_, rfl⟩
  rw [← hp3] at f3
  rw [← hp4] at f4
  have w3 : IntKind.i64.wrap ((n3 : Int) + 1) = (p3 : Int) := by rw [IntKind.wrap_i64]; omega
  have w4 : IntKind.i64.wrap ((n4 : Int) + 1) = (p4 : Int) := by rw [IntKind.wrap_i64]; omega
  have a1 : (0 : Int) ≤ (p3 : Int) := by omega
  have a2 : (0 : Int) ≤ (p4 : Int) := by omega
  have a3 : (p3 : Int) ≤ 281474976710656 := by omega
  have a4 : (p4 : Int) ≤ 281474976710656 := by omega
  have a5 : 80 * p3 ≤ 281474976710656 := by omega
  have a6 : 16 * p4 ≤ 281474976710656 := by omega
  have z3 : ∀ z, (zeros z (p3 * 5)).length = p3 * 5 := fun z => zeros_length _ _
  have z4 : ∀ z, (zeros z p4).length = p4 := fun z => zeros_length _ _
  have e3 : n3 * 5 ≤ p3 * 5 := by omega
  have e5 : n3 ≤ p3 := by omega
  have e6 : n4 ≤ p4 := by omega
  have o3 := all_one3 _ _ fl3
  have o4 := all_one4 _ _ fl4
  have HP3 := Hide.mk hp3
  have HP4 := Hide.mk hp4
  clear hp3 hp4
  have FL3 := Hide.mk fl3
  have FL4 := Hide.mk fl4
  clear fl3 fl4 m3 m4 y3 y4 h3 h4 h3l h4l hn3 hn4
  intro H N L
  refine Ok.run hT Tryz.func86 (by kernel_rfl) rfl rfl rfl rfl ?_
  first | refine WpF.row hT (by decide) (by decide) (ev ?_) | refine WpF.seq (WpF.row hT (by decide) (by decide) (ev ?_)) | refine WpF.seq (WpF.seq (WpF.row hT (by decide) (by decide) (ev ?_))) | refine WpF.seq (WpF.seq (WpF.seq (WpF.row hT (by decide) (by decide) (ev ?_))))
  refine WpF.seq (WpF.drawE hT (by kernel_rfl) (by decide) noCall_ok (ks := [(3, 15), (0, 1), (0, 1), (0, 1)])
    (ds := [[], [0], [1], [2], [3], [], [5], [4, 6], [], [8], [9], [10], [11], [], [13], [12, 14, 7], [7, 15], [16, 15, 0, 1, 2, 3, 4, 5, 6, 7, 8, 9, 10, 11, 12, 13, 14, 15, 16]])
    (ancs := [0, 1, 3, 7, 15, 0, 32, 127, 0, 256, 768, 1792, 3840, 0, 8192, 32767, 65535, 131071]) (by kernel_rfl) fun hnew => ?_)
  have hN : newsX (N + 2) H = [] := by
    have h1 : Nat.ble (N + 2) (N + 1) = false := by rw [ble_eq]; exact decide_eq_false (by omega)
    have h2 : Nat.ble (N + 2) N = false := by rw [ble_eq]; exact decide_eq_false (by omega)
    have := hnew (N + 2) (Nat.le_refl _)
    simpa only [newsX, h1, h2, cond_false, Bool.false_eq_true, if_false] using this
  have hq : ∀ k, N + k + 2 = N + (k + 2) := fun k => Nat.add_assoc _ _ _
  clear hnew
  refine evh ?_
  refine WpF.ret ⟨.inr rfl, evr ?_⟩
  rw [← HP3.out, ← HP4.out]
  exact ⟨_, rfl, rfl⟩
end Go.Proofs.YtmpmbnmldmpmiaaGreatDoor.Sim
set_option linter.unusedVariables false
set_option linter.unusedSimpArgs false
set_option maxRecDepth 100000
namespace Go.Proofs.YtmpmbnmldmpmiaaGreatDoor.Sim
open Go Go.RowKit Go.Proofs.YtmpmbnmldmpmiaaGreatDoor.A Go.Proofs.YtmpmbnmldmpmiaaGreatDoorW.PrintWords Go.Proofs.YtmpmbnmldmpmiaaGreatDoorW.PrintLast Go.Proofs.YtmpmbnmldmpmiaaGreatDoorW.PrintMore
theorem Fl_str {w : World} : ∀ {l : List ByteArray} {xs : List Value}, Fl Kd.string w l xs → xs = l.map Value.string
  | [], xs, h => List.eq_nil_of_length_eq_zero (by have := h.1; simpa using this)
  | x :: r, xs, h => by
    have h0 := h.2 0 x rfl
    rw [Nat.zero_mul, List.drop_zero] at h0
    have hd : Fl Kd.string w r (xs.drop (1 * 1)) := h.drop 1
    have ih := Fl_str hd
    have e : xs.take 1 = [.string x] := h0
    rw [Nat.one_mul] at ih
    rw [← List.take_append_drop 1 xs, e, ih]
    rfl
end Go.Proofs.YtmpmbnmldmpmiaaGreatDoor.Sim
set_option linter.unusedVariables false
set_option linter.unusedSimpArgs false
namespace Go.Proofs.YtmpmbnmldmpmiaaGreatDoor.Sim
open Go Go.RowKit Go.Lib Go.Proofs.YtmpmbnmldmpmiaaGreatDoor.A Go.Proofs.YtmpmbnmldmpmiaaGreatDoorW.PrintWords Go.Proofs.YtmpmbnmldmpmiaaGreatDoorW.PrintLast Go.Proofs.YtmpmbnmldmpmiaaGreatDoorW.PrintMore
structure Gw (x : S27) : Prop where
  str : x.f2.size ≤ 140737488351232
  list : x.f3.length ≤ 1759218604391
  keys : x.f4.length ≤ 8796093021952
  each : ∀ k ∈ x.f4, k.size ≤ 140737488351232
  kids : ∀ y ∈ x.f3, G27 y
end Go.Proofs.YtmpmbnmldmpmiaaGreatDoor.Sim
set_option linter.unusedVariables false
set_option linter.unusedSimpArgs false
set_option maxRecDepth 100000
namespace Go.Proofs.YtmpmbnmldmpmiaaGreatDoor.Sim
open Go Go.RowKit Go.Proofs.YtmpmbnmldmpmiaaGreatDoor.A Go.Proofs.YtmpmbnmldmpmiaaGreatDoorW.PrintWords Go.Proofs.YtmpmbnmldmpmiaaGreatDoorW.PrintLast Go.Proofs.YtmpmbnmldmpmiaaGreatDoorW.PrintMore
theorem Fl.set {α : Type} {d : Kd α} {w : World} {l : List α} {xs : List Value} (h : Fl d w l xs) {j : Nat} (hj : j < l.length) {y : α} {cs : List Value} (k : d.K w y cs) : Fl d w (l.set j y) (xs.take (j * d.sz) ++ cs ++ xs.drop ((j + 1) * d.sz)) := by
  rw [List.set_eq_take_append_cons_drop, if_pos hj]
  have := ((h.take j).append (Fl.one k)).append (h.drop (j + 1))
  rw [List.append_assoc, List.singleton_append] at this
  exact this
theorem setRange_lits (xs cs : List Value) (off : Nat) (h : off + cs.length ≤ xs.length) (z : List V) : setRange (xs.map V.s ++ z) off (cs.map V.s) = (xs.take off ++ cs ++ xs.drop (off + cs.length)).map V.s ++ z := by
  unfold setRange
  rw [List.length_map, List.take_append_of_le_length (by rw [List.length_map]; omega), List.drop_append_of_le_length (by rw [List.length_map]; omega)]
  simp [List.map_take, List.map_drop]
theorem setRange_end (xs cs : List Value) (z : List V) (h : z.length = cs.length) : setRange (xs.map V.s ++ z) xs.length (cs.map V.s) = (xs ++ cs).map V.s := by
  unfold setRange
  rw [List.take_left' (by rw [List.length_map]), ← List.drop_drop, List.drop_left' (by rw [List.length_map]), List.length_map, List.drop_of_length_le (by omega)]
  simp
def zsL : List Value := [.string (⟨#[]⟩ : ByteArray)]
def zvL : List Value := [.int .i64 0, .float .f64 0, .string (⟨#[]⟩ : ByteArray), .slice none 0 0, .slice none 0 0]
/-- An element's cells. -/
def celL (x : S27) (A3 : Option Addr) (c3 : Nat) (A4 : Option Addr) (c4 : Nat) : List Value := [.int .i64 x.f0, .float .f64 x.f1, .string x.f2, .slice A3 x.f3.length c3, .slice A4 x.f4.length c4]
end Go.Proofs.YtmpmbnmldmpmiaaGreatDoor.Sim
set_option linter.unusedVariables false
set_option linter.unusedSimpArgs false
set_option maxRecDepth 100000
namespace Go.Proofs.YtmpmbnmldmpmiaaGreatDoor.Sim
open Go Go.RowKit Go.Proofs.YtmpmbnmldmpmiaaGreatDoor.A Go.Proofs.YtmpmbnmldmpmiaaGreatDoorW.PrintWords Go.Proofs.YtmpmbnmldmpmiaaGreatDoorW.PrintLast Go.Proofs.YtmpmbnmldmpmiaaGreatDoorW.PrintMore
end Go.Proofs.YtmpmbnmldmpmiaaGreatDoor.Sim
set_option linter.unusedVariables false
set_option linter.unusedSimpArgs false
set_option maxRecDepth 100000
namespace Go.Proofs.YtmpmbnmldmpmiaaGreatDoor.Sim
open Go Go.RowKit Go.Proofs.YtmpmbnmldmpmiaaGreatDoor.A Go.Proofs.YtmpmbnmldmpmiaaGreatDoorW.PrintWords Go.Proofs.YtmpmbnmldmpmiaaGreatDoorW.PrintLast Go.Proofs.YtmpmbnmldmpmiaaGreatDoorW.PrintMore
end Go.Proofs.YtmpmbnmldmpmiaaGreatDoor.Sim
set_option linter.unusedVariables false
set_option linter.unusedSimpArgs false
set_option maxRecDepth 100000
namespace Go.Proofs.YtmpmbnmldmpmiaaGreatDoor.Sim
open Go Go.RowKit Go.Proofs.YtmpmbnmldmpmiaaGreatDoor.A Go.Proofs.YtmpmbnmldmpmiaaGreatDoorW.PrintWords Go.Proofs.YtmpmbnmldmpmiaaGreatDoorW.PrintLast Go.Proofs.YtmpmbnmldmpmiaaGreatDoorW.PrintMore Go.Proofs.YtmpmbnmldmpmiaaGreatDoorW.FM
theorem bits_gv (v : World) (a : Nat) : Gv Tryz.prog 81 [.float .f64 a] v fun u v' => u = .int .u64 a := fun w h1 h2 =>
  .inl ⟨_, w, run_ext_bits Tryz.func81 rfl rfl rfl rfl a w, Below.refl _ _, v, ⟨Known.refl v, Nat.le_refl _⟩, h1, h2, fun _ _ h => h, rfl⟩
set_option maxHeartbeats 1000000 in
theorem same02_gv (v : World) (a : Nat) : Gv Tryz.prog 57 [.float .f64 a, .float .f64 a] v fun u v' => u = .bool true := by
  have q : ((a : Int) == (a : Int)) = true := by simp
  refine Gv.run Tryz.func57 (by kernel_rfl) rfl rfl rfl rfl fun b hb => ?_
  subst hb
  first | refine WpB.row (by decide) (by decide) (ev ?_) | refine WpB.seq (WpB.row (by decide) (by decide) (ev ?_)) | refine WpB.seq (WpB.seq (WpB.row (by decide) (by decide) (ev ?_))) | refine WpB.seq (WpB.seq (WpB.seq (WpB.row (by decide) (by decide) (ev ?_))))
  first | refine WpB.row (by decide) (by decide) (evh ?_) | refine WpB.seq (WpB.row (by decide) (by decide) (evh ?_)) | refine WpB.seq (WpB.seq (WpB.row (by decide) (by decide) (evh ?_))) | refine WpB.seq (WpB.seq (WpB.seq (WpB.row (by decide) (by decide) (evh ?_))))
  refine SeqB.callQ (by decide) ((bits_gv _ a).okx _) (by decide) rfl rfl rfl rfl ?_
  rintro u S' ⟨rfl, rfl⟩ _
  refine evh ?_
  refine SeqB.callQ (by decide) ((bits_gv _ a).okx _) (by decide) rfl rfl rfl rfl ?_
  rintro u S' ⟨rfl, rfl⟩ _
  refine evh ?_
  refine WpB.ret ⟨.inr rfl, evr ?_⟩
  trivial
set_option maxHeartbeats 1000000 in
theorem texts_gv {v : World} {l : List ByteArray} {A B : Option Addr} {c d : Nat} (hl : Sw v l A c) (hm : Sw v l B d) : Gv Tryz.prog 41 [.slice A l.length c, .slice B l.length d] v fun u _ => u = .bool true := by
  have q0 : ((l.length : Int) != (l.length : Int)) = false := by simp
  have hmax := hl.1.2.1
  refine Gv.run Tryz.func41 (by kernel_rfl) rfl rfl rfl rfl fun b hb => ?_
  subst hb
  first | refine WpB.row (by decide) (by decide) (ev ?_) | refine WpB.seq (WpB.row (by decide) (by decide) (ev ?_)) | refine WpB.seq (WpB.seq (WpB.row (by decide) (by decide) (ev ?_))) | refine WpB.seq (WpB.seq (WpB.seq (WpB.row (by decide) (by decide) (ev ?_))))
  first | refine WpB.row (by decide) (by decide) (evh ?_) | refine WpB.seq (WpB.row (by decide) (by decide) (evh ?_)) | refine WpB.seq (WpB.seq (WpB.row (by decide) (by decide) (evh ?_))) | refine WpB.seq (WpB.seq (WpB.seq (WpB.row (by decide) (by decide) (evh ?_))))
  first | refine WpB.cond (by decide) rfl (fun e => by cases e) (fun _ => WpB.skip ?_) | refine WpB.seq (WpB.cond (by decide) rfl (fun e => by cases e) (fun _ => WpB.skip ?_)) | refine WpB.seq (WpB.seq (WpB.cond (by decide) rfl (fun e => by cases e) (fun _ => WpB.skip ?_))) | refine WpB.seq (WpB.seq (WpB.seq (WpB.cond (by decide) rfl (fun e => by cases e) (fun _ => WpB.skip ?_))))
  first | refine WpB.row (by decide) (by decide) (evh ?_) | refine WpB.seq (WpB.row (by decide) (by decide) (evh ?_)) | refine WpB.seq (WpB.seq (WpB.row (by decide) (by decide) (evh ?_))) | refine WpB.seq (WpB.seq (WpB.seq (WpB.row (by decide) (by decide) (evh ?_))))
  first | refine WpB.block ?_ | refine WpB.seq (WpB.block ?_) | refine WpB.seq (WpB.seq (WpB.block ?_)) | refine WpB.seq (WpB.seq (WpB.seq (WpB.block ?_)))
  refine WpB.loop (fun m b' F S => ∃ (i : Nat), b' = b ∧ S = ⟨[], 0, 0⟩ ∧ F 0 = .s (.slice A l.length c) ∧ F 1 = .s (.slice B l.length d) ∧ F 5 = .s (.int .i64 (i : Int)) ∧ i ≤ l.length ∧ m = l.length - i) l.length ⟨0, rfl, rfl, rfl, rfl, rfl, Nat.zero_le _, rfl⟩ ?_
  rintro m b' F S ⟨i, rfl, rfl, f0, f1, f5, hi, rfl⟩
  by_cases hlt : i < l.length
  · obtain ⟨k', off, rfl, x1⟩ := hl.get hlt
    obtain ⟨k2, off2, rfl, x2⟩ := hm.get hlt
    have g0 : (0 : Int) ≤ (i : Int) := by omega
    have g1 : (i : Int) < (l.length : Int) := by omega
    have d7 : IntKind.i64.wrap ((i : Int) + 1) = ((i + 1 : Nat) : Int) := by rw [IntKind.wrap_i64]; omega
    have q1 : (l[i].toList == l[i].toList) = true := by simp
    first | refine WpB.row (by decide) (by decide) (evh ?_) | refine WpB.seq (WpB.row (by decide) (by decide) (evh ?_)) | refine WpB.seq (WpB.seq (WpB.row (by decide) (by decide) (evh ?_))) | refine WpB.seq (WpB.seq (WpB.seq (WpB.row (by decide) (by decide) (evh ?_))))
    first | refine WpB.cond (by decide) rfl (fun _ => WpB.skip ?_) (fun e => by first | (cases e; done) | exact absurd g1 (of_decide_eq_false e)) | refine WpB.seq (WpB.cond (by decide) rfl (fun _ => WpB.skip ?_) (fun e => by first | (cases e; done) | exact absurd g1 (of_decide_eq_false e))) | refine WpB.seq (WpB.seq (WpB.cond (by decide) rfl (fun _ => WpB.skip ?_) (fun e => by first | (cases e; done) | exact absurd g1 (of_decide_eq_false e)))) | refine WpB.seq (WpB.seq (WpB.seq (WpB.cond (by decide) rfl (fun _ => WpB.skip ?_) (fun e => by first | (cases e; done) | exact absurd g1 (of_decide_eq_false e)))))
    first | refine WpB.block ?_ | refine WpB.seq (WpB.block ?_) | refine WpB.seq (WpB.seq (WpB.block ?_)) | refine WpB.seq (WpB.seq (WpB.seq (WpB.block ?_)))
    first | refine WpB.draw (by kernel_rfl) (by decide) [0, 1, 2, 3, 4, 5, 6, 7, 8] (by kernel_rfl) (by kernel_rfl) (by kernel_rfl) (by kernel_rfl) (by kernel_rfl) rfl (evh ?_) | refine WpB.seq (WpB.draw (by kernel_rfl) (by decide) [0, 1, 2, 3, 4, 5, 6, 7, 8] (by kernel_rfl) (by kernel_rfl) (by kernel_rfl) (by kernel_rfl) (by kernel_rfl) rfl (evh ?_)) | refine WpB.seq (WpB.seq (WpB.draw (by kernel_rfl) (by decide) [0, 1, 2, 3, 4, 5, 6, 7, 8] (by kernel_rfl) (by kernel_rfl) (by kernel_rfl) (by kernel_rfl) (by kernel_rfl) rfl (evh ?_))) | refine WpB.seq (WpB.seq (WpB.seq (WpB.draw (by kernel_rfl) (by decide) [0, 1, 2, 3, 4, 5, 6, 7, 8] (by kernel_rfl) (by kernel_rfl) (by kernel_rfl) (by kernel_rfl) (by kernel_rfl) rfl (evh ?_))))
    first | refine WpB.cond (by decide) rfl (fun e => by cases e) (fun _ => WpB.skip ?_) | refine WpB.seq (WpB.cond (by decide) rfl (fun e => by cases e) (fun _ => WpB.skip ?_)) | refine WpB.seq (WpB.seq (WpB.cond (by decide) rfl (fun e => by cases e) (fun _ => WpB.skip ?_))) | refine WpB.seq (WpB.seq (WpB.seq (WpB.cond (by decide) rfl (fun e => by cases e) (fun _ => WpB.skip ?_))))
    first | refine WpB.row (by decide) (by decide) (evh ?_) | refine WpB.seq (WpB.row (by decide) (by decide) (evh ?_)) | refine WpB.seq (WpB.seq (WpB.row (by decide) (by decide) (evh ?_))) | refine WpB.seq (WpB.seq (WpB.seq (WpB.row (by decide) (by decide) (evh ?_))))
    exact ⟨l.length - (i + 1), by omega, i + 1, rfl, rfl, f0, f1, by rw [← d7]; rfl, hlt, rfl⟩
  · have g1 : ¬ ((i : Int) < (l.length : Int)) := by omega
    first | refine WpB.row (by decide) (by decide) (evh ?_) | refine WpB.seq (WpB.row (by decide) (by decide) (evh ?_)) | refine WpB.seq (WpB.seq (WpB.row (by decide) (by decide) (evh ?_))) | refine WpB.seq (WpB.seq (WpB.seq (WpB.row (by decide) (by decide) (evh ?_))))
    first | refine WpB.cond (by decide) rfl (fun e => by first | (cases e; done) | exact absurd (of_decide_eq_true e) g1) (fun _ => WpB.exit ?_) | refine WpB.seq (WpB.cond (by decide) rfl (fun e => by first | (cases e; done) | exact absurd (of_decide_eq_true e) g1) (fun _ => WpB.exit ?_)) | refine WpB.seq (WpB.seq (WpB.cond (by decide) rfl (fun e => by first | (cases e; done) | exact absurd (of_decide_eq_true e) g1) (fun _ => WpB.exit ?_))) | refine WpB.seq (WpB.seq (WpB.seq (WpB.cond (by decide) rfl (fun e => by first | (cases e; done) | exact absurd (of_decide_eq_true e) g1) (fun _ => WpB.exit ?_))))
    first | refine WpB.row (by decide) (by decide) (evh ?_) | refine WpB.seq (WpB.row (by decide) (by decide) (evh ?_)) | refine WpB.seq (WpB.seq (WpB.row (by decide) (by decide) (evh ?_))) | refine WpB.seq (WpB.seq (WpB.seq (WpB.row (by decide) (by decide) (evh ?_))))
    refine WpB.ret ⟨.inr rfl, evr ?_⟩
    trivial
set_option maxHeartbeats 1000000 in
theorem rowsSame_gv {v : World} {l : List S27} {A B : Option Addr} {c d : Nat} (hl : Rw v l A c) (hm : Rw v l B d)
    (ih : ∀ x ∈ l, ∀ (v : World) (ux uy : Value), Vr v x ux → Vr v x uy → Gv Tryz.prog 15 [ux, uy] v fun u _ => u = .bool true) : Gv Tryz.prog 58 [.slice A l.length c, .slice B l.length d] v fun u _ => u = .bool true := by
  have q0 : ((l.length : Int) != (l.length : Int)) = false := by simp
  have hmax := hl.1.2.1
  refine Gv.run Tryz.func58 (by kernel_rfl) rfl rfl rfl rfl fun b hb => ?_
  subst hb
  first | refine WpB.row (by decide) (by decide) (ev ?_) | refine WpB.seq (WpB.row (by decide) (by decide) (ev ?_)) | refine WpB.seq (WpB.seq (WpB.row (by decide) (by decide) (ev ?_))) | refine WpB.seq (WpB.seq (WpB.seq (WpB.row (by decide) (by decide) (ev ?_))))
  first | refine WpB.row (by decide) (by decide) (evh ?_) | refine WpB.seq (WpB.row (by decide) (by decide) (evh ?_)) | refine WpB.seq (WpB.seq (WpB.row (by decide) (by decide) (evh ?_))) | refine WpB.seq (WpB.seq (WpB.seq (WpB.row (by decide) (by decide) (evh ?_))))
  first | refine WpB.cond (by decide) rfl (fun e => by cases e) (fun _ => WpB.skip ?_) | refine WpB.seq (WpB.cond (by decide) rfl (fun e => by cases e) (fun _ => WpB.skip ?_)) | refine WpB.seq (WpB.seq (WpB.cond (by decide) rfl (fun e => by cases e) (fun _ => WpB.skip ?_))) | refine WpB.seq (WpB.seq (WpB.seq (WpB.cond (by decide) rfl (fun e => by cases e) (fun _ => WpB.skip ?_))))
  first | refine WpB.row (by decide) (by decide) (evh ?_) | refine WpB.seq (WpB.row (by decide) (by decide) (evh ?_)) | refine WpB.seq (WpB.seq (WpB.row (by decide) (by decide) (evh ?_))) | refine WpB.seq (WpB.seq (WpB.seq (WpB.row (by decide) (by decide) (evh ?_))))
  first | refine WpB.block ?_ | refine WpB.seq (WpB.block ?_) | refine WpB.seq (WpB.seq (WpB.block ?_)) | refine WpB.seq (WpB.seq (WpB.seq (WpB.block ?_)))
  refine WpB.loop (fun m b' F S => ∃ (i : Nat), b' = b ∧ S = ⟨[], 0, 0⟩ ∧ F 0 = .s (.slice A l.length c) ∧ F 1 = .s (.slice B l.length d) ∧ F 5 = .s (.int .i64 (i : Int)) ∧ i ≤ l.length ∧ m = l.length - i) l.length ⟨0, rfl, rfl, rfl, rfl, rfl, Nat.zero_le _, rfl⟩ ?_
  rintro m b' F S ⟨i, rfl, rfl, f0, f1, f5, hi, rfl⟩
  by_cases hlt : i < l.length
  · have g0 : (0 : Int) ≤ (i : Int) := by omega
    have g1 : (i : Int) < (l.length : Int) := by omega
    have d7 : IntKind.i64.wrap ((i : Int) + 1) = ((i + 1 : Nat) : Int) := by rw [IntKind.wrap_i64]; omega
    obtain ⟨k, off, cs, P3, p3, P4, p4, rfl, hw, hx, r3, r4⟩ := hl.get hlt
    obtain ⟨k2, off2, cs2, Q3, q3, Q4, q4, rfl, hw2, hx2, s3, s4⟩ := hm.get hlt
    have hcall := ih _ (List.getElem_mem hlt) b'.v _ _ ⟨_, _, _, _, rfl, r3, r4⟩ ⟨_, _, _, _, rfl, s3, s4⟩
    first | refine WpB.row (by decide) (by decide) (evh ?_) | refine WpB.seq (WpB.row (by decide) (by decide) (evh ?_)) | refine WpB.seq (WpB.seq (WpB.row (by decide) (by decide) (evh ?_))) | refine WpB.seq (WpB.seq (WpB.seq (WpB.row (by decide) (by decide) (evh ?_))))
    first | refine WpB.cond (by decide) rfl (fun _ => WpB.skip ?_) (fun e => by first | (cases e; done) | exact absurd g1 (of_decide_eq_false e)) | refine WpB.seq (WpB.cond (by decide) rfl (fun _ => WpB.skip ?_) (fun e => by first | (cases e; done) | exact absurd g1 (of_decide_eq_false e))) | refine WpB.seq (WpB.seq (WpB.cond (by decide) rfl (fun _ => WpB.skip ?_) (fun e => by first | (cases e; done) | exact absurd g1 (of_decide_eq_false e)))) | refine WpB.seq (WpB.seq (WpB.seq (WpB.cond (by decide) rfl (fun _ => WpB.skip ?_) (fun e => by first | (cases e; done) | exact absurd g1 (of_decide_eq_false e)))))
    first | refine WpB.block ?_ | refine WpB.seq (WpB.block ?_) | refine WpB.seq (WpB.seq (WpB.block ?_)) | refine WpB.seq (WpB.seq (WpB.seq (WpB.block ?_)))
    first | refine WpB.draw (by kernel_rfl) (by decide) [0, 1, 2, 3, 4, 5, 6, 7, 8, 9] (by kernel_rfl) (by kernel_rfl) (by kernel_rfl) (by kernel_rfl) (by kernel_rfl) rfl (evh ?_) | refine WpB.seq (WpB.draw (by kernel_rfl) (by decide) [0, 1, 2, 3, 4, 5, 6, 7, 8, 9] (by kernel_rfl) (by kernel_rfl) (by kernel_rfl) (by kernel_rfl) (by kernel_rfl) rfl (evh ?_)) | refine WpB.seq (WpB.seq (WpB.draw (by kernel_rfl) (by decide) [0, 1, 2, 3, 4, 5, 6, 7, 8, 9] (by kernel_rfl) (by kernel_rfl) (by kernel_rfl) (by kernel_rfl) (by kernel_rfl) rfl (evh ?_))) | refine WpB.seq (WpB.seq (WpB.seq (WpB.draw (by kernel_rfl) (by decide) [0, 1, 2, 3, 4, 5, 6, 7, 8, 9] (by kernel_rfl) (by kernel_rfl) (by kernel_rfl) (by kernel_rfl) (by kernel_rfl) rfl (evh ?_))))
    refine ⟨_, _, _, _, rfl, CallB.of_ok (Gv.okx (hcall) _), ?_⟩
    rintro b2 u ⟨rfl, rfl⟩
    refine evh ?_
    first | refine WpB.cond (by decide) rfl (fun e => by cases e) (fun _ => WpB.skip ?_) | refine WpB.seq (WpB.cond (by decide) rfl (fun e => by cases e) (fun _ => WpB.skip ?_)) | refine WpB.seq (WpB.seq (WpB.cond (by decide) rfl (fun e => by cases e) (fun _ => WpB.skip ?_))) | refine WpB.seq (WpB.seq (WpB.seq (WpB.cond (by decide) rfl (fun e => by cases e) (fun _ => WpB.skip ?_))))
    first | refine WpB.row (by decide) (by decide) (evh ?_) | refine WpB.seq (WpB.row (by decide) (by decide) (evh ?_)) | refine WpB.seq (WpB.seq (WpB.row (by decide) (by decide) (evh ?_))) | refine WpB.seq (WpB.seq (WpB.seq (WpB.row (by decide) (by decide) (evh ?_))))
    exact ⟨l.length - (i + 1), by omega, i + 1, rfl, rfl, f0, f1, by rw [← d7]; rfl, hlt, rfl⟩
  · have g1 : ¬ ((i : Int) < (l.length : Int)) := by omega
    first | refine WpB.row (by decide) (by decide) (evh ?_) | refine WpB.seq (WpB.row (by decide) (by decide) (evh ?_)) | refine WpB.seq (WpB.seq (WpB.row (by decide) (by decide) (evh ?_))) | refine WpB.seq (WpB.seq (WpB.seq (WpB.row (by decide) (by decide) (evh ?_))))
    first | refine WpB.cond (by decide) rfl (fun e => by first | (cases e; done) | exact absurd (of_decide_eq_true e) g1) (fun _ => WpB.exit ?_) | refine WpB.seq (WpB.cond (by decide) rfl (fun e => by first | (cases e; done) | exact absurd (of_decide_eq_true e) g1) (fun _ => WpB.exit ?_)) | refine WpB.seq (WpB.seq (WpB.cond (by decide) rfl (fun e => by first | (cases e; done) | exact absurd (of_decide_eq_true e) g1) (fun _ => WpB.exit ?_))) | refine WpB.seq (WpB.seq (WpB.seq (WpB.cond (by decide) rfl (fun e => by first | (cases e; done) | exact absurd (of_decide_eq_true e) g1) (fun _ => WpB.exit ?_))))
    first | refine WpB.row (by decide) (by decide) (evh ?_) | refine WpB.seq (WpB.row (by decide) (by decide) (evh ?_)) | refine WpB.seq (WpB.seq (WpB.row (by decide) (by decide) (evh ?_))) | refine WpB.seq (WpB.seq (WpB.seq (WpB.row (by decide) (by decide) (evh ?_))))
    refine WpB.ret ⟨.inr rfl, evr ?_⟩
    trivial
set_option maxHeartbeats 1000000 in
theorem same_gv : ∀ (n : Nat) (x : S27), SizeOf.sizeOf x ≤ n → ∀ (v : World) (ux uy : Value), Vr v x ux → Vr v x uy → Gv Tryz.prog 15 [ux, uy] v fun u _ => u = .bool true := by
  intro n
  induction n with
  | zero =>
    intro x h
    cases x
    simp at h
  | succ n ih =>
  intro x hn v ux uy hx hy
  have hkids : ∀ y ∈ x.f3, SizeOf.sizeOf y ≤ n := by
    intro y hy
    have := List.sizeOf_lt_of_mem hy
    cases x
    simp at hn this ⊢
    omega
  obtain ⟨A3, c3, A4, c4, rfl, h3, h4⟩ := hx
  obtain ⟨B3, d3, B4, d4, rfl, k3, k4⟩ := hy
  have t1 := texts_gv h4 k4
  have t2 := rowsSame_gv h3 k3 fun y hy => ih y (hkids y hy)
  have t3 := same02_gv v x.f1
  clear hkids ih hn
  have q0 : (x.f0 != x.f0) = false := by simp
  have q1 : (x.f2.toList == x.f2.toList) = true := by simp
  have q3 : ((x.f3.length : Int) != (x.f3.length : Int)) = false := by simp
  refine Gv.run Tryz.func15 (by kernel_rfl) rfl rfl rfl rfl fun b hb => ?_
  subst hb
  first | refine WpB.row (by decide) (by decide) (ev ?_) | refine WpB.seq (WpB.row (by decide) (by decide) (ev ?_)) | refine WpB.seq (WpB.seq (WpB.row (by decide) (by decide) (ev ?_))) | refine WpB.seq (WpB.seq (WpB.seq (WpB.row (by decide) (by decide) (ev ?_))))
  first | refine WpB.row (by decide) (by decide) (evh ?_) | refine WpB.seq (WpB.row (by decide) (by decide) (evh ?_)) | refine WpB.seq (WpB.seq (WpB.row (by decide) (by decide) (evh ?_))) | refine WpB.seq (WpB.seq (WpB.seq (WpB.row (by decide) (by decide) (evh ?_))))
  refine SeqB.callQ (by decide) (t1.okx _) (by decide) rfl rfl rfl rfl ?_
  rintro u S' ⟨rfl, rfl⟩ _
  refine evh ?_
  refine SeqB.callQ (by decide) (t3.okx _) (by decide) rfl rfl rfl rfl ?_
  rintro u S' ⟨rfl, rfl⟩ _
  refine evh ?_
  first | refine WpB.cond (by decide) rfl (fun e => by cases e) (fun _ => WpB.skip ?_) | refine WpB.seq (WpB.cond (by decide) rfl (fun e => by cases e) (fun _ => WpB.skip ?_)) | refine WpB.seq (WpB.seq (WpB.cond (by decide) rfl (fun e => by cases e) (fun _ => WpB.skip ?_))) | refine WpB.seq (WpB.seq (WpB.seq (WpB.cond (by decide) rfl (fun e => by cases e) (fun _ => WpB.skip ?_))))
  first | refine WpB.row (by decide) (by decide) (evh ?_) | refine WpB.seq (WpB.row (by decide) (by decide) (evh ?_)) | refine WpB.seq (WpB.seq (WpB.row (by decide) (by decide) (evh ?_))) | refine WpB.seq (WpB.seq (WpB.seq (WpB.row (by decide) (by decide) (evh ?_))))
  refine SeqB.callQ (by decide) (t2.okx _) (by decide) rfl rfl rfl rfl ?_
  rintro u S' ⟨rfl, rfl⟩ _
  refine evh ?_
  refine WpB.ret ⟨.inr rfl, evr ?_⟩
  trivial
end Go.Proofs.YtmpmbnmldmpmiaaGreatDoor.Sim
set_option linter.unusedVariables false
set_option linter.unusedSimpArgs false
set_option maxRecDepth 100000
namespace Go.Proofs.YtmpmbnmldmpmiaaGreatDoor.Sim
open Go Go.RowKit Go.Proofs.YtmpmbnmldmpmiaaGreatDoor.A Go.Proofs.YtmpmbnmldmpmiaaGreatDoorW.PrintWords Go.Proofs.YtmpmbnmldmpmiaaGreatDoorW.PrintLast Go.Proofs.YtmpmbnmldmpmiaaGreatDoorW.PrintMore
end Go.Proofs.YtmpmbnmldmpmiaaGreatDoor.Sim
set_option linter.unusedVariables false
set_option linter.unusedSimpArgs false
set_option maxRecDepth 100000
namespace Go.Proofs.YtmpmbnmldmpmiaaGreatDoor.Sim
open Go Go.RowKit Go.Proofs.YtmpmbnmldmpmiaaGreatDoor.A Go.Proofs.YtmpmbnmldmpmiaaGreatDoorW.PrintWords Go.Proofs.YtmpmbnmldmpmiaaGreatDoorW.PrintLast Go.Proofs.YtmpmbnmldmpmiaaGreatDoorW.PrintMore
end Go.Proofs.YtmpmbnmldmpmiaaGreatDoor.Sim
