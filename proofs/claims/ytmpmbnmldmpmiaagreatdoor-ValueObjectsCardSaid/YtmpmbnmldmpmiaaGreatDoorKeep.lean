/- Texts of this claim, put together. -/
import Derived.Test.YtmpmbnmldmpmiaaGreatDoorRefA
import Derived.Test.YtmpmbnmldmpmiaaGreatDoorOrdP
import Derived.Test.YtmpmbnmldmpmiaaGreatDoorA28
set_option linter.unusedVariables false
set_option linter.unusedSimpArgs false
set_option maxRecDepth 100000
namespace Go.Proofs.YtmpmbnmldmpmiaaGreatDoor.Sim
open Go Go.RowKit Go.Proofs.YtmpmbnmldmpmiaaGreatDoor.A Go.Proofs.YtmpmbnmldmpmiaaGreatDoorW.PrintWords Go.Proofs.YtmpmbnmldmpmiaaGreatDoorW.PrintLast Go.Proofs.YtmpmbnmldmpmiaaGreatDoorW.PrintMore
set_option maxHeartbeats 1000000 in
theorem at_gv {v : World} {x : S27} {u : Value} (h : Vr v x u) (key : ByteArray) : Gv Tryz.prog 56 [u, .string key] v fun u' _ => u' = .int .i64 (posL key x.f4 0) := by
  obtain ⟨A3, c3, A4, c4, rfl, h3, h4⟩ := h
  refine Gv.run Tryz.func56 (by kernel_rfl) rfl rfl rfl rfl fun b hb => ?_
  subst hb
  first | refine WpB.row (by decide) (by decide) (ev ?_) | refine WpB.seq (WpB.row (by decide) (by decide) (ev ?_)) | refine WpB.seq (WpB.seq (WpB.row (by decide) (by decide) (ev ?_))) | refine WpB.seq (WpB.seq (WpB.seq (WpB.row (by decide) (by decide) (ev ?_))))
  first | refine WpB.row (by decide) (by decide) (evh ?_) | refine WpB.seq (WpB.row (by decide) (by decide) (evh ?_)) | refine WpB.seq (WpB.seq (WpB.row (by decide) (by decide) (evh ?_))) | refine WpB.seq (WpB.seq (WpB.seq (WpB.row (by decide) (by decide) (evh ?_))))
  first | refine WpB.block ?_ | refine WpB.seq (WpB.block ?_) | refine WpB.seq (WpB.seq (WpB.block ?_)) | refine WpB.seq (WpB.seq (WpB.seq (WpB.block ?_)))
  refine WpB.loop (fun m b' F S => ∃ (i : Nat), b' = b ∧ S = ⟨[(0, .row [.s (.int .i64 x.f0), .s (.float .f64 x.f1), .s (.string x.f2), .s (.slice A3 x.f3.length c3), .s (.slice A4 x.f4.length c4)] 27 none .no)], 1, 0⟩ ∧ F 1 = .s (.string key) ∧ F 8 = .s (.slice A4 x.f4.length c4) ∧ F 9 = .s (.int .i64 (x.f4.length : Int)) ∧ F 10 = .s (.int .i64 (i : Int)) ∧ i ≤ x.f4.length ∧ m = x.f4.length - i ∧ posL key (x.f4.drop i) i = posL key x.f4 0) x.f4.length ⟨0, rfl, rfl, rfl, rfl, rfl, rfl, Nat.zero_le _, rfl, rfl⟩ ?_
  rintro m b' F S ⟨i, rfl, rfl, f1, f8, f9, f10, hi, rfl, hp⟩
  first | refine WpB.row (by decide) (by decide) (evh ?_) | refine WpB.seq (WpB.row (by decide) (by decide) (evh ?_)) | refine WpB.seq (WpB.seq (WpB.row (by decide) (by decide) (evh ?_))) | refine WpB.seq (WpB.seq (WpB.seq (WpB.row (by decide) (by decide) (evh ?_))))
  have hmax := h4.1.2.1
  by_cases hlt : i < x.f4.length
  · obtain ⟨k', off, rfl, x1⟩ := h4.get hlt
    have g0 : (0 : Int) ≤ (i : Int) := by omega
    have g1 : (i : Int) < (x.f4.length : Int) := by omega
    have d7 : IntKind.i64.wrap ((i : Int) + 1) = ((i + 1 : Nat) : Int) := by rw [IntKind.wrap_i64]; omega
    rw [List.drop_eq_getElem_cons hlt, posL] at hp
    first | refine WpB.cond (by decide) rfl (fun _ => WpB.skip ?_) (fun e => by first | (cases e; done) | exact absurd g1 (of_decide_eq_false e)) | refine WpB.seq (WpB.cond (by decide) rfl (fun _ => WpB.skip ?_) (fun e => by first | (cases e; done) | exact absurd g1 (of_decide_eq_false e))) | refine WpB.seq (WpB.seq (WpB.cond (by decide) rfl (fun _ => WpB.skip ?_) (fun e => by first | (cases e; done) | exact absurd g1 (of_decide_eq_false e)))) | refine WpB.seq (WpB.seq (WpB.seq (WpB.cond (by decide) rfl (fun _ => WpB.skip ?_) (fun e => by first | (cases e; done) | exact absurd g1 (of_decide_eq_false e)))))
    first | refine WpB.block ?_ | refine WpB.seq (WpB.block ?_) | refine WpB.seq (WpB.seq (WpB.block ?_)) | refine WpB.seq (WpB.seq (WpB.seq (WpB.block ?_)))
    first | refine WpB.row (by decide) (by decide) (evh ?_) | refine WpB.seq (WpB.row (by decide) (by decide) (evh ?_)) | refine WpB.seq (WpB.seq (WpB.row (by decide) (by decide) (evh ?_))) | refine WpB.seq (WpB.seq (WpB.seq (WpB.row (by decide) (by decide) (evh ?_))))
    first | refine WpB.row (by decide) (by decide) (evh ?_) | refine WpB.seq (WpB.row (by decide) (by decide) (evh ?_)) | refine WpB.seq (WpB.seq (WpB.row (by decide) (by decide) (evh ?_))) | refine WpB.seq (WpB.seq (WpB.seq (WpB.row (by decide) (by decide) (evh ?_))))
    cases hq : (x.f4[i].toList == key.toList) with
    | true =>
      rw [hq, if_pos rfl] at hp
      first | refine WpB.cond (by decide) rfl (fun _ => ?_) (fun e => by cases e) | refine WpB.seq (WpB.cond (by decide) rfl (fun _ => ?_) (fun e => by cases e)) | refine WpB.seq (WpB.seq (WpB.cond (by decide) rfl (fun _ => ?_) (fun e => by cases e))) | refine WpB.seq (WpB.seq (WpB.seq (WpB.cond (by decide) rfl (fun _ => ?_) (fun e => by cases e))))
      first | refine WpB.row (by decide) (by decide) (evh ?_) | refine WpB.seq (WpB.row (by decide) (by decide) (evh ?_)) | refine WpB.seq (WpB.seq (WpB.row (by decide) (by decide) (evh ?_))) | refine WpB.seq (WpB.seq (WpB.seq (WpB.row (by decide) (by decide) (evh ?_))))
      refine WpB.ret ⟨.inr rfl, evr ?_⟩
      trivial
    | false =>
      rw [hq, if_neg (by simp)] at hp
      first | refine WpB.cond (by decide) rfl (fun e => by cases e) (fun _ => WpB.skip ?_) | refine WpB.seq (WpB.cond (by decide) rfl (fun e => by cases e) (fun _ => WpB.skip ?_)) | refine WpB.seq (WpB.seq (WpB.cond (by decide) rfl (fun e => by cases e) (fun _ => WpB.skip ?_))) | refine WpB.seq (WpB.seq (WpB.seq (WpB.cond (by decide) rfl (fun e => by cases e) (fun _ => WpB.skip ?_))))
      first | refine WpB.row (by decide) (by decide) (evh ?_) | refine WpB.seq (WpB.row (by decide) (by decide) (evh ?_)) | refine WpB.seq (WpB.seq (WpB.row (by decide) (by decide) (evh ?_))) | refine WpB.seq (WpB.seq (WpB.seq (WpB.row (by decide) (by decide) (evh ?_))))
      exact ⟨x.f4.length - (i + 1), by omega, i + 1, rfl, rfl, f1, f8, f9, by rw [← d7]; rfl, hlt, rfl, hp⟩
  · have g1 : ¬ ((i : Int) < (x.f4.length : Int)) := by omega
    first | refine WpB.cond (by decide) rfl (fun e => by first | (cases e; done) | exact absurd (of_decide_eq_true e) g1) (fun _ => WpB.exit ?_) | refine WpB.seq (WpB.cond (by decide) rfl (fun e => by first | (cases e; done) | exact absurd (of_decide_eq_true e) g1) (fun _ => WpB.exit ?_)) | refine WpB.seq (WpB.seq (WpB.cond (by decide) rfl (fun e => by first | (cases e; done) | exact absurd (of_decide_eq_true e) g1) (fun _ => WpB.exit ?_))) | refine WpB.seq (WpB.seq (WpB.seq (WpB.cond (by decide) rfl (fun e => by first | (cases e; done) | exact absurd (of_decide_eq_true e) g1) (fun _ => WpB.exit ?_))))
    rw [List.drop_eq_nil_of_le (by omega), posL] at hp
    first | refine WpB.row (by decide) (by decide) (evh ?_) | refine WpB.seq (WpB.row (by decide) (by decide) (evh ?_)) | refine WpB.seq (WpB.seq (WpB.row (by decide) (by decide) (evh ?_))) | refine WpB.seq (WpB.seq (WpB.seq (WpB.row (by decide) (by decide) (evh ?_))))
    refine WpB.ret ⟨.inr rfl, evr ?_⟩
    trivial
set_option maxHeartbeats 1000000 in
theorem get_ex {v : World} {x : S27} {u : Value} (h : Vr v x u) (hl : x.f4.length ≤ x.f3.length) (key : ByteArray) : ∃ uy, Vr v (getL x key).1 uy ∧ Gv Tryz.prog 14 [u, .string key] v fun u' v' => u' = .tuple #[uy, .bool (getL x key).2] := by
  have hp := at_gv h key
  have hr := posL_range key x.f4 0
  unfold getL
  obtain ⟨A3, c3, A4, c4, rfl, h3, h4⟩ := h
  generalize posL key x.f4 0 = p at hr hp
  by_cases hneg : p < 0
  · rw [if_pos hneg]
    refine ⟨_, Vr.z, ?_⟩
    refine Gv.run Tryz.func14 (by kernel_rfl) rfl rfl rfl rfl fun b hb => ?_
    subst hb
    have hge : ¬ (p ≥ 0) := by omega
    first | refine WpB.row (by decide) (by decide) (ev ?_) | refine WpB.seq (WpB.row (by decide) (by decide) (ev ?_)) | refine WpB.seq (WpB.seq (WpB.row (by decide) (by decide) (ev ?_))) | refine WpB.seq (WpB.seq (WpB.seq (WpB.row (by decide) (by decide) (ev ?_))))
    first | refine WpB.row (by decide) (by decide) (evh ?_) | refine WpB.seq (WpB.row (by decide) (by decide) (evh ?_)) | refine WpB.seq (WpB.seq (WpB.row (by decide) (by decide) (evh ?_))) | refine WpB.seq (WpB.seq (WpB.seq (WpB.row (by decide) (by decide) (evh ?_))))
    refine SeqB.callQ (by decide) (hp.okx _) (by decide) rfl rfl rfl rfl ?_
    rintro u S' ⟨rfl, rfl⟩ _
    refine evh ?_
    first | refine WpB.row (by decide) (by decide) (evh ?_) | refine WpB.seq (WpB.row (by decide) (by decide) (evh ?_)) | refine WpB.seq (WpB.seq (WpB.row (by decide) (by decide) (evh ?_))) | refine WpB.seq (WpB.seq (WpB.seq (WpB.row (by decide) (by decide) (evh ?_))))
    first | refine WpB.cond (by decide) rfl (fun e => by first | (cases e; done) | exact absurd (of_decide_eq_true e) hge) (fun _ => WpB.skip ?_) | refine WpB.seq (WpB.cond (by decide) rfl (fun e => by first | (cases e; done) | exact absurd (of_decide_eq_true e) hge) (fun _ => WpB.skip ?_)) | refine WpB.seq (WpB.seq (WpB.cond (by decide) rfl (fun e => by first | (cases e; done) | exact absurd (of_decide_eq_true e) hge) (fun _ => WpB.skip ?_))) | refine WpB.seq (WpB.seq (WpB.seq (WpB.cond (by decide) rfl (fun e => by first | (cases e; done) | exact absurd (of_decide_eq_true e) hge) (fun _ => WpB.skip ?_))))
    first | refine WpB.row (by decide) (by decide) (evh ?_) | refine WpB.seq (WpB.row (by decide) (by decide) (evh ?_)) | refine WpB.seq (WpB.seq (WpB.row (by decide) (by decide) (evh ?_))) | refine WpB.seq (WpB.seq (WpB.seq (WpB.row (by decide) (by decide) (evh ?_))))
    refine WpB.ret ⟨.inr rfl, evr ?_⟩
    trivial
  · rw [if_neg hneg]
    have hp0 : 0 ≤ p := by omega
    have hplt : p < x.f3.length := by
      rcases hr with h | ⟨j, h, hj⟩
      · omega
      · omega
    obtain ⟨j, rfl⟩ : ∃ j : Nat, p = j := ⟨p.toNat, by omega⟩
    have hj : j < x.f3.length := by omega
    obtain ⟨k, off, cs, P3, p3, P4, p4, rfl, hw, hx, r3, r4⟩ := h3.get hj
    refine ⟨.agg #[.int .i64 x.f3[j].f0, .float .f64 x.f3[j].f1, .string x.f3[j].f2, .slice P3 x.f3[j].f3.length p3, .slice P4 x.f3[j].f4.length p4], ?_, ?_⟩
    · rw [Int.toNat_natCast, List.getElem?_eq_getElem hj]
      exact ⟨_, _, _, _, rfl, r3, r4⟩
    refine Gv.run Tryz.func14 (by kernel_rfl) rfl rfl rfl rfl fun b hb => ?_
    subst hb
    have hge : (j : Int) ≥ 0 := by omega
    first | refine WpB.row (by decide) (by decide) (ev ?_) | refine WpB.seq (WpB.row (by decide) (by decide) (ev ?_)) | refine WpB.seq (WpB.seq (WpB.row (by decide) (by decide) (ev ?_))) | refine WpB.seq (WpB.seq (WpB.seq (WpB.row (by decide) (by decide) (ev ?_))))
    first | refine WpB.row (by decide) (by decide) (evh ?_) | refine WpB.seq (WpB.row (by decide) (by decide) (evh ?_)) | refine WpB.seq (WpB.seq (WpB.row (by decide) (by decide) (evh ?_))) | refine WpB.seq (WpB.seq (WpB.seq (WpB.row (by decide) (by decide) (evh ?_))))
    refine SeqB.callQ (by decide) (hp.okx _) (by decide) rfl rfl rfl rfl ?_
    rintro u S' ⟨rfl, rfl⟩ _
    refine evh ?_
    first | refine WpB.row (by decide) (by decide) (evh ?_) | refine WpB.seq (WpB.row (by decide) (by decide) (evh ?_)) | refine WpB.seq (WpB.seq (WpB.row (by decide) (by decide) (evh ?_))) | refine WpB.seq (WpB.seq (WpB.seq (WpB.row (by decide) (by decide) (evh ?_))))
    first | refine WpB.cond (by decide) rfl (fun _ => ?_) (fun e => by first | (cases e; done) | exact absurd hge (of_decide_eq_false e)) | refine WpB.seq (WpB.cond (by decide) rfl (fun _ => ?_) (fun e => by first | (cases e; done) | exact absurd hge (of_decide_eq_false e))) | refine WpB.seq (WpB.seq (WpB.cond (by decide) rfl (fun _ => ?_) (fun e => by first | (cases e; done) | exact absurd hge (of_decide_eq_false e)))) | refine WpB.seq (WpB.seq (WpB.seq (WpB.cond (by decide) rfl (fun _ => ?_) (fun e => by first | (cases e; done) | exact absurd hge (of_decide_eq_false e)))))
    first | refine WpB.row (by decide) (by decide) (evh ?_) | refine WpB.seq (WpB.row (by decide) (by decide) (evh ?_)) | refine WpB.seq (WpB.seq (WpB.row (by decide) (by decide) (evh ?_))) | refine WpB.seq (WpB.seq (WpB.seq (WpB.row (by decide) (by decide) (evh ?_))))
    refine WpB.ret ⟨.inr rfl, evr ?_⟩
    trivial
end Go.Proofs.YtmpmbnmldmpmiaaGreatDoor.Sim
set_option linter.unusedVariables false
set_option linter.unusedSimpArgs false
set_option maxRecDepth 100000
namespace Go.Proofs.YtmpmbnmldmpmiaaGreatDoor.Sim
open Go Go.RowKit Go.Proofs.YtmpmbnmldmpmiaaGreatDoor.A Go.Proofs.YtmpmbnmldmpmiaaGreatDoorW.PrintWords Go.Proofs.YtmpmbnmldmpmiaaGreatDoorW.PrintLast Go.Proofs.YtmpmbnmldmpmiaaGreatDoorW.PrintMore
theorem zeros_length (z : Array Value) (n : Nat) : (zeros z n).length = n := by simp [zeros]
theorem zeros_drop (z : Array Value) (n k : Nat) (h : z.size = k) : (zeros z ((n + 1) * k)).drop (n * k) = zeros z k := by
  apply List.ext_getElem?
  intro i
  rw [List.getElem?_drop]
  unfold zeros
  simp only [List.getElem?_map]
  rcases Nat.lt_or_ge i k with hi | hi
  · rw [List.getElem?_range (by rw [Nat.add_mul, Nat.one_mul]; omega), List.getElem?_range hi]
    simp only [Option.map_some]
    rw [h, Nat.add_comm, Nat.add_mul_mod_self_right]
  · rw [List.getElem?_eq_none (by rw [List.length_range, Nat.add_mul, Nat.one_mul]; omega), List.getElem?_eq_none (by rw [List.length_range]; omega)]
theorem zeros_fill (z : Array Value) (n k : Nat) (h : z.size = k) (l : List V) (hl : l.length = n * k) : setRange (zeros z ((n + 1) * k)) 0 l = l ++ zeros z k := by
  unfold setRange
  rw [List.take_zero, List.nil_append, Nat.zero_add, hl, zeros_drop z n k h]
def zS : List V := [.s (.string (⟨#[]⟩ : ByteArray))]
def zV : List V := [.s (.int .i64 0), .s (.float .f64 0), .s (.string (⟨#[]⟩ : ByteArray)), .s (.slice none 0 0), .s (.slice none 0 0)]
theorem all_one3 {w : World} : ∀ (l : List S27) (xs : List Value), Fl k27 w l xs → (xs.map V.s).all one = true
  | [], xs, h => by
    have : xs = [] := List.eq_nil_of_length_eq_zero (by have := h.1; simpa using this)
    subst this
    rfl
  | x :: r, xs, h => by
    have h0 := h.2 0 x rfl
    rw [Nat.zero_mul, List.drop_zero] at h0
    obtain ⟨A3, c3, A4, c4, e, _, _, _, _⟩ := k27_open h0
    have hd : Fl k27 w r (xs.drop (1 * 5)) := h.drop 1
    have ih := all_one3 r _ hd
    have e : xs.take 5 = _ := e
    rw [← List.take_append_drop 5 xs, List.map_append, List.all_append, e]
    rw [Nat.one_mul] at ih
    rw [ih]
    rfl
theorem all_one4 {w : World} : ∀ (l : List ByteArray) (xs : List Value), Fl Kd.string w l xs → (xs.map V.s).all one = true
  | [], xs, h => by
    have : xs = [] := List.eq_nil_of_length_eq_zero (by have := h.1; simpa using this)
    subst this
    rfl
  | x :: r, xs, h => by
    have h0 := h.2 0 x rfl
    rw [Nat.zero_mul, List.drop_zero] at h0
    have hd : Fl Kd.string w r (xs.drop (1 * 1)) := h.drop 1
    have ih := all_one4 r _ hd
    have e : xs.take 1 = [.string x] := h0
    rw [← List.take_append_drop 1 xs, List.map_append, List.all_append, e]
    rw [Nat.one_mul] at ih
    rw [ih]
    rfl
set_option maxHeartbeats 2000000 in
theorem own_ok {v : World} {x : S27} {A3 A4 : Option Addr} {c3 c4 : Nat} (h3 : Rw v x.f3 A3 c3) (h4 : Sw v x.f4 A4 c4) (h3l : x.f3.length ≤ 1759218604400) (h4l : x.f4.length ≤ 8796093021952) (b : Bs) (hb : b.v = v) :
    ∃ xs3 xs4, Fl k27 v x.f3 xs3 ∧ Fl Kd.string v x.f4 xs4 ∧ ∀ (H : Heap) (N L : Nat), Ok Tryz.prog b 86 [.s (.agg #[.int .i64 x.f0, .float .f64 x.f1, .string x.f2, .slice A3 x.f3.length c3, .slice A4 x.f4.length c4])] ⟨H, N, L⟩ fun r S' => ∃ lo, r = .agg [.s (.int .i64 6), .s (.float .f64 0), .s (.string (⟨#[]⟩ : ByteArray)), .slc (N + 15) 0 x.f3.length (some (x.f3.length + 1)), .slc (N + 6) 0 x.f4.length (some (x.f4.length + 1))] ∧ S' = ⟨(N + 6, .row (xs4.map .s ++ zS) 9 none .no) :: (N + 15, .row (xs3.map .s ++ zV) 27 none .no) :: (N + 1, .row [.s (.int .i64 6), .s (.float .f64 0), .s (.string (⟨#[]⟩ : ByteArray)), .slc (N + 15) 0 x.f3.length (some (x.f3.length + 1)), .slc (N + 6) 0 x.f4.length (some (x.f4.length + 1))] 27 none .no) :: (N, .row [.s (.int .i64 x.f0), .s (.float .f64 x.f1), .s (.string x.f2), .s (.slice A3 x.f3.length c3), .s (.slice A4 x.f4.length c4)] 27 none .no) :: H, N + 19, lo⟩ := by
  subst hb
  have hT : Tab (whole b.v) b := whole_tab b
  obtain ⟨xs3, fl3, src3⟩ := C_flat (c := c3) h3.1 (show 0 < k27.sz by decide)
  obtain ⟨xs4, fl4, src4⟩ := C_flat (c := c4) h4.1 (show 0 < Kd.string.sz by decide)
  refine ⟨xs3, xs4, fl3, fl4, ?_⟩
  have src3 : ∀ H, srcX (whole b.v) 5 (.s (.slice A3 x.f3.length c3)) H = some (x.f3.length, xs3.map .s) := src3
  have src4 : ∀ H, srcX (whole b.v) 1 (.s (.slice A4 x.f4.length c4)) H = some (x.f4.length, xs4.map .s) := src4
  have l3 : xs3.length = x.f3.length * 5 := fl3.1
  have l4 : xs4.length = x.f4.length := by have := fl4.1; rw [show Kd.string.sz = 1 from rfl, Nat.mul_one] at this; exact this
  generalize hn3 : x.f3.length = n3 at *
  generalize hn4 : x.f4.length = n4 at *
  have m3 : (xs3.map V.s).length = n3 * 5 := by rw [List.length_map, l3]
  have m4 : (xs4.map V.s).length = n4 * 1 := by rw [List.length_map, l4, Nat.mul_one]
  have f3 := zeros_fill #[.int .i64 0, .float .f64 0, .string (⟨#[]⟩ : ByteArray), .slice none 0 0, .slice none 0 0] n3 5 rfl _ m3
  have f4 := zeros_fill #[.string (⟨#[]⟩ : ByteArray)] n4 1 rfl _ m4
  rw [Nat.mul_one] at f4
  have y3 : zeros #[.int .i64 0, .float .f64 0, .string (⟨#[]⟩ : ByteArray), .slice none 0 0, .slice none 0 0] 5 = zV := by rfl
  have y4 : zeros #[.string (⟨#[]⟩ : ByteArray)] 1 = zS := by rfl
  rw [y3] at f3
  rw [y4] at f4
  obtain ⟨p3, hp3⟩ : ∃ p, p = n3 + 1 := ⟨_, rfl⟩
  obtain ⟨p4, hp4⟩ : ∃ p, p = n4 + 1 := ⟨_, rfl⟩
  rw [← hp3] at f3
  rw [← hp4] at f4
  have w3 : IntKind.i64.wrap ((n3 : Int) + 1) = (p3 : Int) := by rw [IntKind.wrap_i64]; omega
  have w4 : IntKind.i64.wrap ((n4 : Int) + 1) = (p4 : Int) := by rw [IntKind.wrap_i64]; omega
  have a1 : (0 : Int) ≤ (p3 : Int) := by omega
  have a2 : (0 : Int) ≤ (p4 : Int) := by omega
  have a3 : (p3 : Int) ≤ 281474976710656 := by omega
  have a4 : (p4 : Int) ≤ 281474976710656 := by omega
  have a5 : 80 * p3 ≤ 281474976710656 := by omega
  have a6 : 16 * p4 ≤ 281474976710656 := by omega
  have z3 : ∀ z, (zeros z (p3 * 5)).length = p3 * 5 := fun z => zeros_length _ _
  have z4 : ∀ z, (zeros z p4).length = p4 := fun z => zeros_length _ _
  have e3 : n3 * 5 ≤ p3 * 5 := by omega
  have e5 : n3 ≤ p3 := by omega
  have e6 : n4 ≤ p4 := by omega
  have o3 := all_one3 _ _ fl3
  have o4 := all_one4 _ _ fl4
  have HP3 := Hide.mk hp3
  have HP4 := Hide.mk hp4
  clear hp3 hp4
  have FL3 := Hide.mk fl3
  have FL4 := Hide.mk fl4
  clear fl3 fl4 m3 m4 y3 y4 h3 h4 h3l h4l hn3 hn4
  intro H N L
  refine Ok.run hT Tryz.func86 (by kernel_rfl) rfl rfl rfl rfl ?_
  first | refine WpF.row hT (by decide) (by decide) (ev ?_) | refine WpF.seq (WpF.row hT (by decide) (by decide) (ev ?_)) | refine WpF.seq (WpF.seq (WpF.row hT (by decide) (by decide) (ev ?_))) | refine WpF.seq (WpF.seq (WpF.seq (WpF.row hT (by decide) (by decide) (ev ?_))))
  refine WpF.seq (WpF.drawE hT (by kernel_rfl) (by decide) noCall_ok (ks := [(3, 15), (0, 1), (0, 1), (0, 1)])
    (ds := [[], [0], [1], [2], [3], [], [5], [4, 6], [], [8], [9], [10], [11], [], [13], [12, 14, 7], [7, 15], [16, 15, 0, 1, 2, 3, 4, 5, 6, 7, 8, 9, 10, 11, 12, 13, 14, 15, 16]])
    (ancs := [0, 1, 3, 7, 15, 0, 32, 127, 0, 256, 768, 1792, 3840, 0, 8192, 32767, 65535, 131071]) (by kernel_rfl) fun hnew => ?_)
  have hN : newsX (N + 2) H = [] := by
    have h1 : Nat.ble (N + 2) (N + 1) = false := by rw [ble_eq]; exact decide_eq_false (by omega)
    have h2 : Nat.ble (N + 2) N = false := by rw [ble_eq]; exact decide_eq_false (by omega)
    have := hnew (N + 2) (Nat.le_refl _)
    simpa only [newsX, h1, h2, cond_false, Bool.false_eq_true, if_false] using this
  have hq : ∀ k, N + k + 2 = N + (k + 2) := fun k => Nat.add_assoc _ _ _
  clear hnew
  refine evh ?_
  refine WpF.ret ⟨.inr rfl, evr ?_⟩
  rw [← HP3.out, ← HP4.out]
  exact ⟨_, rfl, rfl⟩
end Go.Proofs.YtmpmbnmldmpmiaaGreatDoor.Sim
set_option linter.unusedVariables false
set_option linter.unusedSimpArgs false
set_option maxRecDepth 100000
namespace Go.Proofs.YtmpmbnmldmpmiaaGreatDoor.Sim
open Go Go.RowKit Go.Proofs.YtmpmbnmldmpmiaaGreatDoor.A Go.Proofs.YtmpmbnmldmpmiaaGreatDoorW.PrintWords Go.Proofs.YtmpmbnmldmpmiaaGreatDoorW.PrintLast Go.Proofs.YtmpmbnmldmpmiaaGreatDoorW.PrintMore
theorem Fl_str {w : World} : ∀ {l : List ByteArray} {xs : List Value}, Fl Kd.string w l xs → xs = l.map Value.string
  | [], xs, h => List.eq_nil_of_length_eq_zero (by have := h.1; simpa using this)
  | x :: r, xs, h => by
    have h0 := h.2 0 x rfl
    rw [Nat.zero_mul, List.drop_zero] at h0
    have hd : Fl Kd.string w r (xs.drop (1 * 1)) := h.drop 1
    have ih := Fl_str hd
    have e : xs.take 1 = [.string x] := h0
    rw [Nat.one_mul] at ih
    rw [← List.take_append_drop 1 xs, e, ih]
    rfl
set_option maxHeartbeats 1000000 in
theorem at_ok {b : Bs} {keys : List ByteArray} {key : ByteArray} {f0 : Int} {v3 : V} {H : Heap} {N L id cap : Nat} {cs : List V} (hid : id < N) (hf : find id H = some (.row cs 9 none .no)) (hcs : ∀ i (h : i < keys.length), cs[i]? = some (.s (.string keys[i]))) (hmax : keys.length ≤ 8796093021952) :
    Ok Tryz.prog b 56 [.agg [.s (.int .i64 f0), .s (.float .f64 0), .s (.string (⟨#[]⟩ : ByteArray)), v3, .slc id 0 keys.length (some cap)], .s (.string key)] ⟨H, N, L⟩ fun v S' => ∃ x, v = .s x ∧ x = .int .i64 (posL key keys 0) ∧ S' = ⟨H, N, L⟩ := by
  have hT : Tab (whole b.v) b := whole_tab b
  have e1 : ¬ N = id := by omega
  refine Ok.runQ hT Tryz.func56 (by kernel_rfl) rfl rfl rfl rfl ?_
  first | refine WpF.row hT (by decide) (by decide) (ev ?_) | refine WpF.seq (WpF.row hT (by decide) (by decide) (ev ?_)) | refine WpF.seq (WpF.seq (WpF.row hT (by decide) (by decide) (ev ?_))) | refine WpF.seq (WpF.seq (WpF.seq (WpF.row hT (by decide) (by decide) (ev ?_))))
  first | refine WpF.row hT (by decide) (by decide) (evh ?_) | refine WpF.seq (WpF.row hT (by decide) (by decide) (evh ?_)) | refine WpF.seq (WpF.seq (WpF.row hT (by decide) (by decide) (evh ?_))) | refine WpF.seq (WpF.seq (WpF.seq (WpF.row hT (by decide) (by decide) (evh ?_))))
  first | refine WpF.block ?_ | refine WpF.seq (WpF.block ?_) | refine WpF.seq (WpF.seq (WpF.block ?_)) | refine WpF.seq (WpF.seq (WpF.seq (WpF.block ?_)))
  refine WpF.loop (fun m F S => ∃ (i : Nat), S.heap = (N, .row [.s (.int .i64 f0), .s (.float .f64 0), .s (.string (⟨#[]⟩ : ByteArray)), v3, .slc id 0 keys.length (some cap)] 27 none .no) :: H ∧ S.next = N + 1 ∧ S.low = N ∧ F 1 = .s (.string key) ∧ F 8 = .slc id 0 keys.length (some cap) ∧ F 9 = .s (.int .i64 (keys.length : Int)) ∧ F 10 = .s (.int .i64 (i : Int)) ∧ i ≤ keys.length ∧ m = keys.length - i ∧ posL key (keys.drop i) i = posL key keys 0) keys.length ⟨0, rfl, rfl, rfl, rfl, rfl, rfl, rfl, Nat.zero_le _, rfl, rfl⟩ ?_
  rintro m F ⟨H', N', L'⟩ ⟨i, hH0, hN0, hL0, f1, f8, f9, f10, hi, rfl, hp⟩
  have hH : H' = _ := hH0
  have hN : N' = N + 1 := hN0
  have hL : L' = N := hL0
  clear hH0 hN0 hL0
  subst hH hN
  rw [hL]
  clear hL
  first | refine WpF.row hT (by decide) (by decide) (evh ?_) | refine WpF.seq (WpF.row hT (by decide) (by decide) (evh ?_)) | refine WpF.seq (WpF.seq (WpF.row hT (by decide) (by decide) (evh ?_))) | refine WpF.seq (WpF.seq (WpF.seq (WpF.row hT (by decide) (by decide) (evh ?_))))
  by_cases hlt : i < keys.length
  · have x1 := hcs i hlt
    have g0 : (0 : Int) ≤ (i : Int) := by omega
    have g1 : (i : Int) < (keys.length : Int) := by omega
    have d7 : IntKind.i64.wrap ((i : Int) + 1) = ((i + 1 : Nat) : Int) := by rw [IntKind.wrap_i64]; omega
    rw [List.drop_eq_getElem_cons hlt, posL] at hp
    refine WpF.seq (WpF.cond (by decide) rfl (fun _ => WpF.skip ?_) (fun e => by first | (cases e; done) | exact absurd g1 (of_decide_eq_false e)))
    first | refine WpF.block ?_ | refine WpF.seq (WpF.block ?_) | refine WpF.seq (WpF.seq (WpF.block ?_)) | refine WpF.seq (WpF.seq (WpF.seq (WpF.block ?_)))
    first | refine WpF.row hT (by decide) (by decide) (evh ?_) | refine WpF.seq (WpF.row hT (by decide) (by decide) (evh ?_)) | refine WpF.seq (WpF.seq (WpF.row hT (by decide) (by decide) (evh ?_))) | refine WpF.seq (WpF.seq (WpF.seq (WpF.row hT (by decide) (by decide) (evh ?_))))
    first | refine WpF.row hT (by decide) (by decide) (evh ?_) | refine WpF.seq (WpF.row hT (by decide) (by decide) (evh ?_)) | refine WpF.seq (WpF.seq (WpF.row hT (by decide) (by decide) (evh ?_))) | refine WpF.seq (WpF.seq (WpF.seq (WpF.row hT (by decide) (by decide) (evh ?_))))
    cases hq : (keys[i].toList == key.toList) with
    | true =>
      rw [hq, if_pos rfl] at hp
      first | refine WpF.cond (by decide) rfl (fun _ => ?_) (fun e => by cases e) | refine WpF.seq (WpF.cond (by decide) rfl (fun _ => ?_) (fun e => by cases e)) | refine WpF.seq (WpF.seq (WpF.cond (by decide) rfl (fun _ => ?_) (fun e => by cases e))) | refine WpF.seq (WpF.seq (WpF.seq (WpF.cond (by decide) rfl (fun _ => ?_) (fun e => by cases e))))
      first | refine WpF.row hT (by decide) (by decide) (evh ?_) | refine WpF.seq (WpF.row hT (by decide) (by decide) (evh ?_)) | refine WpF.seq (WpF.seq (WpF.row hT (by decide) (by decide) (evh ?_))) | refine WpF.seq (WpF.seq (WpF.seq (WpF.row hT (by decide) (by decide) (evh ?_))))
      refine WpF.ret ⟨.inr rfl, evr ?_⟩
      trivial
    | false =>
      rw [hq, if_neg (by simp)] at hp
      first | refine WpF.cond (by decide) rfl (fun e => by cases e) (fun _ => WpF.skip ?_) | refine WpF.seq (WpF.cond (by decide) rfl (fun e => by cases e) (fun _ => WpF.skip ?_)) | refine WpF.seq (WpF.seq (WpF.cond (by decide) rfl (fun e => by cases e) (fun _ => WpF.skip ?_))) | refine WpF.seq (WpF.seq (WpF.seq (WpF.cond (by decide) rfl (fun e => by cases e) (fun _ => WpF.skip ?_))))
      first | refine WpF.row hT (by decide) (by decide) (evh ?_) | refine WpF.seq (WpF.row hT (by decide) (by decide) (evh ?_)) | refine WpF.seq (WpF.seq (WpF.row hT (by decide) (by decide) (evh ?_))) | refine WpF.seq (WpF.seq (WpF.seq (WpF.row hT (by decide) (by decide) (evh ?_))))
      exact ⟨keys.length - (i + 1), by omega, i + 1, rfl, rfl, rfl, f1, f8, f9, by rw [← d7]; rfl, hlt, rfl, hp⟩
  · have g1 : ¬ ((i : Int) < (keys.length : Int)) := by omega
    refine WpF.seq (WpF.cond (by decide) rfl (fun e => by first | (cases e; done) | exact absurd (of_decide_eq_true e) g1) (fun _ => WpF.exit ?_))
    rw [List.drop_eq_nil_of_le (by omega), posL] at hp
    first | refine WpF.row hT (by decide) (by decide) (evh ?_) | refine WpF.seq (WpF.row hT (by decide) (by decide) (evh ?_)) | refine WpF.seq (WpF.seq (WpF.row hT (by decide) (by decide) (evh ?_))) | refine WpF.seq (WpF.seq (WpF.seq (WpF.row hT (by decide) (by decide) (evh ?_))))
    refine WpF.ret ⟨.inr rfl, evr ?_⟩
    trivial
end Go.Proofs.YtmpmbnmldmpmiaaGreatDoor.Sim
set_option linter.unusedVariables false
set_option linter.unusedSimpArgs false
namespace Go.Proofs.YtmpmbnmldmpmiaaGreatDoor.Sim
open Go Go.RowKit Go.Proofs.YtmpmbnmldmpmiaaGreatDoor.A Go.Proofs.YtmpmbnmldmpmiaaGreatDoorW.PrintWords Go.Proofs.YtmpmbnmldmpmiaaGreatDoorW.PrintLast Go.Proofs.YtmpmbnmldmpmiaaGreatDoorW.PrintMore
theorem posL_cases (key : ByteArray) : ∀ (l : List ByteArray) (i : Nat), (posL key l i = -1 ∧ ∀ k ∈ l, k ≠ key) ∨ ∃ j : Nat, posL key l i = ((i + j : Nat) : Int) ∧ ∃ h : j < l.length, l[j] = key ∧ ∀ k ∈ l.take j, k ≠ key
  | [], i => .inl ⟨rfl, fun k h => by cases h⟩
  | x :: r, i => by
    unfold posL
    by_cases h : (x.toList == key.toList) = true
    · rw [if_pos h]
      exact .inr ⟨0, rfl, by simp, toList_inj (by simpa using h), fun k hk => by simp at hk⟩
    · rw [if_neg h]
      have hne : x ≠ key := fun e => h (by rw [e]; simp)
      rcases posL_cases key r (i + 1) with ⟨h1, h2⟩ | ⟨j, h1, h2, h3, h4⟩
      · refine .inl ⟨h1, fun k hk => ?_⟩
        rcases List.mem_cons.1 hk with rfl | hk
        · exact hne
        · exact h2 k hk
      · refine .inr ⟨j + 1, by rw [h1]; congr 1; omega, by simp; omega, by simpa using h3, fun k hk => ?_⟩
        rw [List.take_succ_cons] at hk
        rcases List.mem_cons.1 hk with rfl | hk
        · exact hne
        · exact h4 k hk
/-- What stands without a key. -/
theorem zip_keep {α : Type} {key : ByteArray} : ∀ {l : List ByteArray} {m : List α}, l.length = m.length → (∀ k ∈ l, k ≠ key) → (((l.zip m).filter fun p => !(p.1.toList == key.toList)).map (·.2) = m) ∧ l.filter (fun k => !(k.toList == key.toList)) = l
  | [], [], _, _ => ⟨rfl, rfl⟩
  | x :: r, y :: s, hl, h => by
    have hne : x ≠ key := h x List.mem_cons_self
    have h1 : (x.toList == key.toList) = false := by
      rw [Bool.eq_false_iff]
      exact fun e => hne (toList_inj (by simpa using e))
    obtain ⟨g1, g2⟩ := zip_keep (l := r) (m := s) (by simpa using hl) fun k hk => h k (List.mem_cons_of_mem _ hk)
    rw [List.zip_cons_cons, List.filter_cons_of_pos (by simp [h1]), List.filter_cons_of_pos (by simp [h1]), List.map_cons, g1, g2]
    exact ⟨rfl, rfl⟩
theorem zip_drop {α : Type} {key : ByteArray} : ∀ {l : List ByteArray} {m : List α} {j : Nat}, l.length = m.length → (∀ k ∈ l.take j, k ≠ key) → (∀ k ∈ l.drop (j + 1), k ≠ key) → l[j]? = some key → (((l.zip m).filter fun p => !(p.1.toList == key.toList)).map (·.2) = m.take j ++ m.drop (j + 1)) ∧ l.filter (fun k => !(k.toList == key.toList)) = l.take j ++ l.drop (j + 1)
  | x :: r, y :: s, 0, hl, _, h, hx => by
    have hx : x = key := by simpa using hx
    subst hx
    obtain ⟨g1, g2⟩ := zip_keep (key := x) (l := r) (m := s) (by simpa using hl) (by simpa using h)
    rw [List.zip_cons_cons, List.filter_cons_of_neg (by simp), List.filter_cons_of_neg (by simp), g1, g2]
    exact ⟨rfl, rfl⟩
  | x :: r, y :: s, j + 1, hl, h0, h, hx => by
    have hne : x ≠ key := h0 x (by simp)
    have h1 : (x.toList == key.toList) = false := by
      rw [Bool.eq_false_iff]
      exact fun e => hne (toList_inj (by simpa using e))
    obtain ⟨g1, g2⟩ := zip_drop (key := key) (l := r) (m := s) (j := j) (by simpa using hl) (fun k hk => h0 k (by simp [hk])) (by simpa using h) (by simpa using hx)
    rw [List.zip_cons_cons, List.filter_cons_of_pos (by simp [h1]), List.filter_cons_of_pos (by simp [h1]), List.map_cons, g1, g2]
    exact ⟨rfl, rfl⟩
  | [], m, j, hl, _, _, hx => by simp at hx
  | x :: r, [], j, hl, _, _, hx => by simp at hl
theorem others {l : List ByteArray} (h : (l.map kd_).Nodup) {j : Nat} {key : ByteArray} (hx : l[j]? = some key) : ∀ k ∈ l.drop (j + 1), k ≠ key := by
  intro k hk e
  subst e
  obtain ⟨i, hi, e⟩ := List.mem_iff_getElem.1 hk
  obtain ⟨hj, e2⟩ := List.getElem?_eq_some_iff.1 hx
  rw [List.getElem_drop] at e
  have h' := List.pairwise_iff_getElem.1 (show (l.map kd_).Pairwise (· ≠ ·) from h)
  have hi' : j + 1 + i < l.length := by rw [List.length_drop] at hi; omega
  refine h' j (j + 1 + i) (by simpa using hj) (by simpa using hi') (by omega) ?_
  rw [List.getElem_map, List.getElem_map, e, e2]
def objV (l : List S27) (ks : List ByteArray) : S27 := ⟨6, 0, ⟨#[]⟩, l, ks⟩
/-- What Put computes. -/
def putL (x : S27) (key : ByteArray) (y : S27) : S27 := if x.f0 = 6 then (if posL key x.f4 0 < 0 then objV (x.f3 ++ [y]) (x.f4 ++ [key]) else objV (x.f3.set (posL key x.f4 0).toNat y) x.f4) else x
/-- What value.Drop computes. -/
def dropL (x : S27) (key : ByteArray) : S27 := if x.f0 = 6 then (if posL key x.f4 0 < 0 then x else objV (x.f3.take (posL key x.f4 0).toNat ++ x.f3.drop ((posL key x.f4 0).toNat + 1)) (x.f4.take (posL key x.f4 0).toNat ++ x.f4.drop ((posL key x.f4 0).toNat + 1))) else x
/-- What the reference's Drop computes. -/
def dropR (x : S27) (key : ByteArray) : S27 := if x.f0 = 6 then objV (((x.f4.zip x.f3).filter fun p => !(p.1.toList == key.toList)).map (·.2)) (x.f4.filter fun k => !(k.toList == key.toList)) else x
theorem drop_same {x : S27} {key : ByteArray} (h6 : x.f0 = 6 → x.f4.length = x.f3.length ∧ x.f1 = 0 ∧ x.f2.toList = []) (hn : (x.f4.map kd_).Nodup) : dropR x key = dropL x key := by
  unfold dropR dropL
  by_cases h : x.f0 = 6
  · obtain ⟨hl, e1, e2⟩ := h6 h
    rw [if_pos h, if_pos h]
    rcases posL_cases key x.f4 0 with ⟨p1, p2⟩ | ⟨j, p1, p2, p3, p4⟩
    · rw [p1, if_pos (by omega)]
      obtain ⟨g1, g2⟩ := zip_keep (m := x.f3) hl p2
      rw [g1, g2]
      obtain ⟨f0, f1, f2, f3, f4⟩ := x
      have e3 : f2 = ⟨#[]⟩ := toList_inj (by rw [show f2.toList = [] from e2, ByteArray.toList_eq])
      clear e2
      simp only at h e1
      subst h e1 e3
      rfl
    · have hx : x.f4[j]? = some key := by rw [List.getElem?_eq_getElem p2, p3]
      rw [p1, if_neg (by omega), Nat.zero_add, Int.toNat_natCast]
      obtain ⟨g1, g2⟩ := zip_drop (m := x.f3) hl p4 (others hn hx) hx
      rw [g1, g2]
  · rw [if_neg h, if_neg h]
end Go.Proofs.YtmpmbnmldmpmiaaGreatDoor.Sim
set_option linter.unusedVariables false
set_option linter.unusedSimpArgs false
namespace Go.Proofs.YtmpmbnmldmpmiaaGreatDoor.Sim
open Go Go.RowKit Go.Lib Go.Proofs.YtmpmbnmldmpmiaaGreatDoor.A Go.Proofs.YtmpmbnmldmpmiaaGreatDoorW.PrintWords Go.Proofs.YtmpmbnmldmpmiaaGreatDoorW.PrintLast Go.Proofs.YtmpmbnmldmpmiaaGreatDoorW.PrintMore
structure Gw (x : S27) : Prop where
  str : x.f2.size ≤ 140737488351232
  list : x.f3.length ≤ 1759218604391
  keys : x.f4.length ≤ 8796093021952
  each : ∀ k ∈ x.f4, k.size ≤ 140737488351232
  kids : ∀ y ∈ x.f3, G27 y
theorem Gw.of {x : S27} (h : G27 x) : Gw x := by
  cases h with
  | mk x h2 h3 h4 h5 h6 => exact ⟨h2, by omega, h4, h5, h6⟩
theorem Gw.put {x : S27} {key : ByteArray} {y : S27} (h : G27 x) (hk : key.size ≤ 140737488351232) (hy : G27 y) (hl : x.f0 = 6 → x.f4.length = x.f3.length) : Gw (putL x key y) := by
  have hh := h
  cases h with
  | mk x h2 h3 h4 h5 h6 =>
  unfold putL
  split
  · rename_i e6
    have hl := hl e6
    split
    · refine ⟨by simp [objV]; decide, by simp [objV]; omega, by simp [objV]; omega, fun k hm => ?_, fun z hm => ?_⟩
      · have hm : k ∈ x.f4 ++ [key] := hm
        rcases List.mem_append.1 hm with hm | hm
        · exact h5 k hm
        · rw [List.mem_singleton.1 hm]; exact hk
      · have hm : z ∈ x.f3 ++ [y] := hm
        rcases List.mem_append.1 hm with hm | hm
        · exact h6 z hm
        · rw [List.mem_singleton.1 hm]; exact hy
    · refine ⟨by simp [objV]; decide, by simp [objV]; omega, by simp [objV]; omega, fun k hm => h5 k hm, fun z hm => ?_⟩
      have hm : z ∈ x.f3.set _ y := hm
      rcases List.mem_or_eq_of_mem_set hm with hm | hm
      · exact h6 z hm
      · rw [hm]; exact hy
  · exact .of hh
theorem rightW_ev {x : S27} (h : Gw x) : ∀ d : Nat, d ≤ 10000 → Ev (fun k => colanderref03_right.f k x.f0 x.f1 x.f2 x.f3 x.f4 (d : Int)) (rightV d x) := by
  obtain ⟨h2, h3, h4, h5, h6⟩ := h
  intro d hd1
  cases d with
  | zero =>
    refine Ev.succ ?_
    simp only [colanderref03_right.f]
    refine Ev.ite_pos (by omega) (Ev.succ ?_)
    simp only [colanderref03_right.j0]
    exact Ev.ite_pos trivial (Ev.now _)
  | succ d =>
  have e1 := rightV_loop (kd := x.f0) (nm := x.f1) (s := x.f2) (ks := x.f4) (d := d) (by omega) (show x.f3.length ≤ 140737488351232 by omega) (fun y hy => rightV_ev (h6 y hy) d (by omega)) _ 0 rfl (Nat.zero_le _)
  rw [List.drop_zero] at e1
  have hr := fun b => r0_ev h2 h5 h4 e1 b
  have hr1 := hr (decide (x.f0 < 0 ∨ x.f0 > 6))
  simp only [decide_eq_true_eq] at hr1
  rw [rightV]
  refine Ev.succ ?_
  simp only [colanderref03_right.f]
  rw [show ((d + 1 : Nat) : Int) = (d : Int) + 1 by omega]
  refine Ev.ite_neg (by omega) ?_
  by_cases hk : x.f0 < 0
  · refine Ev.ite_pos hk ?_
    have := hr true
    rw [if_pos (.inl hk)] at hr1 ⊢
    simpa using this
  · refine Ev.ite_neg hk ?_
    rw [show decide (x.f0 > 6) = decide (x.f0 < 0 ∨ x.f0 > 6) by rw [Bool.eq_iff_iff]; simp; omega]
    exact hr1
theorem rightW_gv {v : World} {x : S27} {u : Value} (h : Vr v x u) (hg : Gw x) : Gv Tryz.prog 11 [u] v fun u' _ => u' = .bool (rightV 10000 x) := by
  obtain ⟨A3, c3, A4, c4, rfl, h3, h4⟩ := h
  obtain ⟨k, hk⟩ := rightW_ev hg 10000 (Nat.le_refl _)
  have hk : colanderref03_right.f k x.f0 x.f1 x.f2 x.f3 x.f4 ((10000 : Nat) : Int) = some (rightV 10000 x) := hk k (Nat.le_refl _)
  refine (Gv.of_calls Tryz.func11 (by kernel_rfl) rfl fun w hw => ?_).mono fun u v' h _ => h.1
  exact colanderref03_Right.calls k x.f0 x.f1 x.f2 A3 c3 x.f3 A4 c4 x.f4 _ w (h3.up hw).1 h3.2 (h4.up hw).1 h4.2 (by unfold colanderref03_Right.f; rw [show (10000 : Int) = ((10000 : Nat) : Int) from rfl, hk]; rfl)
/-- Is a text valid? -/
theorem valid_gv {v : World} (s : ByteArray) (hs : s.size ≤ 140737488351232) : Gv Tryz.prog 35 [.string s] v fun u _ => u = .bool (validD (kd_ s)) := by
  obtain ⟨k, hk⟩ := valid_ev hs
  have hk := hk k (Nat.le_refl _)
  refine (Gv.of_calls Tryz.func35 (by kernel_rfl) rfl fun w hw => ?_).mono fun u v' h _ => h.1
  exact (colanderref01_Valid.calls k s _ w hk).mono fun e w' ⟨h1, h2⟩ => ⟨h1, h2.below⟩
end Go.Proofs.YtmpmbnmldmpmiaaGreatDoor.Sim
set_option linter.unusedVariables false
set_option linter.unusedSimpArgs false
set_option maxRecDepth 100000
namespace Go.Proofs.YtmpmbnmldmpmiaaGreatDoor.Sim
open Go Go.RowKit Go.Proofs.YtmpmbnmldmpmiaaGreatDoor.A Go.Proofs.YtmpmbnmldmpmiaaGreatDoorW.PrintWords Go.Proofs.YtmpmbnmldmpmiaaGreatDoorW.PrintLast Go.Proofs.YtmpmbnmldmpmiaaGreatDoorW.PrintMore
theorem Fl.set {α : Type} {d : Kd α} {w : World} {l : List α} {xs : List Value} (h : Fl d w l xs) {j : Nat} (hj : j < l.length) {y : α} {cs : List Value} (k : d.K w y cs) : Fl d w (l.set j y) (xs.take (j * d.sz) ++ cs ++ xs.drop ((j + 1) * d.sz)) := by
  rw [List.set_eq_take_append_cons_drop, if_pos hj]
  have := ((h.take j).append (Fl.one k)).append (h.drop (j + 1))
  rw [List.append_assoc, List.singleton_append] at this
  exact this
theorem setRange_lits (xs cs : List Value) (off : Nat) (h : off + cs.length ≤ xs.length) (z : List V) : setRange (xs.map V.s ++ z) off (cs.map V.s) = (xs.take off ++ cs ++ xs.drop (off + cs.length)).map V.s ++ z := by
  unfold setRange
  rw [List.length_map, List.take_append_of_le_length (by rw [List.length_map]; omega), List.drop_append_of_le_length (by rw [List.length_map]; omega)]
  simp [List.map_take, List.map_drop]
theorem setRange_end (xs cs : List Value) (z : List V) (h : z.length = cs.length) : setRange (xs.map V.s ++ z) xs.length (cs.map V.s) = (xs ++ cs).map V.s := by
  unfold setRange
  rw [List.take_left' (by rw [List.length_map]), ← List.drop_drop, List.drop_left' (by rw [List.length_map]), List.length_map, List.drop_of_length_le (by omega)]
  simp
def zsL : List Value := [.string (⟨#[]⟩ : ByteArray)]
def zvL : List Value := [.int .i64 0, .float .f64 0, .string (⟨#[]⟩ : ByteArray), .slice none 0 0, .slice none 0 0]
/-- An element's cells. -/
def celL (x : S27) (A3 : Option Addr) (c3 : Nat) (A4 : Option Addr) (c4 : Nat) : List Value := [.int .i64 x.f0, .float .f64 x.f1, .string x.f2, .slice A3 x.f3.length c3, .slice A4 x.f4.length c4]
set_option maxHeartbeats 2000000 in
theorem put_gv {v : World} {x y : S27} {ux uy : Value} (hx : Vr v x ux) (hy : Vr v y uy) (key : ByteArray) (hl : x.f0 = 6 → x.f4.length = x.f3.length) (h3l : x.f3.length ≤ 1759218604400) : Gv Tryz.prog 39 [ux, .string key, uy] v fun u v' => Vr v' (putL x key y) u := by
  obtain ⟨A3, c3, A4, c4, rfl, h3, h4⟩ := hx
  obtain ⟨B3, d3, B4, d4, rfl, k3, k4⟩ := hy
  have hK := Vr.K k3 k4
  refine Gv.run Tryz.func39 (by kernel_rfl) rfl rfl rfl rfl fun b hb => ?_
  subst hb
  by_cases e6 : x.f0 = 6
  rotate_left
  · have q1 : (x.f0 != 6) = true := by simpa using e6
    have hput : putL x key y = x := by unfold putL; rw [if_neg e6]
    rw [hput]
    clear e6 hput hl
    first | refine WpB.row (by decide) (by decide) (ev ?_) | refine WpB.seq (WpB.row (by decide) (by decide) (ev ?_)) | refine WpB.seq (WpB.seq (WpB.row (by decide) (by decide) (ev ?_))) | refine WpB.seq (WpB.seq (WpB.seq (WpB.row (by decide) (by decide) (ev ?_))))
    first | refine WpB.row (by decide) (by decide) (evh ?_) | refine WpB.seq (WpB.row (by decide) (by decide) (evh ?_)) | refine WpB.seq (WpB.seq (WpB.row (by decide) (by decide) (evh ?_))) | refine WpB.seq (WpB.seq (WpB.seq (WpB.row (by decide) (by decide) (evh ?_))))
    first | refine WpB.cond (by decide) rfl (fun _ => ?_) (fun e => by cases e) | refine WpB.seq (WpB.cond (by decide) rfl (fun _ => ?_) (fun e => by cases e)) | refine WpB.seq (WpB.seq (WpB.cond (by decide) rfl (fun _ => ?_) (fun e => by cases e))) | refine WpB.seq (WpB.seq (WpB.seq (WpB.cond (by decide) rfl (fun _ => ?_) (fun e => by cases e))))
    first | refine WpB.row (by decide) (by decide) (evh ?_) | refine WpB.seq (WpB.row (by decide) (by decide) (evh ?_)) | refine WpB.seq (WpB.seq (WpB.row (by decide) (by decide) (evh ?_))) | refine WpB.seq (WpB.seq (WpB.seq (WpB.row (by decide) (by decide) (evh ?_))))
    refine WpB.ret ⟨.inr rfl, evr ?_⟩
    exact ⟨_, _, _, _, rfl, h3, h4⟩
  have q1 : (x.f0 != 6) = false := by simpa using e6
  have hl := hl e6
  obtain ⟨xs3, xs4, fl3, fl4, hown⟩ := own_ok h3 h4 h3l (by omega) b rfl
  have l3 : xs3.length = x.f3.length * 5 := fl3.1
  have e4 := Fl_str fl4
  have hcs : ∀ i (h : i < x.f4.length), (xs4.map V.s ++ zS)[i]? = some (.s (.string x.f4[i])) := fun i h => by
    rw [e4, List.getElem?_append_left (by simpa using h)]
    simp [h]
  have hcases := posL_cases key x.f4 0
  have hput : putL x key y = if posL key x.f4 0 < 0 then objV (x.f3 ++ [y]) (x.f4 ++ [key]) else objV (x.f3.set (posL key x.f4 0).toNat y) x.f4 := by unfold putL; rw [if_pos e6]
  generalize hP : posL key x.f4 0 = p at hcases hput
  generalize hp3 : x.f3.length + 1 = p3 at hown
  generalize hp4 : x.f4.length + 1 = p4 at hown
  have HP3 := Hide.mk hp3
  have HP4 := Hide.mk hp4
  have HPP := Hide.mk hP
  have HL := Hide.mk hl
  have HK := Hide.mk hK
  have L3 := Hide.mk l3
  have E4 := Hide.mk e4
  have HU := Hide.mk hput
  have HC := Hide.mk hcases
  have hmax : x.f4.length ≤ 8796093021952 := by omega
  clear e6 hl hK hp3 hp4 hP l3 e4 hput hcases
  first | refine WpB.row (by decide) (by decide) (ev ?_) | refine WpB.seq (WpB.row (by decide) (by decide) (ev ?_)) | refine WpB.seq (WpB.seq (WpB.row (by decide) (by decide) (ev ?_))) | refine WpB.seq (WpB.seq (WpB.seq (WpB.row (by decide) (by decide) (ev ?_))))
  first | refine WpB.row (by decide) (by decide) (evh ?_) | refine WpB.seq (WpB.row (by decide) (by decide) (evh ?_)) | refine WpB.seq (WpB.seq (WpB.row (by decide) (by decide) (evh ?_))) | refine WpB.seq (WpB.seq (WpB.seq (WpB.row (by decide) (by decide) (evh ?_))))
  first | refine WpB.cond (by decide) rfl (fun e => by cases e) (fun _ => WpB.skip ?_) | refine WpB.seq (WpB.cond (by decide) rfl (fun e => by cases e) (fun _ => WpB.skip ?_)) | refine WpB.seq (WpB.seq (WpB.cond (by decide) rfl (fun e => by cases e) (fun _ => WpB.skip ?_))) | refine WpB.seq (WpB.seq (WpB.seq (WpB.cond (by decide) rfl (fun e => by cases e) (fun _ => WpB.skip ?_))))
  first | refine WpB.row (by decide) (by decide) (evh ?_) | refine WpB.seq (WpB.row (by decide) (by decide) (evh ?_)) | refine WpB.seq (WpB.seq (WpB.row (by decide) (by decide) (evh ?_))) | refine WpB.seq (WpB.seq (WpB.seq (WpB.row (by decide) (by decide) (evh ?_))))
  refine SeqB.callQ (by decide) (hown _ _ _) (by decide) rfl rfl rfl rfl ?_
  rintro r S' ⟨lo, rfl, rfl⟩ _
  refine evh ?_
  refine WpB.forget (S2 := ⟨[(9, _), (18, _), (2, _), (1, _), (0, _)], _, 0⟩) (find_both (find_both (find_skip (find_skip find_same rfl) rfl))) rfl ?_
  first | refine WpB.row (by decide) (by decide) (evh ?_) | refine WpB.seq (WpB.row (by decide) (by decide) (evh ?_)) | refine WpB.seq (WpB.seq (WpB.row (by decide) (by decide) (evh ?_))) | refine WpB.seq (WpB.seq (WpB.seq (WpB.row (by decide) (by decide) (evh ?_))))
  refine SeqB.callQ (by decide) (at_ok (id := 9) (by decide) rfl hcs hmax) (by decide) rfl rfl rfl rfl ?_
  rintro r S' ⟨z, rfl, rfl, rfl⟩ _
  rw [HPP.out]
  refine evh ?_
  rcases HC.out with ⟨p1, p2⟩ | ⟨j, p1, p2, p3', p4'⟩
  · have hU := HU.out
    rw [p1, if_pos (by omega)] at hU
    rw [hU]
    have P2 := Hide.mk p2
    have hge : ¬ (p ≥ 0) := by omega
    have l4 : xs4.length = x.f4.length := by rw [E4.out, List.length_map]
    have l3 := L3.out
    have a3 : x.f3.length + 1 ≤ p3 := by rw [HP3.out]; exact Nat.le_refl _
    have a4 : x.f4.length + 1 ≤ p4 := by rw [HP4.out]; exact Nat.le_refl _
    have a5 : x.f4.length + 1 ≤ (xs4.map V.s ++ zS).length := by rw [List.length_append, List.length_map, l4]; exact Nat.le_refl _
    have a6 : x.f3.length * 5 + 5 ≤ (xs3.map V.s ++ zV).length := by rw [List.length_append, List.length_map, l3]; exact Nat.le_refl _
    have r4 := setRange_end xs4 [.string key] zS rfl
    rw [l4] at r4
    have r3 := setRange_end xs3 (celL y B3 d3 B4 d4) zV rfl
    rw [l3] at r3
    simp only [List.map_cons, List.map_nil, celL] at r3 r4
    clear HC HU hU p2 p1 l3 l4
    first | refine WpB.row (by decide) (by decide) (evh ?_) | refine WpB.seq (WpB.row (by decide) (by decide) (evh ?_)) | refine WpB.seq (WpB.seq (WpB.row (by decide) (by decide) (evh ?_))) | refine WpB.seq (WpB.seq (WpB.seq (WpB.row (by decide) (by decide) (evh ?_))))
    first | refine WpB.cond (by decide) rfl (fun e => by first | (cases e; done) | exact absurd (of_decide_eq_true e) hge) (fun _ => WpB.skip ?_) | refine WpB.seq (WpB.cond (by decide) rfl (fun e => by first | (cases e; done) | exact absurd (of_decide_eq_true e) hge) (fun _ => WpB.skip ?_)) | refine WpB.seq (WpB.seq (WpB.cond (by decide) rfl (fun e => by first | (cases e; done) | exact absurd (of_decide_eq_true e) hge) (fun _ => WpB.skip ?_))) | refine WpB.seq (WpB.seq (WpB.seq (WpB.cond (by decide) rfl (fun e => by first | (cases e; done) | exact absurd (of_decide_eq_true e) hge) (fun _ => WpB.skip ?_))))
    first | refine WpB.row (by decide) (by decide) (evh ?_) | refine WpB.seq (WpB.row (by decide) (by decide) (evh ?_)) | refine WpB.seq (WpB.seq (WpB.row (by decide) (by decide) (evh ?_))) | refine WpB.seq (WpB.seq (WpB.seq (WpB.row (by decide) (by decide) (evh ?_))))
    first | refine WpB.row (by decide) (by decide) (evh ?_) | refine WpB.seq (WpB.row (by decide) (by decide) (evh ?_)) | refine WpB.seq (WpB.seq (WpB.row (by decide) (by decide) (evh ?_))) | refine WpB.seq (WpB.seq (WpB.seq (WpB.row (by decide) (by decide) (evh ?_))))
    first | refine WpB.row (by decide) (by decide) (evh ?_) | refine WpB.seq (WpB.row (by decide) (by decide) (evh ?_)) | refine WpB.seq (WpB.seq (WpB.row (by decide) (by decide) (evh ?_))) | refine WpB.seq (WpB.seq (WpB.seq (WpB.row (by decide) (by decide) (evh ?_))))
    refine WpB.forget (S2 := ⟨[(9, .row ((xs4 ++ [Value.string key]).map V.s) 9 none .no), (18, .row ((xs3 ++ celL y B3 d3 B4 d4).map V.s) 27 none .no), (2, _)], _, 0⟩) (by rw [List.map_append, List.map_append]; exact find_skip (find_skip (find_both (find_both (find_both (find_skip (find_skip find_same rfl) rfl)))) rfl) rfl) rfl ?_
    refine WpB.freeze 9 (xs := xs4 ++ [Value.string key]) (e := 9) (tl := none) (fz := .no) rfl fun b2 k cp ys fr hle hblk hcap => ?_
    have hcap : ys = [] := hcap
    subst hcap
    refine WpB.freeze 18 (xs := xs3 ++ celL y B3 d3 B4 d4) (e := 27) (tl := none) (fz := .no) (by simp only [gS, gH, gB, gVs_lits, find_cons, if_true, if_false, Nat.reduceEqDiff, reduceIte]) fun b3 k' cp' ys' fr' hle' hblk' hcap' => ?_
    have hcap' : ys' = [] := hcap'
    subst hcap'
    refine WpB.ret ⟨.inr rfl, evr ?_⟩
    have g3 := HP3.out
    have g4 := HP4.out
    have gl := HL.out
    have f3 := ((fl3.append (Fl.one HK.out)).up k27_up (hle.trans hle').v).rows (ys := []) hblk' (by rw [List.length_append, List.length_singleton]; omega)
    have f4 := (fl4.append (Fl.one (d := Kd.string) (w := b.v) (x := key) (cs := [.string key]) rfl))
    have f4 := C_up str_up hle'.v ((f4.up str_up hle.v).rows (ys := []) hblk (by rw [List.length_append, List.length_singleton]; omega))
    refine ⟨some ⟨k', 0, none⟩, p3, some ⟨k, 0, none⟩, p4, ?_, ⟨f3, ?_⟩, ⟨f4, ?_⟩⟩
    · simp [objV]
    · show (x.f3 ++ [y]).length ≤ p3
      rw [List.length_append, List.length_singleton]; omega
    · show (x.f4 ++ [key]).length ≤ p4
      rw [List.length_append, List.length_singleton]; omega
  · have hU := HU.out
    rw [p1, Nat.zero_add, if_neg (by omega), Int.toNat_natCast] at hU
    rw [hU]
    rw [Nat.zero_add] at p1
    subst p1
    have l3 := L3.out
    have gl := HL.out
    have hj : j < x.f3.length := by omega
    have g0 : (0 : Int) ≤ (j : Int) := by omega
    have g1 : (j : Int) < (x.f3.length : Int) := by omega
    have hge : (j : Int) ≥ 0 := g0
    have a6 : j * 5 + 5 ≤ (xs3.map V.s ++ zV).length := by rw [List.length_append, List.length_map, l3]; omega
    have hs : (celL y B3 d3 B4 d4).length = 5 := rfl
    have r3 := setRange_lits xs3 (celL y B3 d3 B4 d4) (j * 5) (by rw [hs, l3]; omega) zV
    have fl5 := fl3.set hj HK.out
    rw [hs, show j * 5 + 5 = (j + 1) * 5 by omega] at r3
    have fl5 : Fl k27 b.v (x.f3.set j y) (xs3.take (j * 5) ++ celL y B3 d3 B4 d4 ++ xs3.drop ((j + 1) * 5)) := fl5
    generalize xs3.take (j * 5) ++ celL y B3 d3 B4 d4 ++ xs3.drop ((j + 1) * 5) = xs5 at r3 fl5
    have FL := Hide.mk fl5
    simp only [List.map_cons, List.map_nil, celL] at r3
    clear HC HU hU p2 p3' p4' l3 fl5 hs gl hj
    first | refine WpB.row (by decide) (by decide) (evh ?_) | refine WpB.seq (WpB.row (by decide) (by decide) (evh ?_)) | refine WpB.seq (WpB.seq (WpB.row (by decide) (by decide) (evh ?_))) | refine WpB.seq (WpB.seq (WpB.seq (WpB.row (by decide) (by decide) (evh ?_))))
    first | refine WpB.cond (by decide) rfl (fun _ => ?_) (fun e => by first | (cases e; done) | exact absurd hge (of_decide_eq_false e)) | refine WpB.seq (WpB.cond (by decide) rfl (fun _ => ?_) (fun e => by first | (cases e; done) | exact absurd hge (of_decide_eq_false e))) | refine WpB.seq (WpB.seq (WpB.cond (by decide) rfl (fun _ => ?_) (fun e => by first | (cases e; done) | exact absurd hge (of_decide_eq_false e)))) | refine WpB.seq (WpB.seq (WpB.seq (WpB.cond (by decide) rfl (fun _ => ?_) (fun e => by first | (cases e; done) | exact absurd hge (of_decide_eq_false e)))))
    first | refine WpB.row (by decide) (by decide) (evh ?_) | refine WpB.seq (WpB.row (by decide) (by decide) (evh ?_)) | refine WpB.seq (WpB.seq (WpB.row (by decide) (by decide) (evh ?_))) | refine WpB.seq (WpB.seq (WpB.seq (WpB.row (by decide) (by decide) (evh ?_))))
    first | refine WpB.row (by decide) (by decide) (evh ?_) | refine WpB.seq (WpB.row (by decide) (by decide) (evh ?_)) | refine WpB.seq (WpB.seq (WpB.row (by decide) (by decide) (evh ?_))) | refine WpB.seq (WpB.seq (WpB.seq (WpB.row (by decide) (by decide) (evh ?_))))
    refine WpB.forget (S2 := ⟨[(9, .row ((xs4 ++ zsL).map V.s) 9 none .no), (18, .row ((xs5 ++ zvL).map V.s) 27 none .no), (2, _)], _, 0⟩) (by rw [List.map_append, List.map_append]; exact find_both (find_both (find_both (find_skip (find_skip find_same rfl) rfl)))) rfl ?_
    refine WpB.freeze 9 (xs := xs4 ++ zsL) (e := 9) (tl := none) (fz := .no) rfl fun b2 k cp ys fr hle hblk hcap => ?_
    have hcap : ys = [] := hcap
    subst hcap
    refine WpB.freeze 18 (xs := xs5 ++ zvL) (e := 27) (tl := none) (fz := .no) (by simp only [gS, gH, gB, gVs_lits, find_cons, if_true, if_false, Nat.reduceEqDiff, reduceIte]) fun b3 k' cp' ys' fr' hle' hblk' hcap' => ?_
    have hcap' : ys' = [] := hcap'
    subst hcap'
    refine WpB.ret ⟨.inr rfl, evr ?_⟩
    have g3 := HP3.out
    have g4 := HP4.out
    have gl := HL.out
    rw [List.append_nil] at hblk hblk'
    have f3 := (FL.out.up k27_up (hle.trans hle').v).rows hblk' (by rw [List.length_set]; omega)
    have f4 := C_up str_up hle'.v ((fl4.up str_up hle.v).rows hblk (by omega))
    refine ⟨some ⟨k', 0, none⟩, p3, some ⟨k, 0, none⟩, p4, ?_, ⟨f3, ?_⟩, ⟨f4, ?_⟩⟩
    · simp [objV]
    · show (x.f3.set j y).length ≤ p3
      rw [List.length_set]; omega
    · show x.f4.length ≤ p4
      omega
end Go.Proofs.YtmpmbnmldmpmiaaGreatDoor.Sim
set_option linter.unusedVariables false
set_option linter.unusedSimpArgs false
set_option maxRecDepth 100000
namespace Go.Proofs.YtmpmbnmldmpmiaaGreatDoor.Sim
open Go Go.RowKit Go.Proofs.YtmpmbnmldmpmiaaGreatDoor.A Go.Proofs.YtmpmbnmldmpmiaaGreatDoorW.PrintWords Go.Proofs.YtmpmbnmldmpmiaaGreatDoorW.PrintLast Go.Proofs.YtmpmbnmldmpmiaaGreatDoorW.PrintMore
theorem litO_s (v : Value) : litO (some (V.s v)) = some (some v) := rfl
theorem litO_n : litO (none : Option V) = some none := rfl
section
variable {P : Program}
theorem bounds_hi {len c j : Nat} (hj : j ≤ c) : purely P (Instr.sliceBounds true len c none (some (.int .i64 (j : Int))) none) = some (0, j, c) := by
  have h : (0 : Int) ≤ (j : Int) ∧ (j : Int) ≤ (c : Int) := by omega
  unfold Instr.sliceBounds Instr.sliceBound
  simp only [Option.isSome_none, purely_bind', purely_pure, purely_pure', asIntOf, Option.bind_some, if_pos h, Int.toNat_natCast, Bool.false_eq_true, if_false]
theorem bounds_lo {len c j : Nat} (hj : j ≤ len) : purely P (Instr.sliceBounds true len c (some (.int .i64 (j : Int))) none none) = some (j, len, c) := by
  have h : (0 : Int) ≤ (j : Int) ∧ (j : Int) ≤ (len : Int) := by omega
  unfold Instr.sliceBounds Instr.sliceBound
  simp only [Option.isSome_none, purely_bind', purely_pure, purely_pure', asIntOf, Option.bind_some, if_pos h, Int.toNat_natCast, Bool.false_eq_true, if_false]
theorem slc_hi {t e : Nat} {ie : TypeInfo} (h : P.underlying t = some (.slice e)) (hi : P.info? e = some ie) {id off len c j : Nat} (hj : j ≤ c) (H : Heap) : sliceX P t (.slc id off len (some c)) none (some (.int .i64 (j : Int))) none H = some (.slc id off j (some c)) := by
  unfold sliceX
  simp only [h, hi, bounds_hi hj]
  cases c with
  | zero => rfl
  | succ c => simp [Nat.beq]
theorem slc_lo {t e : Nat} {ie : TypeInfo} (h : P.underlying t = some (.slice e)) (hi : P.info? e = some ie) {id off len c j q : Nat} (hj : j + q = len) (hc : j < c) (H : Heap) : sliceX P t (.slc id off len (some c)) (some (.int .i64 (j : Int))) none none H = some (.slc id (off + j * ie.size) q (some (c - j))) := by
  unfold sliceX
  simp only [h, hi, bounds_lo (show j ≤ len by omega)]
  have e1 : Nat.beq c j = false := by rw [beq_eq]; exact decide_eq_false (by omega)
  have e2 : len - j = q := by omega
  simp only [e1, cond_false, e2]
end
theorem cut_row {xs z : List Value} {j q k n : Nat} (hx : xs.length = n * k) (hq : j + 1 + q = n) : (xs.drop ((j + 1) * k)).length = q * k ∧ ((xs.map V.s ++ z.map V.s).drop ((j + 1) * k)).take (q * k) = (xs.drop ((j + 1) * k)).map V.s ∧
    setRange (xs.map V.s ++ z.map V.s) (j * k) ((xs.drop ((j + 1) * k)).map V.s) = ((xs.take (j * k) ++ xs.drop ((j + 1) * k)) ++ (xs ++ z).drop (j * k + q * k)).map V.s := by
  have h1 : (xs.drop ((j + 1) * k)).length = q * k := by
    rw [List.length_drop, hx, ← hq, ← Nat.sub_mul]
    congr 1
    omega
  have h2 : (j + 1) * k ≤ xs.length := by rw [hx, ← hq]; exact Nat.mul_le_mul_right _ (by omega)
  have h3 : j * k ≤ xs.length := Nat.le_trans (Nat.mul_le_mul_right _ (by omega)) h2
  refine ⟨h1, ?_, ?_⟩
  · rw [← List.map_append, ← List.map_drop, ← List.map_take, List.drop_append_of_le_length h2, List.take_append_of_le_length (by rw [h1]; exact Nat.le_refl _), List.take_of_length_le (by rw [h1]; exact Nat.le_refl _)]
  · unfold setRange
    rw [← List.map_append, List.length_map, h1, ← List.map_take, ← List.map_drop, List.take_append_of_le_length h3]
    simp only [List.map_append]
set_option maxHeartbeats 2000000 in
theorem drop_gv {v : World} {x : S27} {ux : Value} (hx : Vr v x ux) (key : ByteArray) (hl : x.f0 = 6 → x.f4.length = x.f3.length) (h3l : x.f3.length ≤ 1759218604400) : Gv Tryz.prog 40 [ux, .string key] v fun u v' => Vr v' (dropL x key) u := by
  have hat := at_gv hx key
  obtain ⟨A3, c3, A4, c4, rfl, h3, h4⟩ := hx
  refine Gv.run Tryz.func40 (by kernel_rfl) rfl rfl rfl rfl fun b hb => ?_
  subst hb
  by_cases e6 : x.f0 = 6
  rotate_left
  · have q1 : (x.f0 != 6) = true := by simpa using e6
    have hput : dropL x key = x := by unfold dropL; rw [if_neg e6]
    rw [hput]
    clear e6 hput hl
    first | refine WpB.row (by decide) (by decide) (ev ?_) | refine WpB.seq (WpB.row (by decide) (by decide) (ev ?_)) | refine WpB.seq (WpB.seq (WpB.row (by decide) (by decide) (ev ?_))) | refine WpB.seq (WpB.seq (WpB.seq (WpB.row (by decide) (by decide) (ev ?_))))
    first | refine WpB.row (by decide) (by decide) (evh ?_) | refine WpB.seq (WpB.row (by decide) (by decide) (evh ?_)) | refine WpB.seq (WpB.seq (WpB.row (by decide) (by decide) (evh ?_))) | refine WpB.seq (WpB.seq (WpB.seq (WpB.row (by decide) (by decide) (evh ?_))))
    refine SeqB.callQ (by decide) (hat.okx _) (by decide) rfl rfl rfl rfl ?_
    rintro r S' ⟨rfl, rfl⟩ _
    refine evh ?_
    first | refine WpB.row (by decide) (by decide) (evh ?_) | refine WpB.seq (WpB.row (by decide) (by decide) (evh ?_)) | refine WpB.seq (WpB.seq (WpB.row (by decide) (by decide) (evh ?_))) | refine WpB.seq (WpB.seq (WpB.seq (WpB.row (by decide) (by decide) (evh ?_))))
    first | refine WpB.cond (by decide) rfl (fun _ => ?_) (fun e => by cases e) | refine WpB.seq (WpB.cond (by decide) rfl (fun _ => ?_) (fun e => by cases e)) | refine WpB.seq (WpB.seq (WpB.cond (by decide) rfl (fun _ => ?_) (fun e => by cases e))) | refine WpB.seq (WpB.seq (WpB.seq (WpB.cond (by decide) rfl (fun _ => ?_) (fun e => by cases e))))
    first | refine WpB.row (by decide) (by decide) (evh ?_) | refine WpB.seq (WpB.row (by decide) (by decide) (evh ?_)) | refine WpB.seq (WpB.seq (WpB.row (by decide) (by decide) (evh ?_))) | refine WpB.seq (WpB.seq (WpB.seq (WpB.row (by decide) (by decide) (evh ?_))))
    refine WpB.ret ⟨.inr rfl, evr ?_⟩
    exact ⟨_, _, _, _, rfl, h3, h4⟩
  have q1 : (x.f0 != 6) = false := by simpa using e6
  have hl := hl e6
  have hput : dropL x key = if posL key x.f4 0 < 0 then x else objV (x.f3.take (posL key x.f4 0).toNat ++ x.f3.drop ((posL key x.f4 0).toNat + 1)) (x.f4.take (posL key x.f4 0).toNat ++ x.f4.drop ((posL key x.f4 0).toNat + 1)) := by unfold dropL; rw [if_pos e6]
  have hcases := posL_cases key x.f4 0
  generalize posL key x.f4 0 = p at hcases hput hat
  rcases hcases with ⟨p1, p2⟩ | ⟨j, p1, p2, p3', p4'⟩
  · rw [if_pos (by omega)] at hput
    rw [hput]
    have hlt : p < 0 := by omega
    clear e6 hput hl p1 p2
    first | refine WpB.row (by decide) (by decide) (ev ?_) | refine WpB.seq (WpB.row (by decide) (by decide) (ev ?_)) | refine WpB.seq (WpB.seq (WpB.row (by decide) (by decide) (ev ?_))) | refine WpB.seq (WpB.seq (WpB.seq (WpB.row (by decide) (by decide) (ev ?_))))
    first | refine WpB.row (by decide) (by decide) (evh ?_) | refine WpB.seq (WpB.row (by decide) (by decide) (evh ?_)) | refine WpB.seq (WpB.seq (WpB.row (by decide) (by decide) (evh ?_))) | refine WpB.seq (WpB.seq (WpB.seq (WpB.row (by decide) (by decide) (evh ?_))))
    refine SeqB.callQ (by decide) (hat.okx _) (by decide) rfl rfl rfl rfl ?_
    rintro r S' ⟨rfl, rfl⟩ _
    refine evh ?_
    first | refine WpB.row (by decide) (by decide) (evh ?_) | refine WpB.seq (WpB.row (by decide) (by decide) (evh ?_)) | refine WpB.seq (WpB.seq (WpB.row (by decide) (by decide) (evh ?_))) | refine WpB.seq (WpB.seq (WpB.seq (WpB.row (by decide) (by decide) (evh ?_))))
    first | refine WpB.cond (by decide) rfl (fun _ => ?_) (fun e => by cases e) | refine WpB.seq (WpB.cond (by decide) rfl (fun _ => ?_) (fun e => by cases e)) | refine WpB.seq (WpB.seq (WpB.cond (by decide) rfl (fun _ => ?_) (fun e => by cases e))) | refine WpB.seq (WpB.seq (WpB.seq (WpB.cond (by decide) rfl (fun _ => ?_) (fun e => by cases e))))
    first | refine WpB.row (by decide) (by decide) (evh ?_) | refine WpB.seq (WpB.row (by decide) (by decide) (evh ?_)) | refine WpB.seq (WpB.seq (WpB.row (by decide) (by decide) (evh ?_))) | refine WpB.seq (WpB.seq (WpB.seq (WpB.row (by decide) (by decide) (evh ?_))))
    refine WpB.ret ⟨.inr rfl, evr ?_⟩
    exact ⟨_, _, _, _, rfl, h3, h4⟩
  rw [Nat.zero_add] at p1
  subst p1
  rw [if_neg (by omega), Int.toNat_natCast] at hput
  rw [hput]
  clear hput p3' p4'
  have hlt : ¬ ((j : Int) < 0) := by omega
  obtain ⟨xs3, xs4, fl3, fl4, hown⟩ := own_ok h3 h4 h3l (by omega) b rfl
  have l3 : xs3.length = x.f3.length * 5 := fl3.1
  have l4 : xs4.length = x.f4.length * 1 := fl4.1
  obtain ⟨q, hq⟩ : ∃ q, j + 1 + q = x.f4.length := ⟨x.f4.length - (j + 1), by omega⟩
  have hq3 : j + 1 + q = x.f3.length := by omega
  obtain ⟨k1, k2, k3⟩ := cut_row (z := zsL) l4 hq
  obtain ⟨m1, m2, m3⟩ := cut_row (z := zvL) l3 hq3
  have o4 := all_one4 _ _ (fl4.drop (j + 1))
  have o3 := all_one3 _ _ (fl3.drop (j + 1))
  have F4 : Hide (Fl Kd.string b.v (x.f4.take j ++ x.f4.drop (j + 1)) (xs4.take (j * 1) ++ xs4.drop ((j + 1) * 1))) := Hide.mk ((fl4.take j).append (fl4.drop (j + 1)))
  have F3 : Hide (Fl k27 b.v (x.f3.take j ++ x.f3.drop (j + 1)) (xs3.take (j * 5) ++ xs3.drop ((j + 1) * 5))) := Hide.mk ((fl3.take j).append (fl3.drop (j + 1)))
  have o4 : ((xs4.drop ((j + 1) * 1)).map V.s).all one = true := o4
  have o3 : ((xs3.drop ((j + 1) * 5)).map V.s).all one = true := o3
  clear fl3 fl4
  obtain ⟨i1, hi1⟩ : ∃ i, i = j + 1 := ⟨_, rfl⟩
  rw [← hi1] at k1 k2 k3 m1 m2 m3 o4 o3 F4 F3
  generalize hp3 : x.f3.length + 1 = p3 at hown
  generalize hp4 : x.f4.length + 1 = p4 at hown
  have w1 : IntKind.i64.wrap ((j : Int) + 1) = (i1 : Int) := by rw [IntKind.wrap_i64]; omega
  have s1 : ∀ H, sliceX Tryz.prog 25 (.slc 8 0 x.f4.length (some p4)) none (some (.int .i64 (j : Int))) none H = some (.slc 8 0 j (some p4)) := fun H => slc_hi Tryz.underlying25 info9 (by omega) H
  have s2 : ∀ H, sliceX Tryz.prog 25 (.slc 8 0 x.f4.length (some p4)) (some (.int .i64 (i1 : Int))) none none H = some (.slc 8 i1 q (some (p4 - i1))) := fun H => (slc_lo (q := q) Tryz.underlying25 info9 (by omega) (by omega) H).trans (by rw [size9, Nat.mul_one, Nat.zero_add])
  have s3 : ∀ H, sliceX Tryz.prog 24 (.slc 17 0 x.f3.length (some p3)) none (some (.int .i64 (j : Int))) none H = some (.slc 17 0 j (some p3)) := fun H => slc_hi Tryz.underlying24 info27 (by omega) H
  have s4 : ∀ H, sliceX Tryz.prog 24 (.slc 17 0 x.f3.length (some p3)) (some (.int .i64 (i1 : Int))) none none H = some (.slc 17 (i1 * 5) q (some (p3 - i1))) := fun H => (slc_lo (q := q) Tryz.underlying24 info27 (by omega) (by omega) H).trans (by rw [size27, Nat.zero_add])
  have t1 := litO_s
  have t2 := litO_n
  have a1 : j + q ≤ p4 := by omega
  have a2 : j + q ≤ (List.map V.s xs4 ++ zS).length := by rw [List.length_append, List.length_map, l4]; show j + q ≤ x.f4.length * 1 + 1; omega
  have a3 : j + q ≤ p3 := by omega
  have a4 : j * 5 + q * 5 ≤ (List.map V.s xs3 ++ zV).length := by rw [List.length_append, List.length_map, l3]; show j * 5 + q * 5 ≤ x.f3.length * 5 + 5; omega
  have l6 : ((xs4.drop (i1 * 1)).map V.s).length = q := by rw [List.length_map, k1, Nat.mul_one]
  have l5 : ((xs3.drop (i1 * 5)).map V.s).length = q * 5 := by rw [List.length_map, m1]
  have k2 : List.take q (List.drop i1 (List.map V.s xs4 ++ zS)) = List.map V.s (xs4.drop (i1 * 1)) := by rw [Nat.mul_one] at k2 ⊢; rw [Nat.mul_one] at k2; exact k2
  have m2 : List.take (q * 5) (List.drop (i1 * 5) (List.map V.s xs3 ++ zV)) = List.map V.s (xs3.drop (i1 * 5)) := m2
  have k3 : setRange (List.map V.s xs4 ++ zS) (j * 1) (List.map V.s (xs4.drop (i1 * 1))) = ((xs4.take (j * 1) ++ xs4.drop (i1 * 1)) ++ (xs4 ++ zsL).drop (j * 1 + q * 1)).map V.s := k3
  have m3 : setRange (List.map V.s xs3 ++ zV) (j * 5) (List.map V.s (xs3.drop (i1 * 5))) = ((xs3.take (j * 5) ++ xs3.drop (i1 * 5)) ++ (xs3 ++ zvL).drop (j * 5 + q * 5)).map V.s := m3
  generalize (xs4 ++ zsL).drop (j * 1 + q * 1) = Z4 at k3
  generalize (xs3 ++ zvL).drop (j * 5 + q * 5) = Z3 at m3
  generalize xs4.take (j * 1) ++ xs4.drop (i1 * 1) = X4 at k3 F4
  generalize xs3.take (j * 5) ++ xs3.drop (i1 * 5) = X3 at m3 F3
  generalize List.drop (i1 * 1) xs4 = D4 at k1 k2 k3 o4 l6
  generalize List.drop (i1 * 5) xs3 = D3 at m1 m2 m3 o3 l5
  rw [Nat.mul_one] at k3
  obtain ⟨Y4, hY4⟩ : ∃ Y, Y = List.map V.s (X4 ++ Z4) := ⟨_, rfl⟩
  obtain ⟨Y3, hY3⟩ : ∃ Y, Y = List.map V.s (X3 ++ Z3) := ⟨_, rfl⟩
  rw [← hY4] at k3
  rw [← hY3] at m3
  have HY4 := Hide.mk hY4
  have HY3 := Hide.mk hY3
  have HL := Hide.mk hl
  have HQ := Hide.mk hq
  have HI := Hide.mk hi1
  have HP3 := Hide.mk hp3
  have HP4 := Hide.mk hp4
  clear e6 hl hq hq3 hi1 hp3 hp4 l3 l4 k1 m1 hY4 hY3
  first | refine WpB.row (by decide) (by decide) (ev ?_) | refine WpB.seq (WpB.row (by decide) (by decide) (ev ?_)) | refine WpB.seq (WpB.seq (WpB.row (by decide) (by decide) (ev ?_))) | refine WpB.seq (WpB.seq (WpB.seq (WpB.row (by decide) (by decide) (ev ?_))))
  first | refine WpB.row (by decide) (by decide) (evh ?_) | refine WpB.seq (WpB.row (by decide) (by decide) (evh ?_)) | refine WpB.seq (WpB.seq (WpB.row (by decide) (by decide) (evh ?_))) | refine WpB.seq (WpB.seq (WpB.seq (WpB.row (by decide) (by decide) (evh ?_))))
  refine SeqB.callQ (by decide) (hat.okx _) (by decide) rfl rfl rfl rfl ?_
  rintro r S' ⟨rfl, rfl⟩ _
  refine evh ?_
  first | refine WpB.row (by decide) (by decide) (evh ?_) | refine WpB.seq (WpB.row (by decide) (by decide) (evh ?_)) | refine WpB.seq (WpB.seq (WpB.row (by decide) (by decide) (evh ?_))) | refine WpB.seq (WpB.seq (WpB.seq (WpB.row (by decide) (by decide) (evh ?_))))
  first | refine WpB.cond (by decide) rfl (fun e => by cases e) (fun _ => WpB.skip ?_) | refine WpB.seq (WpB.cond (by decide) rfl (fun e => by cases e) (fun _ => WpB.skip ?_)) | refine WpB.seq (WpB.seq (WpB.cond (by decide) rfl (fun e => by cases e) (fun _ => WpB.skip ?_))) | refine WpB.seq (WpB.seq (WpB.seq (WpB.cond (by decide) rfl (fun e => by cases e) (fun _ => WpB.skip ?_))))
  first | refine WpB.row (by decide) (by decide) (evh ?_) | refine WpB.seq (WpB.row (by decide) (by decide) (evh ?_)) | refine WpB.seq (WpB.seq (WpB.row (by decide) (by decide) (evh ?_))) | refine WpB.seq (WpB.seq (WpB.seq (WpB.row (by decide) (by decide) (evh ?_))))
  refine SeqB.callQ (by decide) (hown _ _ _) (by decide) rfl rfl rfl rfl ?_
  rintro r S' ⟨lo, rfl, rfl⟩ _
  refine evh ?_
  refine WpB.forget (S2 := ⟨[(8, _), (17, _), (1, _), (0, _)], _, 0⟩) (find_both (find_both (find_skip (find_skip find_same rfl) rfl))) rfl ?_
  refine WpB.seq (WpB.ofF (WpF.drawE (whole_tab _) (by kernel_rfl) (by decide) noCall_ok (ks := [(2, 9), (0, 1), (0, 1), (0, 1)])
    (ds := [[], [0], [], [1, 2], [], [4], [], [6], [5, 7], [3, 8], [0, 1, 2, 3, 4, 5, 6, 7, 8, 9], [10, 9, 9, 0, 1, 2, 3, 4, 5, 6, 7, 8, 9]])
    (ancs := [0, 1, 0, 7, 0, 16, 0, 64, 240, 511, 1023, 2047]) (by kernel_rfl) fun hnew => evh ?_))
  refine WpB.seq (WpB.ofF (WpF.drawE (whole_tab _) (by kernel_rfl) (by decide) noCall_ok (ks := [(2, 9), (0, 1), (0, 1), (0, 1)])
    (ds := [[], [0], [], [1, 2], [], [4], [], [6], [5, 7], [3, 8], [0, 1, 2, 3, 4, 5, 6, 7, 8, 9], [10, 9, 9, 0, 1, 2, 3, 4, 5, 6, 7, 8, 9]])
    (ancs := [0, 1, 0, 7, 0, 16, 0, 64, 240, 511, 1023, 2047]) (by kernel_rfl) fun hnew => evh ?_))
  first | refine WpB.row (by decide) (by decide) (evh ?_) | refine WpB.seq (WpB.row (by decide) (by decide) (evh ?_)) | refine WpB.seq (WpB.seq (WpB.row (by decide) (by decide) (evh ?_))) | refine WpB.seq (WpB.seq (WpB.seq (WpB.row (by decide) (by decide) (evh ?_))))
  refine WpB.forget (S2 := ⟨[(8, .row ((X4 ++ Z4).map V.s) 9 none .no), (17, .row ((X3 ++ Z3).map V.s) 27 none .no), (1, _)], _, 0⟩) (by rw [← HY4.out, ← HY3.out]; exact find_both (find_both (find_both (find_skip find_same rfl)))) rfl ?_
  refine WpB.freeze 8 (xs := X4 ++ Z4) (e := 9) (tl := none) (fz := .no) rfl fun b2 k cp ys fr hle hblk hcap => ?_
  have hcap : ys = [] := hcap
  subst hcap
  refine WpB.freeze 17 (xs := X3 ++ Z3) (e := 27) (tl := none) (fz := .no) (by simp only [gS, gH, gB, gVs_lits, find_cons, if_true, if_false, Nat.reduceEqDiff, reduceIte]) fun b3 k' cp' ys' fr' hle' hblk' hcap' => ?_
  have hcap' : ys' = [] := hcap'
  subst hcap'
  refine WpB.ret ⟨.inr rfl, evr ?_⟩
  have g3 := HP3.out
  have g4 := HP4.out
  have gl := HL.out
  have gq := HQ.out
  have gi := HI.out
  rw [List.append_nil] at hblk hblk'
  have e3 : (x.f3.take j ++ x.f3.drop i1).length = j + q := by rw [List.length_append, List.length_take, List.length_drop]; omega
  have e4 : (x.f4.take j ++ x.f4.drop i1).length = j + q := by rw [List.length_append, List.length_take, List.length_drop]; omega
  have f3 := (F3.out.up k27_up (hle.trans hle').v).rows hblk' (by rw [e3]; omega)
  have f4 := C_up str_up hle'.v ((F4.out.up str_up hle.v).rows hblk (by rw [e4]; omega))
  subst gi
  refine ⟨some ⟨k', 0, none⟩, p3, some ⟨k, 0, none⟩, p4, ?_, ⟨f3, ?_⟩, ⟨f4, ?_⟩⟩
  · show Value.agg _ = Value.agg #[_, _, _, .slice _ (x.f3.take j ++ x.f3.drop (j + 1)).length _, .slice _ (x.f4.take j ++ x.f4.drop (j + 1)).length _]
    rw [e3, e4]
    rfl
  · show (x.f3.take j ++ x.f3.drop (j + 1)).length ≤ p3
    rw [e3]; omega
  · show (x.f4.take j ++ x.f4.drop (j + 1)).length ≤ p4
    rw [e4]; omega
end Go.Proofs.YtmpmbnmldmpmiaaGreatDoor.Sim
set_option linter.unusedVariables false
set_option linter.unusedSimpArgs false
set_option maxRecDepth 100000
namespace Go.Proofs.YtmpmbnmldmpmiaaGreatDoor.Sim
open Go Go.RowKit Go.Proofs.YtmpmbnmldmpmiaaGreatDoor.A Go.Proofs.YtmpmbnmldmpmiaaGreatDoorW.PrintWords Go.Proofs.YtmpmbnmldmpmiaaGreatDoorW.PrintLast Go.Proofs.YtmpmbnmldmpmiaaGreatDoorW.PrintMore
set_option maxHeartbeats 2000000 in
theorem putR_gv {v : World} {x y : S27} {ux uy : Value} (hx : Vr v x ux) (hy : Vr v y uy) (key : ByteArray) (hl : x.f0 = 6 → x.f4.length = x.f3.length) (h3l : x.f3.length ≤ 1759218604400) : Gv Tryz.prog 36 [ux, .string key, uy] v fun u v' => Vr v' (putL x key y) u := by
  have hplace := place_gv hx key
  obtain ⟨A3, c3, A4, c4, rfl, h3, h4⟩ := hx
  obtain ⟨B3, d3, B4, d4, rfl, k3, k4⟩ := hy
  have hK := Vr.K k3 k4
  refine Gv.run Tryz.func36 (by kernel_rfl) rfl rfl rfl rfl fun b hb => ?_
  subst hb
  by_cases e6 : x.f0 = 6
  rotate_left
  · have q1 : (x.f0 != 6) = true := by simpa using e6
    have hput : putL x key y = x := by unfold putL; rw [if_neg e6]
    rw [hput]
    clear e6 hput hl
    first | refine WpB.row (by decide) (by decide) (ev ?_) | refine WpB.seq (WpB.row (by decide) (by decide) (ev ?_)) | refine WpB.seq (WpB.seq (WpB.row (by decide) (by decide) (ev ?_))) | refine WpB.seq (WpB.seq (WpB.seq (WpB.row (by decide) (by decide) (ev ?_))))
    first | refine WpB.row (by decide) (by decide) (evh ?_) | refine WpB.seq (WpB.row (by decide) (by decide) (evh ?_)) | refine WpB.seq (WpB.seq (WpB.row (by decide) (by decide) (evh ?_))) | refine WpB.seq (WpB.seq (WpB.seq (WpB.row (by decide) (by decide) (evh ?_))))
    first | refine WpB.cond (by decide) rfl (fun _ => ?_) (fun e => by cases e) | refine WpB.seq (WpB.cond (by decide) rfl (fun _ => ?_) (fun e => by cases e)) | refine WpB.seq (WpB.seq (WpB.cond (by decide) rfl (fun _ => ?_) (fun e => by cases e))) | refine WpB.seq (WpB.seq (WpB.seq (WpB.cond (by decide) rfl (fun _ => ?_) (fun e => by cases e))))
    first | refine WpB.row (by decide) (by decide) (evh ?_) | refine WpB.seq (WpB.row (by decide) (by decide) (evh ?_)) | refine WpB.seq (WpB.seq (WpB.row (by decide) (by decide) (evh ?_))) | refine WpB.seq (WpB.seq (WpB.seq (WpB.row (by decide) (by decide) (evh ?_))))
    refine WpB.ret ⟨.inr rfl, evr ?_⟩
    exact ⟨_, _, _, _, rfl, h3, h4⟩
  have q1 : (x.f0 != 6) = false := by simpa using e6
  have hl := hl e6
  have hcases := posL_cases key x.f4 0
  have hput : putL x key y = if posL key x.f4 0 < 0 then objV (x.f3 ++ [y]) (x.f4 ++ [key]) else objV (x.f3.set (posL key x.f4 0).toNat y) x.f4 := by unfold putL; rw [if_pos e6]
  generalize posL key x.f4 0 = p at hcases hput hplace
  obtain ⟨xs3, fl3, src3⟩ := C_flat (c := c3) h3.1 (show 0 < k27.sz by decide)
  obtain ⟨xs4, fl4, src4⟩ := C_flat (c := c4) h4.1 (show 0 < Kd.string.sz by decide)
  have src3 : ∀ H, srcX (whole b.v) 5 (.s (.slice A3 x.f3.length c3)) H = some (x.f3.length, xs3.map .s) := src3
  have src4 : ∀ H, srcX (whole b.v) 1 (.s (.slice A4 x.f4.length c4)) H = some (x.f4.length, xs4.map .s) := src4
  have l3 : xs3.length = x.f3.length * 5 := fl3.1
  have l4 : xs4.length = x.f4.length := by have := fl4.1; rw [show Kd.string.sz = 1 from rfl, Nat.mul_one] at this; exact this
  have r3 : roomOk 80 x.f3.length = true := by unfold roomOk; rw [Bool.and_eq_true]; exact ⟨Nat.ble_eq_true_of_le (by omega), Nat.ble_eq_true_of_le (by omega)⟩
  have r4 : roomOk 16 x.f4.length = true := by unfold roomOk; rw [Bool.and_eq_true]; exact ⟨Nat.ble_eq_true_of_le (by omega), Nat.ble_eq_true_of_le (by omega)⟩
  have m3 : (xs3.map V.s).length = x.f3.length * 5 := by rw [List.length_map, l3]
  have m4 : (xs4.map V.s).length = x.f4.length := by rw [List.length_map, l4]
  have E6 := Hide.mk e6
  have HL := Hide.mk hl
  have HK := Hide.mk hK
  have HU := Hide.mk hput
  have HC := Hide.mk hcases
  have o3 := all_one3 _ _ fl3
  have o4 := all_one4 _ _ fl4
  have F3 := Hide.mk fl3
  have F4 := Hide.mk fl4
  clear e6 hl hK hput hcases fl3 fl4
  by_cases hz : x.f3.length = 0
  · have hz4 : x.f4.length = 0 := by rw [HL.out]; exact hz
    have e3 : x.f3 = [] := List.eq_nil_of_length_eq_zero hz
    have e4 : x.f4 = [] := List.eq_nil_of_length_eq_zero hz4
    have x3 : xs3 = [] := List.eq_nil_of_length_eq_zero (by rw [l3, hz])
    have x4 : xs4 = [] := List.eq_nil_of_length_eq_zero (by rw [l4, hz4])
    have hp : p < 0 ∧ p = -1 := by
      rcases HC.out with ⟨p1, _⟩ | ⟨j, _, p2, _⟩
      · omega
      · omega
    have hU := HU.out
    rw [if_pos hp.1, e3, e4] at hU
    rw [hU]
    have hge : ¬ (p ≥ 0) := by omega
    clear HC HU hU HL e3 e4 F3 F4 o3 o4 r3 r4 m3 m4 l3 l4 h3 h4 h3l hp
    generalize x.f3.length = n3 at *
    generalize x.f4.length = n4 at *
    subst hz hz4 x3 x4
    have q1' : roomOk 16 1 = true := by decide
    have q2' : roomOk 80 1 = true := by decide
    first | refine WpB.row (by decide) (by decide) (ev ?_) | refine WpB.seq (WpB.row (by decide) (by decide) (ev ?_)) | refine WpB.seq (WpB.seq (WpB.row (by decide) (by decide) (ev ?_))) | refine WpB.seq (WpB.seq (WpB.seq (WpB.row (by decide) (by decide) (ev ?_))))
    first | refine WpB.row (by decide) (by decide) (evh ?_) | refine WpB.seq (WpB.row (by decide) (by decide) (evh ?_)) | refine WpB.seq (WpB.seq (WpB.row (by decide) (by decide) (evh ?_))) | refine WpB.seq (WpB.seq (WpB.seq (WpB.row (by decide) (by decide) (evh ?_))))
    first | refine WpB.cond (by decide) rfl (fun e => by cases e) (fun _ => WpB.skip ?_) | refine WpB.seq (WpB.cond (by decide) rfl (fun e => by cases e) (fun _ => WpB.skip ?_)) | refine WpB.seq (WpB.seq (WpB.cond (by decide) rfl (fun e => by cases e) (fun _ => WpB.skip ?_))) | refine WpB.seq (WpB.seq (WpB.seq (WpB.cond (by decide) rfl (fun e => by cases e) (fun _ => WpB.skip ?_))))
    first | refine WpB.row (by decide) (by decide) (evh ?_) | refine WpB.seq (WpB.row (by decide) (by decide) (evh ?_)) | refine WpB.seq (WpB.seq (WpB.row (by decide) (by decide) (evh ?_))) | refine WpB.seq (WpB.seq (WpB.seq (WpB.row (by decide) (by decide) (evh ?_))))
    first | refine WpB.row (by decide) (by decide) (evh ?_) | refine WpB.seq (WpB.row (by decide) (by decide) (evh ?_)) | refine WpB.seq (WpB.seq (WpB.row (by decide) (by decide) (evh ?_))) | refine WpB.seq (WpB.seq (WpB.seq (WpB.row (by decide) (by decide) (evh ?_))))
    first | refine WpB.row (by decide) (by decide) (evh ?_) | refine WpB.seq (WpB.row (by decide) (by decide) (evh ?_)) | refine WpB.seq (WpB.seq (WpB.row (by decide) (by decide) (evh ?_))) | refine WpB.seq (WpB.seq (WpB.seq (WpB.row (by decide) (by decide) (evh ?_))))
    first | refine WpB.row (by decide) (by decide) (evh ?_) | refine WpB.seq (WpB.row (by decide) (by decide) (evh ?_)) | refine WpB.seq (WpB.seq (WpB.row (by decide) (by decide) (evh ?_))) | refine WpB.seq (WpB.seq (WpB.seq (WpB.row (by decide) (by decide) (evh ?_))))
    refine SeqB.callQ (by decide) (hplace.okx _) (by decide) rfl rfl rfl rfl ?_
    rintro r S' ⟨rfl, rfl⟩ _
    refine evh ?_
    first | refine WpB.row (by decide) (by decide) (evh ?_) | refine WpB.seq (WpB.row (by decide) (by decide) (evh ?_)) | refine WpB.seq (WpB.seq (WpB.row (by decide) (by decide) (evh ?_))) | refine WpB.seq (WpB.seq (WpB.seq (WpB.row (by decide) (by decide) (evh ?_))))
    first | refine WpB.cond (by decide) rfl (fun e => by first | (cases e; done) | exact absurd (of_decide_eq_true e) hge) (fun _ => WpB.skip ?_) | refine WpB.seq (WpB.cond (by decide) rfl (fun e => by first | (cases e; done) | exact absurd (of_decide_eq_true e) hge) (fun _ => WpB.skip ?_)) | refine WpB.seq (WpB.seq (WpB.cond (by decide) rfl (fun e => by first | (cases e; done) | exact absurd (of_decide_eq_true e) hge) (fun _ => WpB.skip ?_))) | refine WpB.seq (WpB.seq (WpB.seq (WpB.cond (by decide) rfl (fun e => by first | (cases e; done) | exact absurd (of_decide_eq_true e) hge) (fun _ => WpB.skip ?_))))
    first | refine WpB.row (by decide) (by decide) (evh ?_) | refine WpB.seq (WpB.row (by decide) (by decide) (evh ?_)) | refine WpB.seq (WpB.seq (WpB.row (by decide) (by decide) (evh ?_))) | refine WpB.seq (WpB.seq (WpB.seq (WpB.row (by decide) (by decide) (evh ?_))))
    first | refine WpB.row (by decide) (by decide) (evh ?_) | refine WpB.seq (WpB.row (by decide) (by decide) (evh ?_)) | refine WpB.seq (WpB.seq (WpB.row (by decide) (by decide) (evh ?_))) | refine WpB.seq (WpB.seq (WpB.seq (WpB.row (by decide) (by decide) (evh ?_))))
    first | refine WpB.row (by decide) (by decide) (evh ?_) | refine WpB.seq (WpB.row (by decide) (by decide) (evh ?_)) | refine WpB.seq (WpB.seq (WpB.row (by decide) (by decide) (evh ?_))) | refine WpB.seq (WpB.seq (WpB.seq (WpB.row (by decide) (by decide) (evh ?_))))
    refine WpB.forget (S2 := ⟨[(7, .row ((celL y B3 d3 B4 d4).map V.s) 27 (some 5) .no), (5, .row (([Value.string key]).map V.s) 9 (some 1) .no), (2, _)], _, 0⟩) (find_both (find_skip (find_both (find_skip (find_skip (find_both (find_skip (find_skip find_same rfl) rfl)) rfl) rfl)) rfl)) rfl ?_
    refine WpB.freeze 5 (xs := [Value.string key]) (e := 9) (tl := some 1) (fz := .no) rfl fun b2 k cp ys fr hle hblk hcap => ?_
    refine WpB.freeze 7 (xs := celL y B3 d3 B4 d4) (e := 27) (tl := some 5) (fz := .no) (by simp only [gS, gH, gB, gVs_lits, find_cons, if_true, if_false, Nat.reduceEqDiff, reduceIte]) fun b3 k' cp' ys' fr' hle' hblk' hcap' => ?_
    refine WpB.ret ⟨.inr rfl, evr ?_⟩
    have hcap : ([Value.string key]).length + ys.length = cp * 1 := hcap
    have hcap' : (celL y B3 d3 B4 d4).length + ys'.length = cp' * 5 := hcap'
    have c3' : ([y]).length = 1 := rfl
    have c4' : ([key]).length = 1 := rfl
    have f3 : Fl k27 b.v ([y]) (celL y B3 d3 B4 d4) := Fl.one HK.out
    have f4 : Fl Kd.string b.v ([key]) ([Value.string key]) := Fl.one (d := Kd.string) (w := b.v) (x := key) (cs := [Value.string key]) rfl
    have s3 : (celL y B3 d3 B4 d4).length = ([y]).length * 5 := f3.1
    have s4 : ([Value.string key]).length = ([key]).length * 1 := f4.1
    have f3 := (f3.up k27_up (hle.trans hle').v).rows hblk' (by rw [c3']; omega)
    have f4 := C_up str_up hle'.v ((f4.up str_up hle.v).rows hblk (by rw [c4']; omega))
    refine ⟨some ⟨k', 0, none⟩, cp', some ⟨k, 0, none⟩, cp, ?_, ⟨f3, ?_⟩, ⟨f4, ?_⟩⟩
    · show Value.agg _ = Value.agg #[_, _, _, .slice _ ([y]).length _, .slice _ ([key]).length _]
      rw [c3', c4']
      rfl
    · show ([y]).length ≤ cp'
      omega
    · show ([key]).length ≤ cp
      omega
  · have hz4 : ¬ x.f4.length = 0 := by rw [HL.out]; exact hz
    have t3 : List.take (x.f3.length * 5) (xs3.map V.s) = xs3.map V.s := List.take_of_length_le (by omega)
    have t4 : List.take x.f4.length (xs4.map V.s) = xs4.map V.s := List.take_of_length_le (by omega)
    have r5 : roomOk 80 (x.f3.length + 1) = true := by unfold roomOk; rw [Bool.and_eq_true]; exact ⟨Nat.ble_eq_true_of_le (by omega), Nat.ble_eq_true_of_le (by omega)⟩
    have r6 : roomOk 16 (x.f4.length + 1) = true := by unfold roomOk; rw [Bool.and_eq_true]; have := HL.out; exact ⟨Nat.ble_eq_true_of_le (by omega), Nat.ble_eq_true_of_le (by omega)⟩
    have z3 : 0 ≤ x.f3.length * 5 := Nat.zero_le _
    first | refine WpB.row (by decide) (by decide) (ev ?_) | refine WpB.seq (WpB.row (by decide) (by decide) (ev ?_)) | refine WpB.seq (WpB.seq (WpB.row (by decide) (by decide) (ev ?_))) | refine WpB.seq (WpB.seq (WpB.seq (WpB.row (by decide) (by decide) (ev ?_))))
    first | refine WpB.row (by decide) (by decide) (evh ?_) | refine WpB.seq (WpB.row (by decide) (by decide) (evh ?_)) | refine WpB.seq (WpB.seq (WpB.row (by decide) (by decide) (evh ?_))) | refine WpB.seq (WpB.seq (WpB.seq (WpB.row (by decide) (by decide) (evh ?_))))
    first | refine WpB.cond (by decide) rfl (fun e => by cases e) (fun _ => WpB.skip ?_) | refine WpB.seq (WpB.cond (by decide) rfl (fun e => by cases e) (fun _ => WpB.skip ?_)) | refine WpB.seq (WpB.seq (WpB.cond (by decide) rfl (fun e => by cases e) (fun _ => WpB.skip ?_))) | refine WpB.seq (WpB.seq (WpB.seq (WpB.cond (by decide) rfl (fun e => by cases e) (fun _ => WpB.skip ?_))))
    first | refine WpB.row (by decide) (by decide) (evh ?_) | refine WpB.seq (WpB.row (by decide) (by decide) (evh ?_)) | refine WpB.seq (WpB.seq (WpB.row (by decide) (by decide) (evh ?_))) | refine WpB.seq (WpB.seq (WpB.seq (WpB.row (by decide) (by decide) (evh ?_))))
    first | refine WpB.row (by decide) (by decide) (evh ?_) | refine WpB.seq (WpB.row (by decide) (by decide) (evh ?_)) | refine WpB.seq (WpB.seq (WpB.row (by decide) (by decide) (evh ?_))) | refine WpB.seq (WpB.seq (WpB.seq (WpB.row (by decide) (by decide) (evh ?_))))
    first | refine WpB.row (by decide) (by decide) (evh ?_) | refine WpB.seq (WpB.row (by decide) (by decide) (evh ?_)) | refine WpB.seq (WpB.seq (WpB.row (by decide) (by decide) (evh ?_))) | refine WpB.seq (WpB.seq (WpB.seq (WpB.row (by decide) (by decide) (evh ?_))))
    first | refine WpB.row (by decide) (by decide) (evh ?_) | refine WpB.seq (WpB.row (by decide) (by decide) (evh ?_)) | refine WpB.seq (WpB.seq (WpB.row (by decide) (by decide) (evh ?_))) | refine WpB.seq (WpB.seq (WpB.seq (WpB.row (by decide) (by decide) (evh ?_))))
    refine SeqB.callQ (by decide) (hplace.okx _) (by decide) rfl rfl rfl rfl ?_
    rintro r S' ⟨rfl, rfl⟩ _
    refine evh ?_
    rcases HC.out with ⟨p1, p2⟩ | ⟨j, p1, p2, p3', p4'⟩
    · have hU := HU.out
      rw [p1, if_pos (by omega)] at hU
      rw [hU]
      have hge : ¬ (p ≥ 0) := by omega
      clear HC HU hU p2 p1
      first | refine WpB.row (by decide) (by decide) (evh ?_) | refine WpB.seq (WpB.row (by decide) (by decide) (evh ?_)) | refine WpB.seq (WpB.seq (WpB.row (by decide) (by decide) (evh ?_))) | refine WpB.seq (WpB.seq (WpB.seq (WpB.row (by decide) (by decide) (evh ?_))))
      first | refine WpB.cond (by decide) rfl (fun e => by first | (cases e; done) | exact absurd (of_decide_eq_true e) hge) (fun _ => WpB.skip ?_) | refine WpB.seq (WpB.cond (by decide) rfl (fun e => by first | (cases e; done) | exact absurd (of_decide_eq_true e) hge) (fun _ => WpB.skip ?_)) | refine WpB.seq (WpB.seq (WpB.cond (by decide) rfl (fun e => by first | (cases e; done) | exact absurd (of_decide_eq_true e) hge) (fun _ => WpB.skip ?_))) | refine WpB.seq (WpB.seq (WpB.seq (WpB.cond (by decide) rfl (fun e => by first | (cases e; done) | exact absurd (of_decide_eq_true e) hge) (fun _ => WpB.skip ?_))))
      first | refine WpB.row (by decide) (by decide) (evh ?_) | refine WpB.seq (WpB.row (by decide) (by decide) (evh ?_)) | refine WpB.seq (WpB.seq (WpB.row (by decide) (by decide) (evh ?_))) | refine WpB.seq (WpB.seq (WpB.seq (WpB.row (by decide) (by decide) (evh ?_))))
      first | refine WpB.row (by decide) (by decide) (evh ?_) | refine WpB.seq (WpB.row (by decide) (by decide) (evh ?_)) | refine WpB.seq (WpB.seq (WpB.row (by decide) (by decide) (evh ?_))) | refine WpB.seq (WpB.seq (WpB.seq (WpB.row (by decide) (by decide) (evh ?_))))
      first | refine WpB.row (by decide) (by decide) (evh ?_) | refine WpB.seq (WpB.row (by decide) (by decide) (evh ?_)) | refine WpB.seq (WpB.seq (WpB.row (by decide) (by decide) (evh ?_))) | refine WpB.seq (WpB.seq (WpB.seq (WpB.row (by decide) (by decide) (evh ?_))))
      refine WpB.forget (S2 := ⟨[(9, .row ((xs3 ++ celL y B3 d3 B4 d4).map V.s) 27 (some 5) .no), (7, .row ((xs4 ++ [Value.string key]).map V.s) 9 (some 1) .no), (2, _)], _, 0⟩) (by rw [List.map_append, List.map_append]; exact find_both (find_skip (find_both (find_skip (find_skip (find_both (find_skip (find_skip find_same rfl) rfl)) rfl) rfl)) rfl)) rfl ?_
      refine WpB.freeze 7 (xs := xs4 ++ [Value.string key]) (e := 9) (tl := some 1) (fz := .no) rfl fun b2 k cp ys fr hle hblk hcap => ?_
      refine WpB.freeze 9 (xs := xs3 ++ celL y B3 d3 B4 d4) (e := 27) (tl := some 5) (fz := .no) (by simp only [gS, gH, gB, gVs_lits, find_cons, if_true, if_false, Nat.reduceEqDiff, reduceIte]) fun b3 k' cp' ys' fr' hle' hblk' hcap' => ?_
      refine WpB.ret ⟨.inr rfl, evr ?_⟩
      have hcap : (xs4 ++ [Value.string key]).length + ys.length = cp * 1 := hcap
      have hcap' : (xs3 ++ celL y B3 d3 B4 d4).length + ys'.length = cp' * 5 := hcap'
      have gl := HL.out
      have c3' : (x.f3 ++ [y]).length = x.f3.length + 1 := by rw [List.length_append, List.length_singleton]
      have c4' : (x.f4 ++ [key]).length = x.f4.length + 1 := by rw [List.length_append, List.length_singleton]
      have f3 : Fl k27 b.v (x.f3 ++ [y]) (xs3 ++ celL y B3 d3 B4 d4) := F3.out.append (Fl.one HK.out)
      have f4 : Fl Kd.string b.v (x.f4 ++ [key]) (xs4 ++ [Value.string key]) := F4.out.append (Fl.one (d := Kd.string) (w := b.v) (x := key) (cs := [Value.string key]) rfl)
      have s3 : (xs3 ++ celL y B3 d3 B4 d4).length = (x.f3 ++ [y]).length * 5 := f3.1
      have s4 : (xs4 ++ [Value.string key]).length = (x.f4 ++ [key]).length * 1 := f4.1
      have f3 := (f3.up k27_up (hle.trans hle').v).rows hblk' (by rw [c3']; omega)
      have f4 := C_up str_up hle'.v ((f4.up str_up hle.v).rows hblk (by rw [c4']; omega))
      refine ⟨some ⟨k', 0, none⟩, cp', some ⟨k, 0, none⟩, cp, ?_, ⟨f3, ?_⟩, ⟨f4, ?_⟩⟩
      · show Value.agg _ = Value.agg #[_, _, _, .slice _ (x.f3 ++ [y]).length _, .slice _ (x.f4 ++ [key]).length _]
        rw [c3', c4']
        rfl
      · show (x.f3 ++ [y]).length ≤ cp'
        omega
      · show (x.f4 ++ [key]).length ≤ cp
        omega
    · have hU := HU.out
      rw [p1, Nat.zero_add, if_neg (by omega), Int.toNat_natCast] at hU
      rw [hU]
      rw [Nat.zero_add] at p1
      subst p1
      have gl := HL.out
      have hj : j < x.f3.length := by omega
      have g0 : (0 : Int) ≤ (j : Int) := by omega
      have g1 : (j : Int) < (x.f3.length : Int) := by omega
      have hge : (j : Int) ≥ 0 := g0
      have a6 : j * 5 + 5 ≤ (xs3.map V.s).length := by rw [m3]; omega
      have a7 : j * 5 + 5 ≤ x.f3.length * 5 := by omega
      have hs : (celL y B3 d3 B4 d4).length = 5 := rfl
      have r3 := setRange_lits xs3 (celL y B3 d3 B4 d4) (j * 5) (by rw [hs, l3]; omega) []
      have fl5 := F3.out.set hj HK.out
      rw [hs, show j * 5 + 5 = (j + 1) * 5 by omega, List.append_nil, List.append_nil] at r3
      have fl5 : Fl k27 b.v (x.f3.set j y) (xs3.take (j * 5) ++ celL y B3 d3 B4 d4 ++ xs3.drop ((j + 1) * 5)) := fl5
      generalize xs3.take (j * 5) ++ celL y B3 d3 B4 d4 ++ xs3.drop ((j + 1) * 5) = xs5 at r3 fl5
      have FL := Hide.mk fl5
      simp only [List.map_cons, List.map_nil, celL] at r3
      clear HC HU hU p2 p3' p4' l3 fl5 hs gl hj
      first | refine WpB.row (by decide) (by decide) (evh ?_) | refine WpB.seq (WpB.row (by decide) (by decide) (evh ?_)) | refine WpB.seq (WpB.seq (WpB.row (by decide) (by decide) (evh ?_))) | refine WpB.seq (WpB.seq (WpB.seq (WpB.row (by decide) (by decide) (evh ?_))))
      first | refine WpB.cond (by decide) rfl (fun _ => ?_) (fun e => by first | (cases e; done) | exact absurd hge (of_decide_eq_false e)) | refine WpB.seq (WpB.cond (by decide) rfl (fun _ => ?_) (fun e => by first | (cases e; done) | exact absurd hge (of_decide_eq_false e))) | refine WpB.seq (WpB.seq (WpB.cond (by decide) rfl (fun _ => ?_) (fun e => by first | (cases e; done) | exact absurd hge (of_decide_eq_false e)))) | refine WpB.seq (WpB.seq (WpB.seq (WpB.cond (by decide) rfl (fun _ => ?_) (fun e => by first | (cases e; done) | exact absurd hge (of_decide_eq_false e)))))
      first | refine WpB.row (by decide) (by decide) (evh ?_) | refine WpB.seq (WpB.row (by decide) (by decide) (evh ?_)) | refine WpB.seq (WpB.seq (WpB.row (by decide) (by decide) (evh ?_))) | refine WpB.seq (WpB.seq (WpB.seq (WpB.row (by decide) (by decide) (evh ?_))))
      first | refine WpB.row (by decide) (by decide) (evh ?_) | refine WpB.seq (WpB.row (by decide) (by decide) (evh ?_)) | refine WpB.seq (WpB.seq (WpB.row (by decide) (by decide) (evh ?_))) | refine WpB.seq (WpB.seq (WpB.seq (WpB.row (by decide) (by decide) (evh ?_))))
      refine WpB.forget (S2 := ⟨[(5, .row ((xs5).map V.s) 27 (some 5) .no), (4, .row ((xs4).map V.s) 9 (some 1) .no), (2, _)], _, 0⟩) (find_both (find_both (find_skip (find_both (find_skip (find_skip find_same rfl) rfl)) rfl))) rfl ?_
      refine WpB.freeze 4 (xs := xs4) (e := 9) (tl := some 1) (fz := .no) rfl fun b2 k cp ys fr hle hblk hcap => ?_
      refine WpB.freeze 5 (xs := xs5) (e := 27) (tl := some 5) (fz := .no) (by simp only [gS, gH, gB, gVs_lits, find_cons, if_true, if_false, Nat.reduceEqDiff, reduceIte]) fun b3 k' cp' ys' fr' hle' hblk' hcap' => ?_
      refine WpB.ret ⟨.inr rfl, evr ?_⟩
      have hcap : (xs4).length + ys.length = cp * 1 := hcap
      have hcap' : (xs5).length + ys'.length = cp' * 5 := hcap'
      have gl := HL.out
      have c3' : (x.f3.set j y).length = x.f3.length := by rw [List.length_set]
      have c4' : (x.f4).length = x.f4.length := rfl
      have f3 : Fl k27 b.v (x.f3.set j y) (xs5) := FL.out
      have f4 : Fl Kd.string b.v (x.f4) (xs4) := F4.out
      have s3 : (xs5).length = (x.f3.set j y).length * 5 := f3.1
      have s4 : (xs4).length = (x.f4).length * 1 := f4.1
      have f3 := (f3.up k27_up (hle.trans hle').v).rows hblk' (by rw [c3']; omega)
      have f4 := C_up str_up hle'.v ((f4.up str_up hle.v).rows hblk (by rw [c4']; omega))
      refine ⟨some ⟨k', 0, none⟩, cp', some ⟨k, 0, none⟩, cp, ?_, ⟨f3, ?_⟩, ⟨f4, ?_⟩⟩
      · show Value.agg _ = Value.agg #[_, _, _, .slice _ (x.f3.set j y).length _, .slice _ (x.f4).length _]
        rw [c3', c4']
        rfl
      · show (x.f3.set j y).length ≤ cp'
        omega
      · show (x.f4).length ≤ cp
        omega
end Go.Proofs.YtmpmbnmldmpmiaaGreatDoor.Sim
set_option linter.unusedVariables false
set_option linter.unusedSimpArgs false
set_option maxRecDepth 100000
namespace Go.Proofs.YtmpmbnmldmpmiaaGreatDoor.Sim
open Go Go.RowKit Go.Proofs.YtmpmbnmldmpmiaaGreatDoor.A Go.Proofs.YtmpmbnmldmpmiaaGreatDoorW.PrintWords Go.Proofs.YtmpmbnmldmpmiaaGreatDoorW.PrintLast Go.Proofs.YtmpmbnmldmpmiaaGreatDoorW.PrintMore Go.Proofs.YtmpmbnmldmpmiaaGreatDoorW.FM
theorem bits_gv (v : World) (a : Nat) : Gv Tryz.prog 81 [.float .f64 a] v fun u v' => u = .int .u64 a := fun w h1 h2 =>
  .inl ⟨_, w, run_ext_bits Tryz.func81 rfl rfl rfl rfl a w, Below.refl _ _, v, ⟨Known.refl v, Nat.le_refl _⟩, h1, h2, fun _ _ h => h, rfl⟩
set_option maxHeartbeats 1000000 in
theorem same02_gv (v : World) (a : Nat) : Gv Tryz.prog 57 [.float .f64 a, .float .f64 a] v fun u v' => u = .bool true := by
  have q : ((a : Int) == (a : Int)) = true := by simp
  refine Gv.run Tryz.func57 (by kernel_rfl) rfl rfl rfl rfl fun b hb => ?_
  subst hb
  first | refine WpB.row (by decide) (by decide) (ev ?_) | refine WpB.seq (WpB.row (by decide) (by decide) (ev ?_)) | refine WpB.seq (WpB.seq (WpB.row (by decide) (by decide) (ev ?_))) | refine WpB.seq (WpB.seq (WpB.seq (WpB.row (by decide) (by decide) (ev ?_))))
  first | refine WpB.row (by decide) (by decide) (evh ?_) | refine WpB.seq (WpB.row (by decide) (by decide) (evh ?_)) | refine WpB.seq (WpB.seq (WpB.row (by decide) (by decide) (evh ?_))) | refine WpB.seq (WpB.seq (WpB.seq (WpB.row (by decide) (by decide) (evh ?_))))
  refine SeqB.callQ (by decide) ((bits_gv _ a).okx _) (by decide) rfl rfl rfl rfl ?_
  rintro u S' ⟨rfl, rfl⟩ _
  refine evh ?_
  refine SeqB.callQ (by decide) ((bits_gv _ a).okx _) (by decide) rfl rfl rfl rfl ?_
  rintro u S' ⟨rfl, rfl⟩ _
  refine evh ?_
  refine WpB.ret ⟨.inr rfl, evr ?_⟩
  trivial
set_option maxHeartbeats 1000000 in
theorem texts_gv {v : World} {l : List ByteArray} {A B : Option Addr} {c d : Nat} (hl : Sw v l A c) (hm : Sw v l B d) : Gv Tryz.prog 41 [.slice A l.length c, .slice B l.length d] v fun u _ => u = .bool true := by
  have q0 : ((l.length : Int) != (l.length : Int)) = false := by simp
  have hmax := hl.1.2.1
  refine Gv.run Tryz.func41 (by kernel_rfl) rfl rfl rfl rfl fun b hb => ?_
  subst hb
  first | refine WpB.row (by decide) (by decide) (ev ?_) | refine WpB.seq (WpB.row (by decide) (by decide) (ev ?_)) | refine WpB.seq (WpB.seq (WpB.row (by decide) (by decide) (ev ?_))) | refine WpB.seq (WpB.seq (WpB.seq (WpB.row (by decide) (by decide) (ev ?_))))
  first | refine WpB.row (by decide) (by decide) (evh ?_) | refine WpB.seq (WpB.row (by decide) (by decide) (evh ?_)) | refine WpB.seq (WpB.seq (WpB.row (by decide) (by decide) (evh ?_))) | refine WpB.seq (WpB.seq (WpB.seq (WpB.row (by decide) (by decide) (evh ?_))))
  first | refine WpB.cond (by decide) rfl (fun e => by cases e) (fun _ => WpB.skip ?_) | refine WpB.seq (WpB.cond (by decide) rfl (fun e => by cases e) (fun _ => WpB.skip ?_)) | refine WpB.seq (WpB.seq (WpB.cond (by decide) rfl (fun e => by cases e) (fun _ => WpB.skip ?_))) | refine WpB.seq (WpB.seq (WpB.seq (WpB.cond (by decide) rfl (fun e => by cases e) (fun _ => WpB.skip ?_))))
  first | refine WpB.row (by decide) (by decide) (evh ?_) | refine WpB.seq (WpB.row (by decide) (by decide) (evh ?_)) | refine WpB.seq (WpB.seq (WpB.row (by decide) (by decide) (evh ?_))) | refine WpB.seq (WpB.seq (WpB.seq (WpB.row (by decide) (by decide) (evh ?_))))
  first | refine WpB.block ?_ | refine WpB.seq (WpB.block ?_) | refine WpB.seq (WpB.seq (WpB.block ?_)) | refine WpB.seq (WpB.seq (WpB.seq (WpB.block ?_)))
  refine WpB.loop (fun m b' F S => ∃ (i : Nat), b' = b ∧ S = ⟨[], 0, 0⟩ ∧ F 0 = .s (.slice A l.length c) ∧ F 1 = .s (.slice B l.length d) ∧ F 5 = .s (.int .i64 (i : Int)) ∧ i ≤ l.length ∧ m = l.length - i) l.length ⟨0, rfl, rfl, rfl, rfl, rfl, Nat.zero_le _, rfl⟩ ?_
  rintro m b' F S ⟨i, rfl, rfl, f0, f1, f5, hi, rfl⟩
  by_cases hlt : i < l.length
  · obtain ⟨k', off, rfl, x1⟩ := hl.get hlt
    obtain ⟨k2, off2, rfl, x2⟩ := hm.get hlt
    have g0 : (0 : Int) ≤ (i : Int) := by omega
    have g1 : (i : Int) < (l.length : Int) := by omega
    have d7 : IntKind.i64.wrap ((i : Int) + 1) = ((i + 1 : Nat) : Int) := by rw [IntKind.wrap_i64]; omega
    have q1 : (l[i].toList == l[i].toList) = true := by simp
    first | refine WpB.row (by decide) (by decide) (evh ?_) | refine WpB.seq (WpB.row (by decide) (by decide) (evh ?_)) | refine WpB.seq (WpB.seq (WpB.row (by decide) (by decide) (evh ?_))) | refine WpB.seq (WpB.seq (WpB.seq (WpB.row (by decide) (by decide) (evh ?_))))
    first | refine WpB.cond (by decide) rfl (fun _ => WpB.skip ?_) (fun e => by first | (cases e; done) | exact absurd g1 (of_decide_eq_false e)) | refine WpB.seq (WpB.cond (by decide) rfl (fun _ => WpB.skip ?_) (fun e => by first | (cases e; done) | exact absurd g1 (of_decide_eq_false e))) | refine WpB.seq (WpB.seq (WpB.cond (by decide) rfl (fun _ => WpB.skip ?_) (fun e => by first | (cases e; done) | exact absurd g1 (of_decide_eq_false e)))) | refine WpB.seq (WpB.seq (WpB.seq (WpB.cond (by decide) rfl (fun _ => WpB.skip ?_) (fun e => by first | (cases e; done) | exact absurd g1 (of_decide_eq_false e)))))
    first | refine WpB.block ?_ | refine WpB.seq (WpB.block ?_) | refine WpB.seq (WpB.seq (WpB.block ?_)) | refine WpB.seq (WpB.seq (WpB.seq (WpB.block ?_)))
    first | refine WpB.draw (by kernel_rfl) (by decide) [0, 1, 2, 3, 4, 5, 6, 7, 8] (by kernel_rfl) (by kernel_rfl) (by kernel_rfl) (by kernel_rfl) (by kernel_rfl) rfl (evh ?_) | refine WpB.seq (WpB.draw (by kernel_rfl) (by decide) [0, 1, 2, 3, 4, 5, 6, 7, 8] (by kernel_rfl) (by kernel_rfl) (by kernel_rfl) (by kernel_rfl) (by kernel_rfl) rfl (evh ?_)) | refine WpB.seq (WpB.seq (WpB.draw (by kernel_rfl) (by decide) [0, 1, 2, 3, 4, 5, 6, 7, 8] (by kernel_rfl) (by kernel_rfl) (by kernel_rfl) (by kernel_rfl) (by kernel_rfl) rfl (evh ?_))) | refine WpB.seq (WpB.seq (WpB.seq (WpB.draw (by kernel_rfl) (by decide) [0, 1, 2, 3, 4, 5, 6, 7, 8] (by kernel_rfl) (by kernel_rfl) (by kernel_rfl) (by kernel_rfl) (by kernel_rfl) rfl (evh ?_))))
    first | refine WpB.cond (by decide) rfl (fun e => by cases e) (fun _ => WpB.skip ?_) | refine WpB.seq (WpB.cond (by decide) rfl (fun e => by cases e) (fun _ => WpB.skip ?_)) | refine WpB.seq (WpB.seq (WpB.cond (by decide) rfl (fun e => by cases e) (fun _ => WpB.skip ?_))) | refine WpB.seq (WpB.seq (WpB.seq (WpB.cond (by decide) rfl (fun e => by cases e) (fun _ => WpB.skip ?_))))
    first | refine WpB.row (by decide) (by decide) (evh ?_) | refine WpB.seq (WpB.row (by decide) (by decide) (evh ?_)) | refine WpB.seq (WpB.seq (WpB.row (by decide) (by decide) (evh ?_))) | refine WpB.seq (WpB.seq (WpB.seq (WpB.row (by decide) (by decide) (evh ?_))))
    exact ⟨l.length - (i + 1), by omega, i + 1, rfl, rfl, f0, f1, by rw [← d7]; rfl, hlt, rfl⟩
  · have g1 : ¬ ((i : Int) < (l.length : Int)) := by omega
    first | refine WpB.row (by decide) (by decide) (evh ?_) | refine WpB.seq (WpB.row (by decide) (by decide) (evh ?_)) | refine WpB.seq (WpB.seq (WpB.row (by decide) (by decide) (evh ?_))) | refine WpB.seq (WpB.seq (WpB.seq (WpB.row (by decide) (by decide) (evh ?_))))
    first | refine WpB.cond (by decide) rfl (fun e => by first | (cases e; done) | exact absurd (of_decide_eq_true e) g1) (fun _ => WpB.exit ?_) | refine WpB.seq (WpB.cond (by decide) rfl (fun e => by first | (cases e; done) | exact absurd (of_decide_eq_true e) g1) (fun _ => WpB.exit ?_)) | refine WpB.seq (WpB.seq (WpB.cond (by decide) rfl (fun e => by first | (cases e; done) | exact absurd (of_decide_eq_true e) g1) (fun _ => WpB.exit ?_))) | refine WpB.seq (WpB.seq (WpB.seq (WpB.cond (by decide) rfl (fun e => by first | (cases e; done) | exact absurd (of_decide_eq_true e) g1) (fun _ => WpB.exit ?_))))
    first | refine WpB.row (by decide) (by decide) (evh ?_) | refine WpB.seq (WpB.row (by decide) (by decide) (evh ?_)) | refine WpB.seq (WpB.seq (WpB.row (by decide) (by decide) (evh ?_))) | refine WpB.seq (WpB.seq (WpB.seq (WpB.row (by decide) (by decide) (evh ?_))))
    refine WpB.ret ⟨.inr rfl, evr ?_⟩
    trivial
set_option maxHeartbeats 1000000 in
theorem rowsSame_gv {v : World} {l : List S27} {A B : Option Addr} {c d : Nat} (hl : Rw v l A c) (hm : Rw v l B d)
    (ih : ∀ x ∈ l, ∀ (v : World) (ux uy : Value), Vr v x ux → Vr v x uy → Gv Tryz.prog 15 [ux, uy] v fun u _ => u = .bool true) : Gv Tryz.prog 58 [.slice A l.length c, .slice B l.length d] v fun u _ => u = .bool true := by
  have q0 : ((l.length : Int) != (l.length : Int)) = false := by simp
  have hmax := hl.1.2.1
  refine Gv.run Tryz.func58 (by kernel_rfl) rfl rfl rfl rfl fun b hb => ?_
  subst hb
  first | refine WpB.row (by decide) (by decide) (ev ?_) | refine WpB.seq (WpB.row (by decide) (by decide) (ev ?_)) | refine WpB.seq (WpB.seq (WpB.row (by decide) (by decide) (ev ?_))) | refine WpB.seq (WpB.seq (WpB.seq (WpB.row (by decide) (by decide) (ev ?_))))
  first | refine WpB.row (by decide) (by decide) (evh ?_) | refine WpB.seq (WpB.row (by decide) (by decide) (evh ?_)) | refine WpB.seq (WpB.seq (WpB.row (by decide) (by decide) (evh ?_))) | refine WpB.seq (WpB.seq (WpB.seq (WpB.row (by decide) (by decide) (evh ?_))))
  first | refine WpB.cond (by decide) rfl (fun e => by cases e) (fun _ => WpB.skip ?_) | refine WpB.seq (WpB.cond (by decide) rfl (fun e => by cases e) (fun _ => WpB.skip ?_)) | refine WpB.seq (WpB.seq (WpB.cond (by decide) rfl (fun e => by cases e) (fun _ => WpB.skip ?_))) | refine WpB.seq (WpB.seq (WpB.seq (WpB.cond (by decide) rfl (fun e => by cases e) (fun _ => WpB.skip ?_))))
  first | refine WpB.row (by decide) (by decide) (evh ?_) | refine WpB.seq (WpB.row (by decide) (by decide) (evh ?_)) | refine WpB.seq (WpB.seq (WpB.row (by decide) (by decide) (evh ?_))) | refine WpB.seq (WpB.seq (WpB.seq (WpB.row (by decide) (by decide) (evh ?_))))
  first | refine WpB.block ?_ | refine WpB.seq (WpB.block ?_) | refine WpB.seq (WpB.seq (WpB.block ?_)) | refine WpB.seq (WpB.seq (WpB.seq (WpB.block ?_)))
  refine WpB.loop (fun m b' F S => ∃ (i : Nat), b' = b ∧ S = ⟨[], 0, 0⟩ ∧ F 0 = .s (.slice A l.length c) ∧ F 1 = .s (.slice B l.length d) ∧ F 5 = .s (.int .i64 (i : Int)) ∧ i ≤ l.length ∧ m = l.length - i) l.length ⟨0, rfl, rfl, rfl, rfl, rfl, Nat.zero_le _, rfl⟩ ?_
  rintro m b' F S ⟨i, rfl, rfl, f0, f1, f5, hi, rfl⟩
  by_cases hlt : i < l.length
  · have g0 : (0 : Int) ≤ (i : Int) := by omega
    have g1 : (i : Int) < (l.length : Int) := by omega
    have d7 : IntKind.i64.wrap ((i : Int) + 1) = ((i + 1 : Nat) : Int) := by rw [IntKind.wrap_i64]; omega
    obtain ⟨k, off, cs, P3, p3, P4, p4, rfl, hw, hx, r3, r4⟩ := hl.get hlt
    obtain ⟨k2, off2, cs2, Q3, q3, Q4, q4, rfl, hw2, hx2, s3, s4⟩ := hm.get hlt
    have hcall := ih _ (List.getElem_mem hlt) b'.v _ _ ⟨_, _, _, _, rfl, r3, r4⟩ ⟨_, _, _, _, rfl, s3, s4⟩
    first | refine WpB.row (by decide) (by decide) (evh ?_) | refine WpB.seq (WpB.row (by decide) (by decide) (evh ?_)) | refine WpB.seq (WpB.seq (WpB.row (by decide) (by decide) (evh ?_))) | refine WpB.seq (WpB.seq (WpB.seq (WpB.row (by decide) (by decide) (evh ?_))))
    first | refine WpB.cond (by decide) rfl (fun _ => WpB.skip ?_) (fun e => by first | (cases e; done) | exact absurd g1 (of_decide_eq_false e)) | refine WpB.seq (WpB.cond (by decide) rfl (fun _ => WpB.skip ?_) (fun e => by first | (cases e; done) | exact absurd g1 (of_decide_eq_false e))) | refine WpB.seq (WpB.seq (WpB.cond (by decide) rfl (fun _ => WpB.skip ?_) (fun e => by first | (cases e; done) | exact absurd g1 (of_decide_eq_false e)))) | refine WpB.seq (WpB.seq (WpB.seq (WpB.cond (by decide) rfl (fun _ => WpB.skip ?_) (fun e => by first | (cases e; done) | exact absurd g1 (of_decide_eq_false e)))))
    first | refine WpB.block ?_ | refine WpB.seq (WpB.block ?_) | refine WpB.seq (WpB.seq (WpB.block ?_)) | refine WpB.seq (WpB.seq (WpB.seq (WpB.block ?_)))
    first | refine WpB.draw (by kernel_rfl) (by decide) [0, 1, 2, 3, 4, 5, 6, 7, 8, 9] (by kernel_rfl) (by kernel_rfl) (by kernel_rfl) (by kernel_rfl) (by kernel_rfl) rfl (evh ?_) | refine WpB.seq (WpB.draw (by kernel_rfl) (by decide) [0, 1, 2, 3, 4, 5, 6, 7, 8, 9] (by kernel_rfl) (by kernel_rfl) (by kernel_rfl) (by kernel_rfl) (by kernel_rfl) rfl (evh ?_)) | refine WpB.seq (WpB.seq (WpB.draw (by kernel_rfl) (by decide) [0, 1, 2, 3, 4, 5, 6, 7, 8, 9] (by kernel_rfl) (by kernel_rfl) (by kernel_rfl) (by kernel_rfl) (by kernel_rfl) rfl (evh ?_))) | refine WpB.seq (WpB.seq (WpB.seq (WpB.draw (by kernel_rfl) (by decide) [0, 1, 2, 3, 4, 5, 6, 7, 8, 9] (by kernel_rfl) (by kernel_rfl) (by kernel_rfl) (by kernel_rfl) (by kernel_rfl) rfl (evh ?_))))
    refine ⟨_, _, _, _, rfl, CallB.of_ok (Gv.okx (hcall) _), ?_⟩
    rintro b2 u ⟨rfl, rfl⟩
    refine evh ?_
    first | refine WpB.cond (by decide) rfl (fun e => by cases e) (fun _ => WpB.skip ?_) | refine WpB.seq (WpB.cond (by decide) rfl (fun e => by cases e) (fun _ => WpB.skip ?_)) | refine WpB.seq (WpB.seq (WpB.cond (by decide) rfl (fun e => by cases e) (fun _ => WpB.skip ?_))) | refine WpB.seq (WpB.seq (WpB.seq (WpB.cond (by decide) rfl (fun e => by cases e) (fun _ => WpB.skip ?_))))
    first | refine WpB.row (by decide) (by decide) (evh ?_) | refine WpB.seq (WpB.row (by decide) (by decide) (evh ?_)) | refine WpB.seq (WpB.seq (WpB.row (by decide) (by decide) (evh ?_))) | refine WpB.seq (WpB.seq (WpB.seq (WpB.row (by decide) (by decide) (evh ?_))))
    exact ⟨l.length - (i + 1), by omega, i + 1, rfl, rfl, f0, f1, by rw [← d7]; rfl, hlt, rfl⟩
  · have g1 : ¬ ((i : Int) < (l.length : Int)) := by omega
    first | refine WpB.row (by decide) (by decide) (evh ?_) | refine WpB.seq (WpB.row (by decide) (by decide) (evh ?_)) | refine WpB.seq (WpB.seq (WpB.row (by decide) (by decide) (evh ?_))) | refine WpB.seq (WpB.seq (WpB.seq (WpB.row (by decide) (by decide) (evh ?_))))
    first | refine WpB.cond (by decide) rfl (fun e => by first | (cases e; done) | exact absurd (of_decide_eq_true e) g1) (fun _ => WpB.exit ?_) | refine WpB.seq (WpB.cond (by decide) rfl (fun e => by first | (cases e; done) | exact absurd (of_decide_eq_true e) g1) (fun _ => WpB.exit ?_)) | refine WpB.seq (WpB.seq (WpB.cond (by decide) rfl (fun e => by first | (cases e; done) | exact absurd (of_decide_eq_true e) g1) (fun _ => WpB.exit ?_))) | refine WpB.seq (WpB.seq (WpB.seq (WpB.cond (by decide) rfl (fun e => by first | (cases e; done) | exact absurd (of_decide_eq_true e) g1) (fun _ => WpB.exit ?_))))
    first | refine WpB.row (by decide) (by decide) (evh ?_) | refine WpB.seq (WpB.row (by decide) (by decide) (evh ?_)) | refine WpB.seq (WpB.seq (WpB.row (by decide) (by decide) (evh ?_))) | refine WpB.seq (WpB.seq (WpB.seq (WpB.row (by decide) (by decide) (evh ?_))))
    refine WpB.ret ⟨.inr rfl, evr ?_⟩
    trivial
set_option maxHeartbeats 1000000 in
theorem same_gv : ∀ (n : Nat) (x : S27), SizeOf.sizeOf x ≤ n → ∀ (v : World) (ux uy : Value), Vr v x ux → Vr v x uy → Gv Tryz.prog 15 [ux, uy] v fun u _ => u = .bool true := by
  intro n
  induction n with
  | zero =>
    intro x h
    cases x
    simp at h
  | succ n ih =>
  intro x hn v ux uy hx hy
  have hkids : ∀ y ∈ x.f3, SizeOf.sizeOf y ≤ n := by
    intro y hy
    have := List.sizeOf_lt_of_mem hy
    cases x
    simp at hn this ⊢
    omega
  obtain ⟨A3, c3, A4, c4, rfl, h3, h4⟩ := hx
  obtain ⟨B3, d3, B4, d4, rfl, k3, k4⟩ := hy
  have t1 := texts_gv h4 k4
  have t2 := rowsSame_gv h3 k3 fun y hy => ih y (hkids y hy)
  have t3 := same02_gv v x.f1
  clear hkids ih hn
  have q0 : (x.f0 != x.f0) = false := by simp
  have q1 : (x.f2.toList == x.f2.toList) = true := by simp
  have q3 : ((x.f3.length : Int) != (x.f3.length : Int)) = false := by simp
  refine Gv.run Tryz.func15 (by kernel_rfl) rfl rfl rfl rfl fun b hb => ?_
  subst hb
  first | refine WpB.row (by decide) (by decide) (ev ?_) | refine WpB.seq (WpB.row (by decide) (by decide) (ev ?_)) | refine WpB.seq (WpB.seq (WpB.row (by decide) (by decide) (ev ?_))) | refine WpB.seq (WpB.seq (WpB.seq (WpB.row (by decide) (by decide) (ev ?_))))
  first | refine WpB.row (by decide) (by decide) (evh ?_) | refine WpB.seq (WpB.row (by decide) (by decide) (evh ?_)) | refine WpB.seq (WpB.seq (WpB.row (by decide) (by decide) (evh ?_))) | refine WpB.seq (WpB.seq (WpB.seq (WpB.row (by decide) (by decide) (evh ?_))))
  refine SeqB.callQ (by decide) (t1.okx _) (by decide) rfl rfl rfl rfl ?_
  rintro u S' ⟨rfl, rfl⟩ _
  refine evh ?_
  refine SeqB.callQ (by decide) (t3.okx _) (by decide) rfl rfl rfl rfl ?_
  rintro u S' ⟨rfl, rfl⟩ _
  refine evh ?_
  first | refine WpB.cond (by decide) rfl (fun e => by cases e) (fun _ => WpB.skip ?_) | refine WpB.seq (WpB.cond (by decide) rfl (fun e => by cases e) (fun _ => WpB.skip ?_)) | refine WpB.seq (WpB.seq (WpB.cond (by decide) rfl (fun e => by cases e) (fun _ => WpB.skip ?_))) | refine WpB.seq (WpB.seq (WpB.seq (WpB.cond (by decide) rfl (fun e => by cases e) (fun _ => WpB.skip ?_))))
  first | refine WpB.row (by decide) (by decide) (evh ?_) | refine WpB.seq (WpB.row (by decide) (by decide) (evh ?_)) | refine WpB.seq (WpB.seq (WpB.row (by decide) (by decide) (evh ?_))) | refine WpB.seq (WpB.seq (WpB.seq (WpB.row (by decide) (by decide) (evh ?_))))
  refine SeqB.callQ (by decide) (t2.okx _) (by decide) rfl rfl rfl rfl ?_
  rintro u S' ⟨rfl, rfl⟩ _
  refine evh ?_
  refine WpB.ret ⟨.inr rfl, evr ?_⟩
  trivial
end Go.Proofs.YtmpmbnmldmpmiaaGreatDoor.Sim
set_option linter.unusedVariables false
set_option linter.unusedSimpArgs false
set_option maxRecDepth 100000
namespace Go.Proofs.YtmpmbnmldmpmiaaGreatDoor.Sim
open Go Go.RowKit Go.Proofs.YtmpmbnmldmpmiaaGreatDoor.A Go.Proofs.YtmpmbnmldmpmiaaGreatDoorW.PrintWords Go.Proofs.YtmpmbnmldmpmiaaGreatDoorW.PrintLast Go.Proofs.YtmpmbnmldmpmiaaGreatDoorW.PrintMore
theorem Ok.row {P : Program} {v : World} {f : FuncId} {us : List Value} {n : Nat} {cs : List Value} {e : TypeId} (h : ∀ b : Bs, b.v = v → Ok P b f (us.map .s) ⟨[], 0, 0⟩ fun x S' => ∃ id, x = .slc id 0 n (some n) ∧ find id S'.heap = some (.row (cs.map .s) e none .no))
    {b : Bs} (hb : b.v = v) (S : St) : Ok P b f (us.map .s) S fun x S' => x = .slc S.next 0 n (some n) ∧ S' = ⟨(S.next, .row (cs.map .s) e none .no) :: S.heap, S.next + 1, S.low⟩ :=
  fun g w us' hM hr hu => (Ok.rowC h hb S g w us' hM hr (hu.free _)).mono fun u w' ha => ⟨_, _, ⟨rfl, rfl⟩, Nat.le_succ _, Nat.le_refl _, ha⟩
theorem fl_strs (w : World) (l : List ByteArray) : Fl Kd.string w l (l.map Value.string) := by
  refine ⟨by rw [List.length_map, show Kd.string.sz = 1 from rfl, Nat.mul_one], fun j p hj => ?_⟩
  have hlt := (List.getElem?_eq_some_iff.1 hj).1
  show ((l.map Value.string).drop (j * 1)).take 1 = [.string p]
  rw [Nat.mul_one, List.drop_eq_getElem_cons (by simpa using hlt)]
  have := (List.getElem?_eq_some_iff.1 hj).2
  simp [this]
set_option maxHeartbeats 1000000 in
theorem keys_gv {v : World} {x : S27} {u : Value} (h : Vr v x u) (hl : x.f4.length ≤ 8796093021952) : Gv Tryz.prog 38 [u] v fun u' v' => ∃ A' c', u' = .slice A' (srt x.f4).length c' ∧ Sw v' (srt x.f4) A' c' := by
  have hp := fun b hb S => Ok.row (us := [u]) (b := b) (fun b hb => places_ok h (by omega) b hb) hb S
  obtain ⟨A3, c3, A4, c4, rfl, h3, h4⟩ := h
  have hsl : Hide ((srt x.f4).length = x.f4.length) := ⟨(srt_perm x.f4).length_eq⟩
  have hpl : ∀ i (hi : i < x.f4.length), ∃ j, ∃ hj : j < x.f4.length, (((placesL x.f4).map fun (i : Nat) => Value.int .i64 i).map V.s)[i]? = some (.s (.int .i64 (j : Int))) ∧ (srt x.f4)[i]? = some x.f4[j] := by
    intro i hi
    obtain ⟨j, h1, hj, h2⟩ := places_at hi
    refine ⟨j, hj, ?_, h2⟩
    rw [List.getElem?_map, List.getElem?_map, h1]
    rfl
  generalize (placesL x.f4).map (fun (i : Nat) => Value.int .i64 i) = PL at hp hpl
  generalize hM : srt x.f4 = M at hsl hpl
  clear hM
  generalize hP2 : PL.map V.s = PV at hp hpl
  clear hP2
  refine Gv.run Tryz.func38 (by kernel_rfl) rfl rfl rfl rfl fun b hb => ?_
  subst hb
  have HPL := Hide.mk hpl
  clear hpl
  first | refine WpB.row (by decide) (by decide) (ev ?_) | refine WpB.seq (WpB.row (by decide) (by decide) (ev ?_)) | refine WpB.seq (WpB.seq (WpB.row (by decide) (by decide) (ev ?_))) | refine WpB.seq (WpB.seq (WpB.seq (WpB.row (by decide) (by decide) (ev ?_))))
  first | refine WpB.row (by decide) (by decide) (evh ?_) | refine WpB.seq (WpB.row (by decide) (by decide) (evh ?_)) | refine WpB.seq (WpB.seq (WpB.row (by decide) (by decide) (evh ?_))) | refine WpB.seq (WpB.seq (WpB.seq (WpB.row (by decide) (by decide) (evh ?_))))
  first | refine WpB.row (by decide) (by decide) (evh ?_) | refine WpB.seq (WpB.row (by decide) (by decide) (evh ?_)) | refine WpB.seq (WpB.seq (WpB.row (by decide) (by decide) (evh ?_))) | refine WpB.seq (WpB.seq (WpB.seq (WpB.row (by decide) (by decide) (evh ?_))))
  refine SeqB.callQ (by decide) (hp b rfl _) (by decide) rfl rfl rfl rfl ?_
  rintro u S' ⟨rfl, rfl⟩ _
  refine evh ?_
  first | refine WpB.block ?_ | refine WpB.seq (WpB.block ?_) | refine WpB.seq (WpB.seq (WpB.block ?_)) | refine WpB.seq (WpB.seq (WpB.seq (WpB.block ?_)))
  refine WpB.loop (fun m b' F S => ∃ (i : Nat), b' = b ∧ F 1 = .ptr 0 0 ∧ F 7 = .slc 1 0 x.f4.length (some x.f4.length) ∧ F 8 = .s (.int .i64 (x.f4.length : Int)) ∧ F 9 = .s (.int .i64 (i : Int)) ∧ i ≤ x.f4.length ∧ m = x.f4.length - i ∧ ((i = 0 ∧ F 3 = .s (.slice none 0 0) ∧ S = ⟨[(1, .row PV 3 none .no), (0, .row [.s (.int .i64 x.f0), .s (.float .f64 x.f1), .s (.string x.f2), .s (.slice A3 x.f3.length c3), .s (.slice A4 x.f4.length c4)] 27 none .no)], 2, 0⟩) ∨ (0 < i ∧ ∃ id N L, id < N ∧ 1 < id ∧ F 3 = .slc id 0 i none ∧ S = ⟨[(id, .row (((M.take i).map Value.string).map .s) 9 (some 1) .no), (1, .row PV 3 none .no), (0, .row [.s (.int .i64 x.f0), .s (.float .f64 x.f1), .s (.string x.f2), .s (.slice A3 x.f3.length c3), .s (.slice A4 x.f4.length c4)] 27 none .no)], N, L⟩))) x.f4.length ⟨0, rfl, rfl, rfl, rfl, rfl, Nat.zero_le _, rfl, .inl ⟨rfl, rfl, rfl⟩⟩ ?_
  rintro m b' F S ⟨i, rfl, f1, f7, f8, f9, hi, rfl, hS⟩
  by_cases hlt : i < x.f4.length
  · obtain ⟨j, hj, hpi, hsi⟩ := HPL.out i hlt
    obtain ⟨k', off, rfl, x1⟩ := h4.get hj
    have g0 : (0 : Int) ≤ (i : Int) := by omega
    have g1 : (i : Int) < (x.f4.length : Int) := by omega
    have g2 : (0 : Int) ≤ (j : Int) := by omega
    have g3 : (j : Int) < (x.f4.length : Int) := by omega
    have d7 : IntKind.i64.wrap ((i : Int) + 1) = ((i + 1 : Nat) : Int) := by rw [IntKind.wrap_i64]; omega
    have r0 : roomOk 16 1 = true := by decide
    have hiM : i < M.length := by rw [hsl.out]; exact hlt
    have e2 : (M.take (i + 1)).map Value.string = (M.take i).map Value.string ++ [.string x.f4[j]] := by
      rw [List.take_succ_eq_append_getElem hiM, List.map_append]
      rw [List.getElem?_eq_getElem hiM] at hsi
      injection hsi with hsi
      rw [hsi]
      rfl
    have E2 := Hide.mk e2
    clear e2 hsi hiM
    rcases hS with ⟨hi0, f3, rfl⟩ | ⟨hi0, id, N, L, hid, hid1, f3, rfl⟩
    · have HI := Hide.mk hi0
      clear hi0
      first | refine WpB.row (by decide) (by decide) (evh ?_) | refine WpB.seq (WpB.row (by decide) (by decide) (evh ?_)) | refine WpB.seq (WpB.seq (WpB.row (by decide) (by decide) (evh ?_))) | refine WpB.seq (WpB.seq (WpB.seq (WpB.row (by decide) (by decide) (evh ?_))))
      first | refine WpB.cond (by decide) rfl (fun _ => WpB.skip ?_) (fun e => by first | (cases e; done) | exact absurd g1 (of_decide_eq_false e)) | refine WpB.seq (WpB.cond (by decide) rfl (fun _ => WpB.skip ?_) (fun e => by first | (cases e; done) | exact absurd g1 (of_decide_eq_false e))) | refine WpB.seq (WpB.seq (WpB.cond (by decide) rfl (fun _ => WpB.skip ?_) (fun e => by first | (cases e; done) | exact absurd g1 (of_decide_eq_false e)))) | refine WpB.seq (WpB.seq (WpB.seq (WpB.cond (by decide) rfl (fun _ => WpB.skip ?_) (fun e => by first | (cases e; done) | exact absurd g1 (of_decide_eq_false e)))))
      first | refine WpB.block ?_ | refine WpB.seq (WpB.block ?_) | refine WpB.seq (WpB.seq (WpB.block ?_)) | refine WpB.seq (WpB.seq (WpB.seq (WpB.block ?_)))
      first | refine WpB.row (by decide) (by decide) (evh ?_) | refine WpB.seq (WpB.row (by decide) (by decide) (evh ?_)) | refine WpB.seq (WpB.seq (WpB.row (by decide) (by decide) (evh ?_))) | refine WpB.seq (WpB.seq (WpB.seq (WpB.row (by decide) (by decide) (evh ?_))))
      first | refine WpB.row (by decide) (by decide) (evh ?_) | refine WpB.seq (WpB.row (by decide) (by decide) (evh ?_)) | refine WpB.seq (WpB.seq (WpB.row (by decide) (by decide) (evh ?_))) | refine WpB.seq (WpB.seq (WpB.seq (WpB.row (by decide) (by decide) (evh ?_))))
      refine WpB.forget (S2 := ⟨[(_, _), (1, .row PV 3 none .no), (0, .row [.s (.int .i64 x.f0), .s (.float .f64 x.f1), .s (.string x.f2), .s (.slice A3 x.f3.length c3), .s (.slice (some ⟨k', off, none⟩) x.f4.length c4)] 27 none .no)], _, 0⟩) (find_both (find_skip find_same rfl)) rfl ?_
      first | refine WpB.row (by decide) (by decide) (evh ?_) | refine WpB.seq (WpB.row (by decide) (by decide) (evh ?_)) | refine WpB.seq (WpB.seq (WpB.row (by decide) (by decide) (evh ?_))) | refine WpB.seq (WpB.seq (WpB.seq (WpB.row (by decide) (by decide) (evh ?_))))
      have hi0 := HI.out
      have e2 := E2.out
      subst hi0
      refine ⟨x.f4.length - 1, by omega, 1, rfl, f1, f7, f8, by rw [← d7]; rfl, hlt, rfl, .inr ⟨by omega, 3, 4, 0, by decide, by decide, rfl, ?_⟩⟩
      rw [e2]
      rfl
    · have hml : ((M.take i).map Value.string).length = i := by rw [List.length_map, List.length_take, hsl.out]; omega
      have hlen : (((M.take i).map Value.string).map V.s).length = i := by rw [List.length_map, hml]
      have htk : (((M.take i).map Value.string).map V.s).take i = ((M.take i).map Value.string).map V.s := List.take_of_length_le (by omega)
      have r1 : roomOk 16 (i + 1) = true := by unfold roomOk; rw [Bool.and_eq_true]; exact ⟨Nat.ble_eq_true_of_le (by omega), Nat.ble_eq_true_of_le (by omega)⟩
      have e1 : ¬ N = id := by omega
      have e3 : id < N + 1 := by omega
      have e4 : ¬ id = 0 := by omega
      have e5 : ¬ id = 1 := by omega
      have e6 : ¬ 0 = id := by omega
      have e7 : ¬ 1 = id := by omega
      have e8 : ¬ N = 0 := by omega
      have e9 : ¬ N = 1 := by omega
      have HML := Hide.mk hml
      clear hml
      generalize hX : ((M.take i).map Value.string) = X at *
      first | refine WpB.row (by decide) (by decide) (evh ?_) | refine WpB.seq (WpB.row (by decide) (by decide) (evh ?_)) | refine WpB.seq (WpB.seq (WpB.row (by decide) (by decide) (evh ?_))) | refine WpB.seq (WpB.seq (WpB.seq (WpB.row (by decide) (by decide) (evh ?_))))
      first | refine WpB.cond (by decide) rfl (fun _ => WpB.skip ?_) (fun e => by first | (cases e; done) | exact absurd g1 (of_decide_eq_false e)) | refine WpB.seq (WpB.cond (by decide) rfl (fun _ => WpB.skip ?_) (fun e => by first | (cases e; done) | exact absurd g1 (of_decide_eq_false e))) | refine WpB.seq (WpB.seq (WpB.cond (by decide) rfl (fun _ => WpB.skip ?_) (fun e => by first | (cases e; done) | exact absurd g1 (of_decide_eq_false e)))) | refine WpB.seq (WpB.seq (WpB.seq (WpB.cond (by decide) rfl (fun _ => WpB.skip ?_) (fun e => by first | (cases e; done) | exact absurd g1 (of_decide_eq_false e)))))
      first | refine WpB.block ?_ | refine WpB.seq (WpB.block ?_) | refine WpB.seq (WpB.seq (WpB.block ?_)) | refine WpB.seq (WpB.seq (WpB.seq (WpB.block ?_)))
      first | refine WpB.row (by decide) (by decide) (evh ?_) | refine WpB.seq (WpB.row (by decide) (by decide) (evh ?_)) | refine WpB.seq (WpB.seq (WpB.row (by decide) (by decide) (evh ?_))) | refine WpB.seq (WpB.seq (WpB.seq (WpB.row (by decide) (by decide) (evh ?_))))
      first | refine WpB.row (by decide) (by decide) (evh ?_) | refine WpB.seq (WpB.row (by decide) (by decide) (evh ?_)) | refine WpB.seq (WpB.seq (WpB.row (by decide) (by decide) (evh ?_))) | refine WpB.seq (WpB.seq (WpB.seq (WpB.row (by decide) (by decide) (evh ?_))))
      have HE8 := Hide.mk hX
      clear hX
      refine WpB.forget (S2 := ⟨[(_, _), (1, .row PV 3 none .no), (0, .row [.s (.int .i64 x.f0), .s (.float .f64 x.f1), .s (.string x.f2), .s (.slice A3 x.f3.length c3), .s (.slice (some ⟨k', off, none⟩) x.f4.length c4)] 27 none .no)], _, 0⟩) (find_both (find_skip find_same (by rw [find_cons, if_neg (Ne.symm e9), find_cons, if_neg (Ne.symm e8)]; rfl))) rfl ?_
      first | refine WpB.row (by decide) (by decide) (evh ?_) | refine WpB.seq (WpB.row (by decide) (by decide) (evh ?_)) | refine WpB.seq (WpB.seq (WpB.row (by decide) (by decide) (evh ?_))) | refine WpB.seq (WpB.seq (WpB.seq (WpB.row (by decide) (by decide) (evh ?_))))
      refine ⟨x.f4.length - (i + 1), by omega, i + 1, rfl, f1, f7, f8, by rw [← d7]; rfl, hlt, rfl, .inr ⟨by omega, N + 1, N + 2, 0, Nat.lt_succ_self _, by omega, rfl, ?_⟩⟩
      rw [E2.out, List.map_append]
      rfl
  · have g1 : ¬ ((i : Int) < (x.f4.length : Int)) := by omega
    have hil : i = x.f4.length := by omega
    have hl2 : M.take i = M := List.take_of_length_le (by rw [hsl.out]; omega)
    rw [hl2] at hS
    have HJ := Hide.mk hil
    clear hil hl2
    rcases hS with ⟨hi0, f3, rfl⟩ | ⟨hi0, id, N, L, hid, hid1, f3, rfl⟩
    · have HI := Hide.mk hi0
      clear hi0
      first | refine WpB.row (by decide) (by decide) (evh ?_) | refine WpB.seq (WpB.row (by decide) (by decide) (evh ?_)) | refine WpB.seq (WpB.seq (WpB.row (by decide) (by decide) (evh ?_))) | refine WpB.seq (WpB.seq (WpB.seq (WpB.row (by decide) (by decide) (evh ?_))))
      first | refine WpB.cond (by decide) rfl (fun e => by first | (cases e; done) | exact absurd (of_decide_eq_true e) g1) (fun _ => WpB.exit ?_) | refine WpB.seq (WpB.cond (by decide) rfl (fun e => by first | (cases e; done) | exact absurd (of_decide_eq_true e) g1) (fun _ => WpB.exit ?_)) | refine WpB.seq (WpB.seq (WpB.cond (by decide) rfl (fun e => by first | (cases e; done) | exact absurd (of_decide_eq_true e) g1) (fun _ => WpB.exit ?_))) | refine WpB.seq (WpB.seq (WpB.seq (WpB.cond (by decide) rfl (fun e => by first | (cases e; done) | exact absurd (of_decide_eq_true e) g1) (fun _ => WpB.exit ?_))))
      first | refine WpB.row (by decide) (by decide) (evh ?_) | refine WpB.seq (WpB.row (by decide) (by decide) (evh ?_)) | refine WpB.seq (WpB.seq (WpB.row (by decide) (by decide) (evh ?_))) | refine WpB.seq (WpB.seq (WpB.seq (WpB.row (by decide) (by decide) (evh ?_))))
      refine WpB.ret ⟨.inr rfl, evr ?_⟩
      have hi0 := HI.out
      have hil := HJ.out
      have : M = [] := List.eq_nil_of_length_eq_zero (by rw [hsl.out]; omega)
      subst this
      exact ⟨none, 0, rfl, Sw.nil⟩
    · have e4 : ¬ id = 0 := by omega
      have e5 : ¬ id = 1 := by omega
      have e6 : ¬ 0 = id := by omega
      have e7 : ¬ 1 = id := by omega
      first | refine WpB.row (by decide) (by decide) (evh ?_) | refine WpB.seq (WpB.row (by decide) (by decide) (evh ?_)) | refine WpB.seq (WpB.seq (WpB.row (by decide) (by decide) (evh ?_))) | refine WpB.seq (WpB.seq (WpB.seq (WpB.row (by decide) (by decide) (evh ?_))))
      first | refine WpB.cond (by decide) rfl (fun e => by first | (cases e; done) | exact absurd (of_decide_eq_true e) g1) (fun _ => WpB.exit ?_) | refine WpB.seq (WpB.cond (by decide) rfl (fun e => by first | (cases e; done) | exact absurd (of_decide_eq_true e) g1) (fun _ => WpB.exit ?_)) | refine WpB.seq (WpB.seq (WpB.cond (by decide) rfl (fun e => by first | (cases e; done) | exact absurd (of_decide_eq_true e) g1) (fun _ => WpB.exit ?_))) | refine WpB.seq (WpB.seq (WpB.seq (WpB.cond (by decide) rfl (fun e => by first | (cases e; done) | exact absurd (of_decide_eq_true e) g1) (fun _ => WpB.exit ?_))))
      first | refine WpB.row (by decide) (by decide) (evh ?_) | refine WpB.seq (WpB.row (by decide) (by decide) (evh ?_)) | refine WpB.seq (WpB.seq (WpB.row (by decide) (by decide) (evh ?_))) | refine WpB.seq (WpB.seq (WpB.seq (WpB.row (by decide) (by decide) (evh ?_))))
      refine WpB.freeze id (xs := M.map Value.string) (e := 9) (tl := some 1) (fz := .no) (by rw [find_cons, if_pos rfl]) fun b2 k cp ys fr hle hblk hcap => ?_
      refine WpB.ret ⟨.inr rfl, evr ?_⟩
      have hil := HJ.out
      have hcap : (M.map Value.string).length + ys.length = cp * 1 := hcap
      rw [List.length_map] at hcap
      refine ⟨some ⟨k, 0, none⟩, cp, by rw [hil, ← hsl.out]; rfl, (fl_strs b2.v M).rows hblk (by rw [hsl.out]; omega), by omega⟩
end Go.Proofs.YtmpmbnmldmpmiaaGreatDoor.Sim
set_option linter.unusedVariables false
set_option linter.unusedSimpArgs false
set_option maxRecDepth 100000
namespace Go.Proofs.YtmpmbnmldmpmiaaGreatDoor.Sim
open Go Go.RowKit Go.Proofs.YtmpmbnmldmpmiaaGreatDoor.A Go.Proofs.YtmpmbnmldmpmiaaGreatDoorW.PrintWords Go.Proofs.YtmpmbnmldmpmiaaGreatDoorW.PrintLast Go.Proofs.YtmpmbnmldmpmiaaGreatDoorW.PrintMore
theorem copy_gv {v : World} {x : S27} {u : Value} (h : Vr v x u) (hg : G27 x) : Gv Tryz.prog 16 [u] v fun u' v' => Vr v' x u' := by
  obtain ⟨A3, c3, A4, c4, rfl, h3, h4⟩ := h
  obtain ⟨k, hk⟩ := copy_ev hg
  have hk := hk k (Nat.le_refl _)
  refine Gv.of_made Tryz.func16 (by kernel_rfl) rfl (Rm := fun w w' u' => ∃ v3 v4 : Value, u' = .agg #[.int .i64 x.f0, .float .f64 x.f1, .string x.f2, v3, v4] ∧ Kd.R k27 27 w' w.heap.size (fun k_ => some k_ ≠ (v4 : Value).ownBlock) v3 x.f3 ∧ Kd.R Kd.string 9 w' w.heap.size (fun _ => True) v4 x.f4) (fun w hw => ?_) ?_
  · refine (colanderref03_Copy.calls k x.f0 x.f1 x.f2 A3 c3 x.f3 A4 c4 x.f4 _ _ _ _ _ w (h3.up hw).1 h3.2 (h4.up hw).1 h4.2 hk).mono ?_
    rintro e w' ⟨v3, v4, he, r3, r4, hb⟩
    exact ⟨_, he, ⟨v3, v4, rfl, r3, r4⟩, hb⟩
  · rintro w w' v' u' ⟨v3, v4, rfl, r3, r4⟩ hk'
    obtain ⟨B3, d3, rfl, g3, q3⟩ := R_news r3 hk'
    obtain ⟨B4, d4, rfl, g4, q4⟩ := R_news r4 hk'
    exact ⟨B3, d3, B4, d4, rfl, ⟨q3, g3⟩, ⟨q4, g4⟩⟩
/-- Keys and values without one key, up to a place. -/
def kpK (key : ByteArray) (x : S27) (i : Nat) : List ByteArray := (x.f4.take i).filter fun k => !(k.toList == key.toList)
def kpL (key : ByteArray) (x : S27) (i : Nat) : List S27 := ((((x.f4.zip x.f3).take i)).filter fun p => !(p.1.toList == key.toList)).map (·.2)
theorem kp_len (key : ByteArray) (x : S27) (hl : x.f4.length = x.f3.length) (i : Nat) : (kpL key x i).length = (kpK key x i).length := by
  have : x.f4.take i = ((x.f4.zip x.f3).take i).map (·.1) := by
    rw [List.map_take, List.map_fst_zip (by omega)]
  unfold kpL kpK
  rw [this, List.filter_map, List.length_map, List.length_map]
  rfl
theorem kp_succ {key : ByteArray} {x : S27} {i : Nat} (h4 : i < x.f4.length) (h3 : i < x.f3.length) : kpK key x (i + 1) = kpK key x i ++ (if x.f4[i].toList == key.toList then [] else [x.f4[i]]) ∧ kpL key x (i + 1) = kpL key x i ++ (if x.f4[i].toList == key.toList then [] else [x.f3[i]]) := by
  have hz : i < (x.f4.zip x.f3).length := by rw [List.length_zip]; omega
  have ez : (x.f4.zip x.f3)[i] = (x.f4[i], x.f3[i]) := by simp
  unfold kpK kpL
  rw [List.take_succ_eq_append_getElem h4, List.take_succ_eq_append_getElem hz, List.filter_append, List.filter_append, List.map_append, ez]
  cases hq : (x.f4[i].toList == key.toList) with
  | true => simp [hq]
  | false => simp [hq]
theorem kp_all {key : ByteArray} {x : S27} (h6 : x.f0 = 6) (hl : x.f4.length = x.f3.length) : objV (kpL key x x.f4.length) (kpK key x x.f4.length) = dropR x key := by
  unfold kpK kpL dropR
  rw [if_pos h6, List.take_of_length_le (Nat.le_refl _), List.take_of_length_le (by rw [List.length_zip]; omega)]
set_option maxHeartbeats 2000000 in
theorem dropR_gv {v : World} {x : S27} {ux : Value} (hx : Vr v x ux) (key : ByteArray) (hl : x.f0 = 6 → x.f4.length = x.f3.length) (h3l : x.f3.length ≤ 1759218604400) : Gv Tryz.prog 43 [ux, .string key] v fun u v' => Vr v' (dropR x key) u := by
  obtain ⟨A3, c3, A4, c4, rfl, h3, h4⟩ := hx
  refine Gv.run Tryz.func43 (by kernel_rfl) rfl rfl rfl rfl fun b hb => ?_
  subst hb
  by_cases e6 : x.f0 = 6
  rotate_left
  · have q1 : (x.f0 != 6) = true := by simpa using e6
    have hput : dropR x key = x := by unfold dropR; rw [if_neg e6]
    rw [hput]
    clear e6 hput hl
    first | refine WpB.row (by decide) (by decide) (ev ?_) | refine WpB.seq (WpB.row (by decide) (by decide) (ev ?_)) | refine WpB.seq (WpB.seq (WpB.row (by decide) (by decide) (ev ?_))) | refine WpB.seq (WpB.seq (WpB.seq (WpB.row (by decide) (by decide) (ev ?_))))
    first | refine WpB.row (by decide) (by decide) (evh ?_) | refine WpB.seq (WpB.row (by decide) (by decide) (evh ?_)) | refine WpB.seq (WpB.seq (WpB.row (by decide) (by decide) (evh ?_))) | refine WpB.seq (WpB.seq (WpB.seq (WpB.row (by decide) (by decide) (evh ?_))))
    first | refine WpB.cond (by decide) rfl (fun _ => ?_) (fun e => by cases e) | refine WpB.seq (WpB.cond (by decide) rfl (fun _ => ?_) (fun e => by cases e)) | refine WpB.seq (WpB.seq (WpB.cond (by decide) rfl (fun _ => ?_) (fun e => by cases e))) | refine WpB.seq (WpB.seq (WpB.seq (WpB.cond (by decide) rfl (fun _ => ?_) (fun e => by cases e))))
    first | refine WpB.row (by decide) (by decide) (evh ?_) | refine WpB.seq (WpB.row (by decide) (by decide) (evh ?_)) | refine WpB.seq (WpB.seq (WpB.row (by decide) (by decide) (evh ?_))) | refine WpB.seq (WpB.seq (WpB.seq (WpB.row (by decide) (by decide) (evh ?_))))
    refine WpB.ret ⟨.inr rfl, evr ?_⟩
    exact ⟨_, _, _, _, rfl, h3, h4⟩
  have q1 : (x.f0 != 6) = false := by simpa using e6
  have hl := hl e6
  have HA := Hide.mk (kp_all (key := key) e6 hl)
  have HN := Hide.mk (kp_len key x hl)
  have HL := Hide.mk hl
  clear e6 hl
  rw [← HA.out]
  clear HA
  have hmax := h4.1.2.1
  first | refine WpB.row (by decide) (by decide) (ev ?_) | refine WpB.seq (WpB.row (by decide) (by decide) (ev ?_)) | refine WpB.seq (WpB.seq (WpB.row (by decide) (by decide) (ev ?_))) | refine WpB.seq (WpB.seq (WpB.seq (WpB.row (by decide) (by decide) (ev ?_))))
  first | refine WpB.row (by decide) (by decide) (evh ?_) | refine WpB.seq (WpB.row (by decide) (by decide) (evh ?_)) | refine WpB.seq (WpB.seq (WpB.row (by decide) (by decide) (evh ?_))) | refine WpB.seq (WpB.seq (WpB.seq (WpB.row (by decide) (by decide) (evh ?_))))
  first | refine WpB.cond (by decide) rfl (fun e => by cases e) (fun _ => WpB.skip ?_) | refine WpB.seq (WpB.cond (by decide) rfl (fun e => by cases e) (fun _ => WpB.skip ?_)) | refine WpB.seq (WpB.seq (WpB.cond (by decide) rfl (fun e => by cases e) (fun _ => WpB.skip ?_))) | refine WpB.seq (WpB.seq (WpB.seq (WpB.cond (by decide) rfl (fun e => by cases e) (fun _ => WpB.skip ?_))))
  first | refine WpB.row (by decide) (by decide) (evh ?_) | refine WpB.seq (WpB.row (by decide) (by decide) (evh ?_)) | refine WpB.seq (WpB.seq (WpB.row (by decide) (by decide) (evh ?_))) | refine WpB.seq (WpB.seq (WpB.seq (WpB.row (by decide) (by decide) (evh ?_))))
  first | refine WpB.row (by decide) (by decide) (evh ?_) | refine WpB.seq (WpB.row (by decide) (by decide) (evh ?_)) | refine WpB.seq (WpB.seq (WpB.row (by decide) (by decide) (evh ?_))) | refine WpB.seq (WpB.seq (WpB.seq (WpB.row (by decide) (by decide) (evh ?_))))
  first | refine WpB.block ?_ | refine WpB.seq (WpB.block ?_) | refine WpB.seq (WpB.seq (WpB.block ?_)) | refine WpB.seq (WpB.seq (WpB.seq (WpB.block ?_)))
  refine WpB.loop (fun m b' F S => ∃ (i : Nat) (ks ls : List Value), b' = b ∧ F 1 = .s (.string key) ∧ F 2 = .ptr 0 0 ∧ F 4 = .ptr 1 0 ∧ F 5 = .ptr 2 0 ∧ F 6 = .s (.int .i64 (i : Int)) ∧ i ≤ x.f4.length ∧ m = x.f4.length - i ∧ Fl Kd.string b.v (kpK key x i) ks ∧ Fl k27 b.v (kpL key x i) ls ∧ (((kpK key x i).length = 0 ∧ S = ⟨[(2, .row [.s (.int .i64 6), .s (.float .f64 0), .s (.string (⟨#[]⟩ : ByteArray)), .s (.slice none 0 0), .s (.slice none 0 0)] 27 none .no), (1, .row [.s (.int .i64 0), .s (.float .f64 0), .s (.string (⟨#[]⟩ : ByteArray)), .s (.slice none 0 0), .s (.slice none 0 0)] 27 none .no), (0, .row [.s (.int .i64 x.f0), .s (.float .f64 x.f1), .s (.string x.f2), .s (.slice A3 x.f3.length c3), .s (.slice A4 x.f4.length c4)] 27 none .no)], 3, 0⟩) ∨
    (∃ c ik il N, c = (kpK key x i).length ∧ 0 < c ∧ 2 < ik ∧ ik < il ∧ il < N ∧ S = ⟨[(il, .row (ls.map .s) 27 (some 5) .no), (ik, .row (ks.map .s) 9 (some 1) .no), (2, .row [.s (.int .i64 6), .s (.float .f64 0), .s (.string (⟨#[]⟩ : ByteArray)), .slc il 0 c none, .slc ik 0 c none] 27 none .no), (1, .row [.s (.int .i64 0), .s (.float .f64 0), .s (.string (⟨#[]⟩ : ByteArray)), .s (.slice none 0 0), .s (.slice none 0 0)] 27 none .no), (0, .row [.s (.int .i64 x.f0), .s (.float .f64 x.f1), .s (.string x.f2), .s (.slice A3 x.f3.length c3), .s (.slice A4 x.f4.length c4)] 27 none .no)], N, 0⟩))) x.f4.length ⟨0, [], [], rfl, rfl, rfl, rfl, rfl, rfl, Nat.zero_le _, rfl, by unfold kpK; exact Fl.nil, by unfold kpL; exact Fl.nil, .inl ⟨by unfold kpK; rfl, rfl⟩⟩ ?_
  rintro m b' F S ⟨i, ks, ls, rfl, f1, f2, f4, f5, f6, hi, rfl, hks, hls, hS⟩
  by_cases hlt : i < x.f4.length
  · have hlt3 : i < x.f3.length := by rw [← HL.out]; exact hlt
    obtain ⟨k', off, rfl, x1⟩ := h4.get hlt
    obtain ⟨k2, off2, cs2, Q3, q3, Q4, q4, rfl, hw2, hx2, s3, s4⟩ := h3.get hlt3
    have g0 : (0 : Int) ≤ (i : Int) := by omega
    have g1 : (i : Int) < (x.f4.length : Int) := by omega
    have g2 : (i : Int) < (x.f3.length : Int) := by omega
    have d7 : IntKind.i64.wrap ((i : Int) + 1) = ((i + 1 : Nat) : Int) := by rw [IntKind.wrap_i64]; omega
    obtain ⟨e4, e3⟩ := kp_succ (key := key) hlt hlt3
    have HK := Hide.mk (Vr.K s3 s4)
    cases hq : (x.f4[i].toList == key.toList) with
    | true =>
      rw [hq, if_pos rfl, List.append_nil] at e4 e3
      have E4 := Hide.mk e4
      have E3 := Hide.mk e3
      have HS := Hide.mk hS
      clear e4 e3 hS
      rcases HS.out with ⟨hc, rfl⟩ | ⟨c, ik, il, N, hc, hc0, hik, hil, hN, rfl⟩
      · clear hc
        first | refine WpB.row (by decide) (by decide) (evh ?_) | refine WpB.seq (WpB.row (by decide) (by decide) (evh ?_)) | refine WpB.seq (WpB.seq (WpB.row (by decide) (by decide) (evh ?_))) | refine WpB.seq (WpB.seq (WpB.seq (WpB.row (by decide) (by decide) (evh ?_))))
        first | refine WpB.cond (by decide) rfl (fun _ => WpB.skip ?_) (fun e => by first | (cases e; done) | exact absurd g1 (of_decide_eq_false e)) | refine WpB.seq (WpB.cond (by decide) rfl (fun _ => WpB.skip ?_) (fun e => by first | (cases e; done) | exact absurd g1 (of_decide_eq_false e))) | refine WpB.seq (WpB.seq (WpB.cond (by decide) rfl (fun _ => WpB.skip ?_) (fun e => by first | (cases e; done) | exact absurd g1 (of_decide_eq_false e)))) | refine WpB.seq (WpB.seq (WpB.seq (WpB.cond (by decide) rfl (fun _ => WpB.skip ?_) (fun e => by first | (cases e; done) | exact absurd g1 (of_decide_eq_false e)))))
        first | refine WpB.block ?_ | refine WpB.seq (WpB.block ?_) | refine WpB.seq (WpB.seq (WpB.block ?_)) | refine WpB.seq (WpB.seq (WpB.seq (WpB.block ?_)))
        first | refine WpB.row (by decide) (by decide) (evh ?_) | refine WpB.seq (WpB.row (by decide) (by decide) (evh ?_)) | refine WpB.seq (WpB.seq (WpB.row (by decide) (by decide) (evh ?_))) | refine WpB.seq (WpB.seq (WpB.seq (WpB.row (by decide) (by decide) (evh ?_))))
        first | refine WpB.cond (by decide) rfl (fun e => by cases e) (fun _ => WpB.skip ?_) | refine WpB.seq (WpB.cond (by decide) rfl (fun e => by cases e) (fun _ => WpB.skip ?_)) | refine WpB.seq (WpB.seq (WpB.cond (by decide) rfl (fun e => by cases e) (fun _ => WpB.skip ?_))) | refine WpB.seq (WpB.seq (WpB.seq (WpB.cond (by decide) rfl (fun e => by cases e) (fun _ => WpB.skip ?_))))
        first | refine WpB.row (by decide) (by decide) (evh ?_) | refine WpB.seq (WpB.row (by decide) (by decide) (evh ?_)) | refine WpB.seq (WpB.seq (WpB.row (by decide) (by decide) (evh ?_))) | refine WpB.seq (WpB.seq (WpB.seq (WpB.row (by decide) (by decide) (evh ?_))))
        refine ⟨x.f4.length - (i + 1), by omega, i + 1, ks, ls, rfl, f1, f2, f4, f5, by rw [← d7]; rfl, hlt, rfl, by rw [E4.out]; exact hks, by rw [E3.out]; exact hls, by rw [E4.out]; exact HS.out⟩
      · have w2 : ¬ il = 2 := by omega
        have w3 : ¬ ik = 2 := by omega
        have w4 : ¬ il = 0 := by omega
        have w5 : ¬ ik = 0 := by omega
        clear hc
        first | refine WpB.row (by decide) (by decide) (evh ?_) | refine WpB.seq (WpB.row (by decide) (by decide) (evh ?_)) | refine WpB.seq (WpB.seq (WpB.row (by decide) (by decide) (evh ?_))) | refine WpB.seq (WpB.seq (WpB.seq (WpB.row (by decide) (by decide) (evh ?_))))
        first | refine WpB.cond (by decide) rfl (fun _ => WpB.skip ?_) (fun e => by first | (cases e; done) | exact absurd g1 (of_decide_eq_false e)) | refine WpB.seq (WpB.cond (by decide) rfl (fun _ => WpB.skip ?_) (fun e => by first | (cases e; done) | exact absurd g1 (of_decide_eq_false e))) | refine WpB.seq (WpB.seq (WpB.cond (by decide) rfl (fun _ => WpB.skip ?_) (fun e => by first | (cases e; done) | exact absurd g1 (of_decide_eq_false e)))) | refine WpB.seq (WpB.seq (WpB.seq (WpB.cond (by decide) rfl (fun _ => WpB.skip ?_) (fun e => by first | (cases e; done) | exact absurd g1 (of_decide_eq_false e)))))
        first | refine WpB.block ?_ | refine WpB.seq (WpB.block ?_) | refine WpB.seq (WpB.seq (WpB.block ?_)) | refine WpB.seq (WpB.seq (WpB.seq (WpB.block ?_)))
        first | refine WpB.row (by decide) (by decide) (evh ?_) | refine WpB.seq (WpB.row (by decide) (by decide) (evh ?_)) | refine WpB.seq (WpB.seq (WpB.row (by decide) (by decide) (evh ?_))) | refine WpB.seq (WpB.seq (WpB.seq (WpB.row (by decide) (by decide) (evh ?_))))
        first | refine WpB.cond (by decide) rfl (fun e => by cases e) (fun _ => WpB.skip ?_) | refine WpB.seq (WpB.cond (by decide) rfl (fun e => by cases e) (fun _ => WpB.skip ?_)) | refine WpB.seq (WpB.seq (WpB.cond (by decide) rfl (fun e => by cases e) (fun _ => WpB.skip ?_))) | refine WpB.seq (WpB.seq (WpB.seq (WpB.cond (by decide) rfl (fun e => by cases e) (fun _ => WpB.skip ?_))))
        first | refine WpB.row (by decide) (by decide) (evh ?_) | refine WpB.seq (WpB.row (by decide) (by decide) (evh ?_)) | refine WpB.seq (WpB.seq (WpB.row (by decide) (by decide) (evh ?_))) | refine WpB.seq (WpB.seq (WpB.seq (WpB.row (by decide) (by decide) (evh ?_))))
        refine ⟨x.f4.length - (i + 1), by omega, i + 1, ks, ls, rfl, f1, f2, f4, f5, by rw [← d7]; rfl, hlt, rfl, by rw [E4.out]; exact hks, by rw [E3.out]; exact hls, by rw [E4.out]; exact HS.out⟩
    | false =>
      rw [hq, if_neg (by simp)] at e4 e3
      have hks2 := hks.append (Fl.one (d := Kd.string) (w := b'.v) (x := x.f4[i]) (cs := [.string x.f4[i]]) rfl)
      have hls2 := hls.append (Fl.one HK.out)
      rw [← e4] at hks2
      rw [← e3] at hls2
      have r0 : roomOk 80 1 = true := by decide
      have r1 : roomOk 16 1 = true := by decide
      have hlk : ks.length = (kpK key x i).length * 1 := hks.1
      have hll : ls.length = (kpL key x i).length * 5 := hls.1
      have hlen : (kpK key x i).length ≤ i := by unfold kpK; exact Nat.le_trans (List.length_filter_le _ _) (by rw [List.length_take]; exact Nat.min_le_left _ _)
      have hlen2 : (kpK key x (i + 1)).length = (kpK key x i).length + 1 := by rw [e4, List.length_append]; rfl
      rw [HN.out] at hll
      clear e4 e3
      have HKS := Hide.mk hks
      have HLS := Hide.mk hls
      have HKS2 := Hide.mk hks2
      have HLS2 := Hide.mk hls2
      have HLEN2 := Hide.mk hlen2
      clear hks hls hks2 hls2 hlen2
      rcases hS with ⟨hc, rfl⟩ | ⟨c, ik, il, N, hc, hc0, hik, hil, hN, rfl⟩
      · have hk0 : ks = [] := List.eq_nil_of_length_eq_zero (by rw [hlk, hc])
        have hl0 : ls = [] := List.eq_nil_of_length_eq_zero (by rw [hll, hc])
        subst hk0 hl0
        have HC := Hide.mk hc
        clear hc hlk hll hlen
        first | refine WpB.row (by decide) (by decide) (evh ?_) | refine WpB.seq (WpB.row (by decide) (by decide) (evh ?_)) | refine WpB.seq (WpB.seq (WpB.row (by decide) (by decide) (evh ?_))) | refine WpB.seq (WpB.seq (WpB.seq (WpB.row (by decide) (by decide) (evh ?_))))
        first | refine WpB.cond (by decide) rfl (fun _ => WpB.skip ?_) (fun e => by first | (cases e; done) | exact absurd g1 (of_decide_eq_false e)) | refine WpB.seq (WpB.cond (by decide) rfl (fun _ => WpB.skip ?_) (fun e => by first | (cases e; done) | exact absurd g1 (of_decide_eq_false e))) | refine WpB.seq (WpB.seq (WpB.cond (by decide) rfl (fun _ => WpB.skip ?_) (fun e => by first | (cases e; done) | exact absurd g1 (of_decide_eq_false e)))) | refine WpB.seq (WpB.seq (WpB.seq (WpB.cond (by decide) rfl (fun _ => WpB.skip ?_) (fun e => by first | (cases e; done) | exact absurd g1 (of_decide_eq_false e)))))
        first | refine WpB.block ?_ | refine WpB.seq (WpB.block ?_) | refine WpB.seq (WpB.seq (WpB.block ?_)) | refine WpB.seq (WpB.seq (WpB.seq (WpB.block ?_)))
        first | refine WpB.row (by decide) (by decide) (evh ?_) | refine WpB.seq (WpB.row (by decide) (by decide) (evh ?_)) | refine WpB.seq (WpB.seq (WpB.row (by decide) (by decide) (evh ?_))) | refine WpB.seq (WpB.seq (WpB.seq (WpB.row (by decide) (by decide) (evh ?_))))
        first | refine WpB.cond (by decide) rfl (fun _ => ?_) (fun e => by cases e) | refine WpB.seq (WpB.cond (by decide) rfl (fun _ => ?_) (fun e => by cases e)) | refine WpB.seq (WpB.seq (WpB.cond (by decide) rfl (fun _ => ?_) (fun e => by cases e))) | refine WpB.seq (WpB.seq (WpB.seq (WpB.cond (by decide) rfl (fun _ => ?_) (fun e => by cases e))))
        refine WpB.seq (WpB.ofF (WpF.drawE (whole_tab _) (by kernel_rfl) (by decide) noCall_ok (ks := [(2, 8), (0, 1), (0, 1), (0, 1)])
          (ds := [[], [0], [], [2], [], [3, 4], [5], [6], [1, 7], [0, 1, 2, 3, 4, 5, 6, 7, 8], [9, 8, 8, 0, 1, 2, 3, 4, 5, 6, 7, 8]])
          (ancs := [0, 1, 0, 4, 0, 28, 60, 124, 255, 511, 1023]) (by kernel_rfl) fun hnew => evh ?_))
        refine WpB.ofF (WpF.drawE (whole_tab _) (by kernel_rfl) (by decide) noCall_ok (ks := [(2, 8), (0, 1), (0, 1), (0, 1)])
          (ds := [[], [0], [], [2], [], [3, 4], [5], [6], [1, 7], [0, 1, 2, 3, 4, 5, 6, 7, 8], [9, 8, 8, 0, 1, 2, 3, 4, 5, 6, 7, 8]])
          (ancs := [0, 1, 0, 4, 0, 28, 60, 124, 255, 511, 1023]) (by kernel_rfl) fun hnew => evh ?_)
        refine WpB.forget (S2 := ⟨[(22, _), (12, _), (2, _), (1, .row [.s (.int .i64 0), .s (.float .f64 0), .s (.string (⟨#[]⟩ : ByteArray)), .s (.slice none 0 0), .s (.slice none 0 0)] 27 none .no), (0, .row [.s (.int .i64 x.f0), .s (.float .f64 x.f1), .s (.string x.f2), .s (.slice (some ⟨k2, off2, none⟩) x.f3.length c3), .s (.slice (some ⟨k', off, none⟩) x.f4.length c4)] 27 none .no)], _, 0⟩) (find_both (find_skip (find_both (find_skip find_same rfl)) rfl)) rfl ?_
        first | refine WpB.row (by decide) (by decide) (evh ?_) | refine WpB.seq (WpB.row (by decide) (by decide) (evh ?_)) | refine WpB.seq (WpB.seq (WpB.row (by decide) (by decide) (evh ?_))) | refine WpB.seq (WpB.seq (WpB.seq (WpB.row (by decide) (by decide) (evh ?_))))
        have hl1 : (kpK key x (i + 1)).length = 1 := by rw [HLEN2.out, HC.out]
        refine ⟨x.f4.length - (i + 1), by omega, i + 1, _, _, rfl, f1, f2, f4, f5, by rw [← d7]; rfl, hlt, rfl, HKS2.out, HLS2.out, .inr ⟨1, 12, 22, 23, hl1.symm, by decide, by decide, by decide, by decide, rfl⟩⟩
      · have hc1 : c ≤ i := by omega
        have hlk : ks.length = c * 1 := by rw [hlk, hc]
        have hll : ls.length = c * 5 := by rw [hll, hc]
        have hkl : (ks.map V.s).length = c := by rw [List.length_map, hlk, Nat.mul_one]
        have hll' : (ls.map V.s).length = c * 5 := by rw [List.length_map, hll]
        have t4 : (ks.map V.s).take c = ks.map V.s := List.take_of_length_le (by omega)
        have t3 : (ls.map V.s).take (c * 5) = ls.map V.s := List.take_of_length_le (by omega)
        have r2 : roomOk 16 (c + 1) = true := by unfold roomOk; have := HL.out; rw [Bool.and_eq_true]; exact ⟨Nat.ble_eq_true_of_le (by omega), Nat.ble_eq_true_of_le (by omega)⟩
        have r3 : roomOk 80 (c + 1) = true := by unfold roomOk; rw [Bool.and_eq_true]; exact ⟨Nat.ble_eq_true_of_le (by omega), Nat.ble_eq_true_of_le (by omega)⟩
        have HC := Hide.mk hc
        clear hc hlk hll hlen
        have w2 : ¬ il = 2 := by omega
        have w3 : ¬ ik = 2 := by omega
        have w4 : ¬ il = 0 := by omega
        have w5 : ¬ ik = 0 := by omega
        have w6 : ¬ il = ik := by omega
        have w7 : ¬ ik = il := by omega
        have w8 : ¬ N = il := by omega
        have w9 : ¬ N = ik := by omega
        have v1 : ¬ N = 2 := by omega
        have v2 : ¬ N = 0 := by omega
        have v3 : ¬ 2 = il := by omega
        have v4 : ¬ 2 = ik := by omega
        have v5 : ¬ 0 = il := by omega
        have v6 : ¬ 0 = ik := by omega
        have v7 : ¬ 1 = il := by omega
        have v8 : ¬ 1 = ik := by omega
        have v9 : ik < N := by omega
        have u1 : il < N := by omega
        have u2 : ¬ N ≤ il := by omega
        have u3 : ¬ N ≤ ik := by omega
        have u4 : ¬ N ≤ 2 := by omega
        have u5 : ¬ N ≤ 1 := by omega
        have u6 : ¬ N ≤ 0 := by omega
        have u7 : 0 ≤ N := Nat.zero_le _
        have u8 : 2 < N + 8 + 2 := by omega
        first | refine WpB.row (by decide) (by decide) (evh ?_) | refine WpB.seq (WpB.row (by decide) (by decide) (evh ?_)) | refine WpB.seq (WpB.seq (WpB.row (by decide) (by decide) (evh ?_))) | refine WpB.seq (WpB.seq (WpB.seq (WpB.row (by decide) (by decide) (evh ?_))))
        first | refine WpB.cond (by decide) rfl (fun _ => WpB.skip ?_) (fun e => by first | (cases e; done) | exact absurd g1 (of_decide_eq_false e)) | refine WpB.seq (WpB.cond (by decide) rfl (fun _ => WpB.skip ?_) (fun e => by first | (cases e; done) | exact absurd g1 (of_decide_eq_false e))) | refine WpB.seq (WpB.seq (WpB.cond (by decide) rfl (fun _ => WpB.skip ?_) (fun e => by first | (cases e; done) | exact absurd g1 (of_decide_eq_false e)))) | refine WpB.seq (WpB.seq (WpB.seq (WpB.cond (by decide) rfl (fun _ => WpB.skip ?_) (fun e => by first | (cases e; done) | exact absurd g1 (of_decide_eq_false e)))))
        first | refine WpB.block ?_ | refine WpB.seq (WpB.block ?_) | refine WpB.seq (WpB.seq (WpB.block ?_)) | refine WpB.seq (WpB.seq (WpB.seq (WpB.block ?_)))
        first | refine WpB.row (by decide) (by decide) (evh ?_) | refine WpB.seq (WpB.row (by decide) (by decide) (evh ?_)) | refine WpB.seq (WpB.seq (WpB.row (by decide) (by decide) (evh ?_))) | refine WpB.seq (WpB.seq (WpB.seq (WpB.row (by decide) (by decide) (evh ?_))))
        first | refine WpB.cond (by decide) rfl (fun _ => ?_) (fun e => by cases e) | refine WpB.seq (WpB.cond (by decide) rfl (fun _ => ?_) (fun e => by cases e)) | refine WpB.seq (WpB.seq (WpB.cond (by decide) rfl (fun _ => ?_) (fun e => by cases e))) | refine WpB.seq (WpB.seq (WpB.seq (WpB.cond (by decide) rfl (fun _ => ?_) (fun e => by cases e))))
        refine WpB.seq (WpB.ofF (WpF.drawE (whole_tab _) (by kernel_rfl) (by decide) noCall_ok (ks := [(2, 8), (0, 1), (0, 1), (0, 1)])
          (ds := [[], [0], [], [2], [], [3, 4], [5], [6], [1, 7], [0, 1, 2, 3, 4, 5, 6, 7, 8], [9, 8, 8, 0, 1, 2, 3, 4, 5, 6, 7, 8]])
          (ancs := [0, 1, 0, 4, 0, 28, 60, 124, 255, 511, 1023]) (by kernel_rfl) fun hnew => evh ?_))
        obtain ⟨K1, hK1⟩ : ∃ k, k = N + 7 + 2 := ⟨_, rfl⟩
        obtain ⟨M1, hM1⟩ : ∃ k, k = N + 8 + 2 := ⟨_, rfl⟩
        refine WpB.forget (S2 := ⟨[(K1, .row (ks.map V.s ++ [V.s (.string x.f4[i])]) 9 (some 1) .no), (il, .row (ls.map V.s) 27 (some 5) .no), (2, .row [.s (.int .i64 6), .s (.float .f64 0), .s (.string (⟨#[]⟩ : ByteArray)), .slc il 0 c none, .slc K1 0 (c + 1) none] 27 none .no), (1, .row [.s (.int .i64 0), .s (.float .f64 0), .s (.string (⟨#[]⟩ : ByteArray)), .s (.slice none 0 0), .s (.slice none 0 0)] 27 none .no), (0, .row [.s (.int .i64 x.f0), .s (.float .f64 x.f1), .s (.string x.f2), .s (.slice (some ⟨k2, off2, none⟩) x.f3.length c3), .s (.slice (some ⟨k', off, none⟩) x.f4.length c4)] 27 none .no)], M1, 0⟩) (by
          rw [hK1]
          exact find_both (find_skip find_same (by
            have z1 : ¬ il = N + 5 + 2 := by omega
            have z2 : ¬ 2 = N + 5 + 2 := by omega
            have z3 : ¬ 1 = N + 5 + 2 := by omega
            have z4 : ¬ 0 = N + 5 + 2 := by omega
            rw [find_cons, if_neg z1, find_cons, if_neg z2, find_cons, if_neg z3, find_cons, if_neg z4]
            rfl))) (by rw [hM1]) ?_
        clear w3 w5 w6 w7 w8 w9 v1 v2 v4 v6 v8 v9 u1 u2 u3 u4 u5 u6 u7 u8
        have b1 : il < K1 := by omega
        have b2 : K1 < M1 := by omega
        have b3 : il < M1 := by omega
        have b4 : 2 < K1 := by omega
        clear hK1 hM1 hik hil hN
        have w3 : ¬ K1 = 2 := by omega
        have w5 : ¬ K1 = 0 := by omega
        have w6 : ¬ il = K1 := by omega
        have w7 : ¬ K1 = il := by omega
        have w8 : ¬ M1 = il := by omega
        have w9 : ¬ M1 = K1 := by omega
        have v1 : ¬ M1 = 2 := by omega
        have v2 : ¬ M1 = 0 := by omega
        have v4 : ¬ 2 = K1 := by omega
        have v6 : ¬ 0 = K1 := by omega
        have v8 : ¬ 1 = K1 := by omega
        have u2 : ¬ M1 ≤ il := by omega
        have u3 : ¬ M1 ≤ K1 := by omega
        have u4 : ¬ M1 ≤ 2 := by omega
        have u5 : ¬ M1 ≤ 1 := by omega
        have u6 : ¬ M1 ≤ 0 := by omega
        have u7 : 0 ≤ M1 := Nat.zero_le _
        have u8 : 2 < M1 + 8 + 2 := by omega
        refine WpB.ofF (WpF.drawE (whole_tab _) (by kernel_rfl) (by decide) noCall_ok (ks := [(2, 8), (0, 1), (0, 1), (0, 1)])
          (ds := [[], [0], [], [2], [], [3, 4], [5], [6], [1, 7], [0, 1, 2, 3, 4, 5, 6, 7, 8], [9, 8, 8, 0, 1, 2, 3, 4, 5, 6, 7, 8]])
          (ancs := [0, 1, 0, 4, 0, 28, 60, 124, 255, 511, 1023]) (by kernel_rfl) fun hnew => evh ?_)
        refine WpB.forget (S2 := ⟨[(M1 + 7 + 2, .row (ls.map V.s ++ [.s (.int .i64 x.f3[i].f0), .s (.float .f64 x.f3[i].f1), .s (.string x.f3[i].f2), .s (.slice Q3 x.f3[i].f3.length q3), .s (.slice Q4 x.f3[i].f4.length q4)]) 27 (some 5) .no), (K1, .row (ks.map V.s ++ [V.s (.string x.f4[i])]) 9 (some 1) .no), (2, .row [.s (.int .i64 6), .s (.float .f64 0), .s (.string (⟨#[]⟩ : ByteArray)), .slc (M1 + 7 + 2) 0 (c + 1) none, .slc K1 0 (c + 1) none] 27 none .no), (1, .row [.s (.int .i64 0), .s (.float .f64 0), .s (.string (⟨#[]⟩ : ByteArray)), .s (.slice none 0 0), .s (.slice none 0 0)] 27 none .no), (0, .row [.s (.int .i64 x.f0), .s (.float .f64 x.f1), .s (.string x.f2), .s (.slice (some ⟨k2, off2, none⟩) x.f3.length c3), .s (.slice (some ⟨k', off, none⟩) x.f4.length c4)] 27 none .no)], _, 0⟩) (find_both (find_skip find_same (by
            have z1 : ¬ K1 = M1 + 5 + 2 := by omega
            have z2 : ¬ 2 = M1 + 5 + 2 := by omega
            have z3 : ¬ 1 = M1 + 5 + 2 := by omega
            have z4 : ¬ 0 = M1 + 5 + 2 := by omega
            rw [find_cons, if_neg z1, find_cons, if_neg z2, find_cons, if_neg z3, find_cons, if_neg z4]
            rfl))) rfl ?_
        clear w3 w5 w6 w7 w8 w9 v1 v2 v4 v6 v8 u2 u3 u4 u5 u6 u7 u8
        first | refine WpB.row (by decide) (by decide) (evh ?_) | refine WpB.seq (WpB.row (by decide) (by decide) (evh ?_)) | refine WpB.seq (WpB.seq (WpB.row (by decide) (by decide) (evh ?_))) | refine WpB.seq (WpB.seq (WpB.seq (WpB.row (by decide) (by decide) (evh ?_))))
        have hc9 : c + 1 = (kpK key x (i + 1)).length := by rw [HLEN2.out, ← HC.out]
        refine ⟨x.f4.length - (i + 1), by omega, i + 1, _, _, rfl, f1, f2, f4, f5, by rw [← d7]; rfl, hlt, rfl, HKS2.out, HLS2.out, .inr ⟨c + 1, K1, M1 + 7 + 2, M1 + 8 + 2, hc9, by omega, b4, by omega, by omega, ?_⟩⟩
        rw [List.map_append, List.map_append]
        rfl
  · have g1 : ¬ ((i : Int) < (x.f4.length : Int)) := by omega
    have hil' : i = x.f4.length := by omega
    subst hil'
    have hn := HN.out x.f4.length
    have HKS := Hide.mk hks
    have HLS := Hide.mk hls
    have HNN := Hide.mk hn
    clear hks hls hn
    rcases hS with ⟨hc, rfl⟩ | ⟨c, ik, il, N, hc, hc0, hik, hil, hN, rfl⟩
    · have HC := Hide.mk hc
      clear hc
      first | refine WpB.row (by decide) (by decide) (evh ?_) | refine WpB.seq (WpB.row (by decide) (by decide) (evh ?_)) | refine WpB.seq (WpB.seq (WpB.row (by decide) (by decide) (evh ?_))) | refine WpB.seq (WpB.seq (WpB.seq (WpB.row (by decide) (by decide) (evh ?_))))
      first | refine WpB.cond (by decide) rfl (fun e => by first | (cases e; done) | exact absurd (of_decide_eq_true e) g1) (fun _ => WpB.exit ?_) | refine WpB.seq (WpB.cond (by decide) rfl (fun e => by first | (cases e; done) | exact absurd (of_decide_eq_true e) g1) (fun _ => WpB.exit ?_)) | refine WpB.seq (WpB.seq (WpB.cond (by decide) rfl (fun e => by first | (cases e; done) | exact absurd (of_decide_eq_true e) g1) (fun _ => WpB.exit ?_))) | refine WpB.seq (WpB.seq (WpB.seq (WpB.cond (by decide) rfl (fun e => by first | (cases e; done) | exact absurd (of_decide_eq_true e) g1) (fun _ => WpB.exit ?_))))
      first | refine WpB.row (by decide) (by decide) (evh ?_) | refine WpB.seq (WpB.row (by decide) (by decide) (evh ?_)) | refine WpB.seq (WpB.seq (WpB.row (by decide) (by decide) (evh ?_))) | refine WpB.seq (WpB.seq (WpB.seq (WpB.row (by decide) (by decide) (evh ?_))))
      refine WpB.ret ⟨.inr rfl, evr ?_⟩
      have e4 : kpK key x x.f4.length = [] := List.eq_nil_of_length_eq_zero HC.out
      have e3 : kpL key x x.f4.length = [] := List.eq_nil_of_length_eq_zero (by rw [HNN.out, HC.out])
      rw [e4, e3]
      exact ⟨none, 0, none, 0, rfl, Rw.nil, Sw.nil⟩
    · have HC := Hide.mk hc
      clear hc
      have w2 : ¬ il = 2 := by omega
      have w3 : ¬ ik = 2 := by omega
      have w4 : ¬ il = 0 := by omega
      have w5 : ¬ ik = 0 := by omega
      have w6 : ¬ il = ik := by omega
      have w7 : ¬ ik = il := by omega
      have w8 : ¬ il = 1 := by omega
      have w9 : ¬ ik = 1 := by omega
      have v1 : ¬ 1 = il := by omega
      have v2 : ¬ 1 = ik := by omega
      have v3 : 1 < N := by omega
      first | refine WpB.row (by decide) (by decide) (evh ?_) | refine WpB.seq (WpB.row (by decide) (by decide) (evh ?_)) | refine WpB.seq (WpB.seq (WpB.row (by decide) (by decide) (evh ?_))) | refine WpB.seq (WpB.seq (WpB.seq (WpB.row (by decide) (by decide) (evh ?_))))
      first | refine WpB.cond (by decide) rfl (fun e => by first | (cases e; done) | exact absurd (of_decide_eq_true e) g1) (fun _ => WpB.exit ?_) | refine WpB.seq (WpB.cond (by decide) rfl (fun e => by first | (cases e; done) | exact absurd (of_decide_eq_true e) g1) (fun _ => WpB.exit ?_)) | refine WpB.seq (WpB.seq (WpB.cond (by decide) rfl (fun e => by first | (cases e; done) | exact absurd (of_decide_eq_true e) g1) (fun _ => WpB.exit ?_))) | refine WpB.seq (WpB.seq (WpB.seq (WpB.cond (by decide) rfl (fun e => by first | (cases e; done) | exact absurd (of_decide_eq_true e) g1) (fun _ => WpB.exit ?_))))
      first | refine WpB.row (by decide) (by decide) (evh ?_) | refine WpB.seq (WpB.row (by decide) (by decide) (evh ?_)) | refine WpB.seq (WpB.seq (WpB.row (by decide) (by decide) (evh ?_))) | refine WpB.seq (WpB.seq (WpB.seq (WpB.row (by decide) (by decide) (evh ?_))))
      change WpB _ _ _ _ _ _ _
      refine WpB.forget (S2 := ⟨[(il, _), (ik, _), (1, _)], _, 0⟩) (find_both (find_both (find_skip (find_both (find_skip find_same rfl)) rfl))) rfl ?_
      refine WpB.freeze ik (xs := ks) (e := 9) (tl := some 1) (fz := .no) (by rw [find_cons, if_neg w6, find_cons, if_pos rfl]) fun b2 k cp ys fr hle hblk hcap => ?_
      refine WpB.freeze il (xs := ls) (e := 27) (tl := some 5) (fz := .no) (by simp only [gS, gH, gB, gVs_lits, find_cons, w6, w7, v1, v2, if_true, if_false, Nat.reduceEqDiff, reduceIte]) fun b3 k' cp' ys' fr' hle' hblk' hcap' => ?_
      refine WpB.ret ⟨.inr rfl, evr ?_⟩
      have hcap : ks.length + ys.length = cp * 1 := hcap
      have hcap' : ls.length + ys'.length = cp' * 5 := hcap'
      have f3 := HLS.out
      have f4 := HKS.out
      have s3 : ls.length = (kpL key x x.f4.length).length * 5 := f3.1
      have s4 : ks.length = (kpK key x x.f4.length).length * 1 := f4.1
      have hh3 := HNN.out
      have hh4 := HC.out
      have hle4 : (kpK key x x.f4.length).length ≤ x.f4.length := by unfold kpK; exact Nat.le_trans (List.length_filter_le _ _) (by rw [List.length_take]; exact Nat.min_le_left _ _)
      have f3 := (f3.up k27_up (hle.trans hle').v).rows hblk' (by omega)
      have f4 := C_up str_up hle'.v ((f4.up str_up hle.v).rows hblk (by omega))
      refine ⟨some ⟨k', 0, none⟩, cp', some ⟨k, 0, none⟩, cp, ?_, ⟨f3, ?_⟩, ⟨f4, ?_⟩⟩
      · show Value.agg _ = Value.agg #[_, _, _, .slice _ (kpL key x x.f4.length).length _, .slice _ (kpK key x x.f4.length).length _]
        rw [hh3, ← hh4]
        rfl
      · show (kpL key x x.f4.length).length ≤ cp'
        omega
      · show (kpK key x x.f4.length).length ≤ cp
        omega
end Go.Proofs.YtmpmbnmldmpmiaaGreatDoor.Sim
