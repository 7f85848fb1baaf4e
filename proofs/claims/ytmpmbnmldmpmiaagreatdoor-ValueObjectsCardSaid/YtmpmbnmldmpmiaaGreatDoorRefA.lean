/- The reference's place, Get, Str, strs. -/
import Derived.Test.YtmpmbnmldmpmiaaGreatDoorVal
import Derived.Test.YtmpmbnmldmpmiaaGreatDoorSimTy
set_option linter.unusedVariables false
set_option linter.unusedSimpArgs false
set_option maxRecDepth 100000
namespace Go.Proofs.YtmpmbnmldmpmiaaGreatDoor.Sim
open Go Go.RowKit Go.Proofs.YtmpmbnmldmpmiaaGreatDoor.A Go.Proofs.YtmpmbnmldmpmiaaGreatDoorW.PrintWords Go.Proofs.YtmpmbnmldmpmiaaGreatDoorW.PrintLast Go.Proofs.YtmpmbnmldmpmiaaGreatDoorW.PrintMore
/-- A key's place from place i on. -/
def posL (key : ByteArray) : List ByteArray → Nat → Int
  | [], _ => -1
  | x :: r, i => if (x.toList == key.toList) = true then (i : Int) else posL key r (i + 1)
theorem posL_range (key : ByteArray) : ∀ (l : List ByteArray) (i : Nat), posL key l i = -1 ∨ ∃ j : Nat, posL key l i = ((i + j : Nat) : Int) ∧ j < l.length
  | [], i => .inl rfl
  | x :: r, i => by
    unfold posL
    split
    · exact .inr ⟨0, rfl, by simp⟩
    · rcases posL_range key r (i + 1) with h | ⟨j, h, hj⟩
      · exact .inl h
      · exact .inr ⟨j + 1, by rw [h]; congr 1; omega, by simp; omega⟩
set_option maxHeartbeats 1000000 in
theorem place_gv {v : World} {x : S27} {u : Value} (h : Vr v x u) (key : ByteArray) : Gv Tryz.prog 85 [u, .string key] v fun u' _ => u' = .int .i64 (posL key x.f4 0) := by
  obtain ⟨A3, c3, A4, c4, rfl, h3, h4⟩ := h
  refine Gv.run Tryz.func85 (by kernel_rfl) rfl rfl rfl rfl fun b hb => ?_
  subst hb
  first | refine WpB.row (by decide) (by decide) (ev ?_) | refine WpB.seq (WpB.row (by decide) (by decide) (ev ?_)) | refine WpB.seq (WpB.seq (WpB.row (by decide) (by decide) (ev ?_))) | refine WpB.seq (WpB.seq (WpB.seq (WpB.row (by decide) (by decide) (ev ?_))))
  first | refine WpB.row (by decide) (by decide) (evh ?_) | refine WpB.seq (WpB.row (by decide) (by decide) (evh ?_)) | refine WpB.seq (WpB.seq (WpB.row (by decide) (by decide) (evh ?_))) | refine WpB.seq (WpB.seq (WpB.seq (WpB.row (by decide) (by decide) (evh ?_))))
  first | refine WpB.block ?_ | refine WpB.seq (WpB.block ?_) | refine WpB.seq (WpB.seq (WpB.block ?_)) | refine WpB.seq (WpB.seq (WpB.seq (WpB.block ?_)))
  refine WpB.loop (fun m b' F S => ∃ (i : Nat), b' = b ∧ S = ⟨[(0, .row [.s (.int .i64 x.f0), .s (.float .f64 x.f1), .s (.string x.f2), .s (.slice A3 x.f3.length c3), .s (.slice A4 x.f4.length c4)] 27 none .no)], 1, 0⟩ ∧ F 1 = .s (.string key) ∧ F 2 = .ptr 0 0 ∧ F 5 = .s (.int .i64 (i : Int)) ∧ i ≤ x.f4.length ∧ m = x.f4.length - i ∧ posL key (x.f4.drop i) i = posL key x.f4 0) x.f4.length ⟨0, rfl, rfl, rfl, rfl, rfl, Nat.zero_le _, rfl, rfl⟩ ?_
  rintro m b' F S ⟨i, rfl, rfl, f1, f2, f5, hi, rfl, hp⟩
  first | refine WpB.row (by decide) (by decide) (evh ?_) | refine WpB.seq (WpB.row (by decide) (by decide) (evh ?_)) | refine WpB.seq (WpB.seq (WpB.row (by decide) (by decide) (evh ?_))) | refine WpB.seq (WpB.seq (WpB.seq (WpB.row (by decide) (by decide) (evh ?_))))
  have hmax := h4.1.2.1
  by_cases hlt : i < x.f4.length
  · obtain ⟨k', off, rfl, x1⟩ := h4.get hlt
    have g0 : (0 : Int) ≤ (i : Int) := by omega
    have g1 : (i : Int) < (x.f4.length : Int) := by omega
    have d7 : IntKind.i64.wrap ((i : Int) + 1) = ((i + 1 : Nat) : Int) := by rw [IntKind.wrap_i64]; omega
    rw [List.drop_eq_getElem_cons hlt, posL] at hp
    first | refine WpB.cond (by decide) rfl (fun _ => WpB.skip ?_) (fun e => by first | (cases e; done) | exact absurd g1 (of_decide_eq_false e)) | refine WpB.seq (WpB.cond (by decide) rfl (fun _ => WpB.skip ?_) (fun e => by first | (cases e; done) | exact absurd g1 (of_decide_eq_false e))) | refine WpB.seq (WpB.seq (WpB.cond (by decide) rfl (fun _ => WpB.skip ?_) (fun e => by first | (cases e; done) | exact absurd g1 (of_decide_eq_false e)))) | refine WpB.seq (WpB.seq (WpB.seq (WpB.cond (by decide) rfl (fun _ => WpB.skip ?_) (fun e => by first | (cases e; done) | exact absurd g1 (of_decide_eq_false e)))))
    first | refine WpB.block ?_ | refine WpB.seq (WpB.block ?_) | refine WpB.seq (WpB.seq (WpB.block ?_)) | refine WpB.seq (WpB.seq (WpB.seq (WpB.block ?_)))
    first | refine WpB.row (by decide) (by decide) (evh ?_) | refine WpB.seq (WpB.row (by decide) (by decide) (evh ?_)) | refine WpB.seq (WpB.seq (WpB.row (by decide) (by decide) (evh ?_))) | refine WpB.seq (WpB.seq (WpB.seq (WpB.row (by decide) (by decide) (evh ?_))))
    cases hq : (x.f4[i].toList == key.toList) with
    | true =>
      rw [hq, if_pos rfl] at hp
      first | refine WpB.cond (by decide) rfl (fun _ => ?_) (fun e => by cases e) | refine WpB.seq (WpB.cond (by decide) rfl (fun _ => ?_) (fun e => by cases e)) | refine WpB.seq (WpB.seq (WpB.cond (by decide) rfl (fun _ => ?_) (fun e => by cases e))) | refine WpB.seq (WpB.seq (WpB.seq (WpB.cond (by decide) rfl (fun _ => ?_) (fun e => by cases e))))
      first | refine WpB.row (by decide) (by decide) (evh ?_) | refine WpB.seq (WpB.row (by decide) (by decide) (evh ?_)) | refine WpB.seq (WpB.seq (WpB.row (by decide) (by decide) (evh ?_))) | refine WpB.seq (WpB.seq (WpB.seq (WpB.row (by decide) (by decide) (evh ?_))))
      refine WpB.ret ⟨.inr rfl, evr ?_⟩
      trivial
    | false =>
      rw [hq, if_neg (by simp)] at hp
      first | refine WpB.cond (by decide) rfl (fun e => by cases e) (fun _ => WpB.skip ?_) | refine WpB.seq (WpB.cond (by decide) rfl (fun e => by cases e) (fun _ => WpB.skip ?_)) | refine WpB.seq (WpB.seq (WpB.cond (by decide) rfl (fun e => by cases e) (fun _ => WpB.skip ?_))) | refine WpB.seq (WpB.seq (WpB.seq (WpB.cond (by decide) rfl (fun e => by cases e) (fun _ => WpB.skip ?_))))
      first | refine WpB.row (by decide) (by decide) (evh ?_) | refine WpB.seq (WpB.row (by decide) (by decide) (evh ?_)) | refine WpB.seq (WpB.seq (WpB.row (by decide) (by decide) (evh ?_))) | refine WpB.seq (WpB.seq (WpB.seq (WpB.row (by decide) (by decide) (evh ?_))))
      exact ⟨x.f4.length - (i + 1), by omega, i + 1, rfl, rfl, f1, f2, by rw [← d7]; rfl, hlt, rfl, hp⟩
  · have g1 : ¬ ((i : Int) < (x.f4.length : Int)) := by omega
    first | refine WpB.cond (by decide) rfl (fun e => by first | (cases e; done) | exact absurd (of_decide_eq_true e) g1) (fun _ => WpB.exit ?_) | refine WpB.seq (WpB.cond (by decide) rfl (fun e => by first | (cases e; done) | exact absurd (of_decide_eq_true e) g1) (fun _ => WpB.exit ?_)) | refine WpB.seq (WpB.seq (WpB.cond (by decide) rfl (fun e => by first | (cases e; done) | exact absurd (of_decide_eq_true e) g1) (fun _ => WpB.exit ?_))) | refine WpB.seq (WpB.seq (WpB.seq (WpB.cond (by decide) rfl (fun e => by first | (cases e; done) | exact absurd (of_decide_eq_true e) g1) (fun _ => WpB.exit ?_))))
    rw [List.drop_eq_nil_of_le (by omega), posL] at hp
    first | refine WpB.row (by decide) (by decide) (evh ?_) | refine WpB.seq (WpB.row (by decide) (by decide) (evh ?_)) | refine WpB.seq (WpB.seq (WpB.row (by decide) (by decide) (evh ?_))) | refine WpB.seq (WpB.seq (WpB.seq (WpB.row (by decide) (by decide) (evh ?_))))
    refine WpB.ret ⟨.inr rfl, evr ?_⟩
    trivial
/-- An object's value at a key. -/
def getL (x : S27) (key : ByteArray) : S27 × Bool := if posL key x.f4 0 < 0 then (z27, false) else ((x.f3[(posL key x.f4 0).toNat]?).getD z27, true)
theorem Vr.z {v : World} : Vr v z27 (.agg #[.int .i64 0, .float .f64 0, .string ⟨#[]⟩, .slice none 0 0, .slice none 0 0]) := ⟨none, 0, none, 0, rfl, Rw.nil, Sw.nil⟩
set_option maxHeartbeats 1000000 in
theorem getRef_ex {v : World} {x : S27} {u : Value} (h : Vr v x u) (hl : x.f4.length ≤ x.f3.length) (key : ByteArray) : ∃ uy, Vr v (getL x key).1 uy ∧ Gv Tryz.prog 37 [u, .string key] v fun u' v' => u' = .tuple #[uy, .bool (getL x key).2] := by
  have hp := place_gv h key
  have hr := posL_range key x.f4 0
  unfold getL
  obtain ⟨A3, c3, A4, c4, rfl, h3, h4⟩ := h
  generalize posL key x.f4 0 = p at hr hp
  by_cases hneg : p < 0
  · rw [if_pos hneg]
    refine ⟨_, Vr.z, ?_⟩
    refine Gv.run Tryz.func37 (by kernel_rfl) rfl rfl rfl rfl fun b hb => ?_
    subst hb
    first | refine WpB.row (by decide) (by decide) (ev ?_) | refine WpB.seq (WpB.row (by decide) (by decide) (ev ?_)) | refine WpB.seq (WpB.seq (WpB.row (by decide) (by decide) (ev ?_))) | refine WpB.seq (WpB.seq (WpB.seq (WpB.row (by decide) (by decide) (ev ?_))))
    first | refine WpB.row (by decide) (by decide) (evh ?_) | refine WpB.seq (WpB.row (by decide) (by decide) (evh ?_)) | refine WpB.seq (WpB.seq (WpB.row (by decide) (by decide) (evh ?_))) | refine WpB.seq (WpB.seq (WpB.seq (WpB.row (by decide) (by decide) (evh ?_))))
    refine SeqB.callQ (by decide) (hp.okx _) (by decide) rfl rfl rfl rfl ?_
    rintro u S' ⟨rfl, rfl⟩ _
    refine evh ?_
    first | refine WpB.row (by decide) (by decide) (evh ?_) | refine WpB.seq (WpB.row (by decide) (by decide) (evh ?_)) | refine WpB.seq (WpB.seq (WpB.row (by decide) (by decide) (evh ?_))) | refine WpB.seq (WpB.seq (WpB.seq (WpB.row (by decide) (by decide) (evh ?_))))
    first | refine WpB.cond (by decide) rfl (fun _ => ?_) (fun e => by first | (cases e; done) | exact absurd hneg (of_decide_eq_false e)) | refine WpB.seq (WpB.cond (by decide) rfl (fun _ => ?_) (fun e => by first | (cases e; done) | exact absurd hneg (of_decide_eq_false e))) | refine WpB.seq (WpB.seq (WpB.cond (by decide) rfl (fun _ => ?_) (fun e => by first | (cases e; done) | exact absurd hneg (of_decide_eq_false e)))) | refine WpB.seq (WpB.seq (WpB.seq (WpB.cond (by decide) rfl (fun _ => ?_) (fun e => by first | (cases e; done) | exact absurd hneg (of_decide_eq_false e)))))
    first | refine WpB.row (by decide) (by decide) (evh ?_) | refine WpB.seq (WpB.row (by decide) (by decide) (evh ?_)) | refine WpB.seq (WpB.seq (WpB.row (by decide) (by decide) (evh ?_))) | refine WpB.seq (WpB.seq (WpB.seq (WpB.row (by decide) (by decide) (evh ?_))))
    refine WpB.ret ⟨.inr rfl, evr ?_⟩
    trivial
  · rw [if_neg hneg]
    have hp0 : 0 ≤ p := by omega
    have hplt : p < x.f3.length := by
      rcases hr with h | ⟨j, h, hj⟩
      · omega
      · omega
    obtain ⟨j, rfl⟩ : ∃ j : Nat, p = j := ⟨p.toNat, by omega⟩
    have hj : j < x.f3.length := by omega
    obtain ⟨k, off, cs, P3, p3, P4, p4, rfl, hw, hx, r3, r4⟩ := h3.get hj
    refine ⟨.agg #[.int .i64 x.f3[j].f0, .float .f64 x.f3[j].f1, .string x.f3[j].f2, .slice P3 x.f3[j].f3.length p3, .slice P4 x.f3[j].f4.length p4], ?_, ?_⟩
    · rw [Int.toNat_natCast, List.getElem?_eq_getElem hj]
      exact ⟨_, _, _, _, rfl, r3, r4⟩
    refine Gv.run Tryz.func37 (by kernel_rfl) rfl rfl rfl rfl fun b hb => ?_
    subst hb
    first | refine WpB.row (by decide) (by decide) (ev ?_) | refine WpB.seq (WpB.row (by decide) (by decide) (ev ?_)) | refine WpB.seq (WpB.seq (WpB.row (by decide) (by decide) (ev ?_))) | refine WpB.seq (WpB.seq (WpB.seq (WpB.row (by decide) (by decide) (ev ?_))))
    first | refine WpB.row (by decide) (by decide) (evh ?_) | refine WpB.seq (WpB.row (by decide) (by decide) (evh ?_)) | refine WpB.seq (WpB.seq (WpB.row (by decide) (by decide) (evh ?_))) | refine WpB.seq (WpB.seq (WpB.seq (WpB.row (by decide) (by decide) (evh ?_))))
    refine SeqB.callQ (by decide) (hp.okx _) (by decide) rfl rfl rfl rfl ?_
    rintro u S' ⟨rfl, rfl⟩ _
    refine evh ?_
    first | refine WpB.row (by decide) (by decide) (evh ?_) | refine WpB.seq (WpB.row (by decide) (by decide) (evh ?_)) | refine WpB.seq (WpB.seq (WpB.row (by decide) (by decide) (evh ?_))) | refine WpB.seq (WpB.seq (WpB.seq (WpB.row (by decide) (by decide) (evh ?_))))
    first | refine WpB.cond (by decide) rfl (fun e => by first | (cases e; done) | exact absurd (of_decide_eq_true e) hneg) (fun _ => WpB.skip ?_) | refine WpB.seq (WpB.cond (by decide) rfl (fun e => by first | (cases e; done) | exact absurd (of_decide_eq_true e) hneg) (fun _ => WpB.skip ?_)) | refine WpB.seq (WpB.seq (WpB.cond (by decide) rfl (fun e => by first | (cases e; done) | exact absurd (of_decide_eq_true e) hneg) (fun _ => WpB.skip ?_))) | refine WpB.seq (WpB.seq (WpB.seq (WpB.cond (by decide) rfl (fun e => by first | (cases e; done) | exact absurd (of_decide_eq_true e) hneg) (fun _ => WpB.skip ?_))))
    first | refine WpB.row (by decide) (by decide) (evh ?_) | refine WpB.seq (WpB.row (by decide) (by decide) (evh ?_)) | refine WpB.seq (WpB.seq (WpB.row (by decide) (by decide) (evh ?_))) | refine WpB.seq (WpB.seq (WpB.seq (WpB.row (by decide) (by decide) (evh ?_))))
    refine WpB.ret ⟨.inr rfl, evr ?_⟩
    trivial
end Go.Proofs.YtmpmbnmldmpmiaaGreatDoor.Sim
