/- Contracts of what is known: value.numbers, sign, Truth, Name. -/
import Derived.Test.YtmpmbnmldmpmiaaGreatDoorVal
import Derived.Test.YtmpmbnmldmpmiaaGreatDoorSimTy
set_option linter.unusedVariables false
set_option linter.unusedSimpArgs false
set_option maxRecDepth 100000
namespace Go.Proofs.YtmpmbnmldmpmiaaGreatDoor.Sim
open Go Go.RowKit Go.Proofs.YtmpmbnmldmpmiaaGreatDoor.A Go.Proofs.YtmpmbnmldmpmiaaGreatDoorW.PrintWords Go.Proofs.YtmpmbnmldmpmiaaGreatDoorW.PrintLast Go.Proofs.YtmpmbnmldmpmiaaGreatDoorW.PrintMore
/-- Is a number none? -/
def fNan (a : Nat) : Bool := !(FloatKind.f64.format.order a a == some Ordering.eq)
theorem isNaN_gv (v : World) (a : Nat) : Gv Tryz.prog 99 [.float .f64 a] v fun u v' => u = .bool (fNan a) := by
  refine Gv.run Tryz.func99 (by kernel_rfl) rfl rfl rfl rfl fun b hb => ?_
  first | refine WpB.row (by decide) (by decide) (ev ?_) | refine WpB.seq (WpB.row (by decide) (by decide) (ev ?_)) | refine WpB.seq (WpB.seq (WpB.row (by decide) (by decide) (ev ?_))) | refine WpB.seq (WpB.seq (WpB.seq (WpB.row (by decide) (by decide) (ev ?_))))
  first | refine WpB.row (by decide) (by decide) (evh ?_) | refine WpB.seq (WpB.row (by decide) (by decide) (evh ?_)) | refine WpB.seq (WpB.seq (WpB.row (by decide) (by decide) (evh ?_))) | refine WpB.seq (WpB.seq (WpB.seq (WpB.row (by decide) (by decide) (evh ?_))))
  refine WpB.ret ⟨.inr rfl, evr ?_⟩; trivial
/-- value.numbers, sign by sign. -/
def numbersL (a b : Nat) : Int := if fNan a = true then -1 else if fNan b = true then 1 else if (FloatKind.f64.format.order a b == some Ordering.lt) = true then -1 else if (FloatKind.f64.format.order a b == some Ordering.gt) = true then 1 else 0
theorem numbers_gv (v : World) (a b : Nat) : Gv Tryz.prog 62 [.float .f64 a, .float .f64 b] v fun u v' => u = .int .i64 (numbersL a b) := by
  refine Gv.run Tryz.func62 (by kernel_rfl) rfl rfl rfl rfl fun b' hb => ?_
  first | refine WpB.row (by decide) (by decide) (ev ?_) | refine WpB.seq (WpB.row (by decide) (by decide) (ev ?_)) | refine WpB.seq (WpB.seq (WpB.row (by decide) (by decide) (ev ?_))) | refine WpB.seq (WpB.seq (WpB.seq (WpB.row (by decide) (by decide) (ev ?_))))
  first | refine WpB.block ?_ | refine WpB.seq (WpB.block ?_) | refine WpB.seq (WpB.seq (WpB.block ?_)) | refine WpB.seq (WpB.seq (WpB.seq (WpB.block ?_)))
  first | refine WpB.row (by decide) (by decide) (ev ?_) | refine WpB.seq (WpB.row (by decide) (by decide) (ev ?_)) | refine WpB.seq (WpB.seq (WpB.row (by decide) (by decide) (ev ?_))) | refine WpB.seq (WpB.seq (WpB.seq (WpB.row (by decide) (by decide) (ev ?_))))
  refine SeqB.callV (by decide) (isNaN_gv _ a) (by decide) rfl rfl rfl rfl ?_
  rintro x v1 rfl hk1
  refine evh ?_
  cases h1 : fNan a with
  | true =>
    first | refine WpB.cond (by decide) rfl (fun _ => ?_) (fun e => by cases e) | refine WpB.seq (WpB.cond (by decide) rfl (fun _ => ?_) (fun e => by cases e)) | refine WpB.seq (WpB.seq (WpB.cond (by decide) rfl (fun _ => ?_) (fun e => by cases e))) | refine WpB.seq (WpB.seq (WpB.seq (WpB.cond (by decide) rfl (fun _ => ?_) (fun e => by cases e))))
    first | refine WpB.row (by decide) (by decide) (ev ?_) | refine WpB.seq (WpB.row (by decide) (by decide) (ev ?_)) | refine WpB.seq (WpB.seq (WpB.row (by decide) (by decide) (ev ?_))) | refine WpB.seq (WpB.seq (WpB.seq (WpB.row (by decide) (by decide) (ev ?_))))
    refine WpB.ret ⟨.inr rfl, evr ?_⟩
    simp only [numbersL, h1, if_true]
  | false =>
    first | refine WpB.cond (by decide) rfl (fun e => by cases e) (fun _ => ?_) | refine WpB.seq (WpB.cond (by decide) rfl (fun e => by cases e) (fun _ => ?_)) | refine WpB.seq (WpB.seq (WpB.cond (by decide) rfl (fun e => by cases e) (fun _ => ?_))) | refine WpB.seq (WpB.seq (WpB.seq (WpB.cond (by decide) rfl (fun e => by cases e) (fun _ => ?_))))
    first | refine WpB.row (by decide) (by decide) (ev ?_) | refine WpB.seq (WpB.row (by decide) (by decide) (ev ?_)) | refine WpB.seq (WpB.seq (WpB.row (by decide) (by decide) (ev ?_))) | refine WpB.seq (WpB.seq (WpB.seq (WpB.row (by decide) (by decide) (ev ?_))))
    refine SeqB.callV (by decide) (isNaN_gv _ b) (by decide) rfl rfl rfl rfl ?_
    rintro x v2 rfl hk2
    refine evh ?_
    cases h2 : fNan b with
    | true =>
      first | refine WpB.cond (by decide) rfl (fun _ => ?_) (fun e => by cases e) | refine WpB.seq (WpB.cond (by decide) rfl (fun _ => ?_) (fun e => by cases e)) | refine WpB.seq (WpB.seq (WpB.cond (by decide) rfl (fun _ => ?_) (fun e => by cases e))) | refine WpB.seq (WpB.seq (WpB.seq (WpB.cond (by decide) rfl (fun _ => ?_) (fun e => by cases e))))
      first | refine WpB.row (by decide) (by decide) (ev ?_) | refine WpB.seq (WpB.row (by decide) (by decide) (ev ?_)) | refine WpB.seq (WpB.seq (WpB.row (by decide) (by decide) (ev ?_))) | refine WpB.seq (WpB.seq (WpB.seq (WpB.row (by decide) (by decide) (ev ?_))))
      refine WpB.ret ⟨.inr rfl, evr ?_⟩
      simp only [numbersL, h1, h2, if_true, Bool.false_eq_true, if_false]
    | false =>
      first | refine WpB.cond (by decide) rfl (fun e => by cases e) (fun _ => ?_) | refine WpB.seq (WpB.cond (by decide) rfl (fun e => by cases e) (fun _ => ?_)) | refine WpB.seq (WpB.seq (WpB.cond (by decide) rfl (fun e => by cases e) (fun _ => ?_))) | refine WpB.seq (WpB.seq (WpB.seq (WpB.cond (by decide) rfl (fun e => by cases e) (fun _ => ?_))))
      first | refine WpB.row (by decide) (by decide) (ev ?_) | refine WpB.seq (WpB.row (by decide) (by decide) (ev ?_)) | refine WpB.seq (WpB.seq (WpB.row (by decide) (by decide) (ev ?_))) | refine WpB.seq (WpB.seq (WpB.seq (WpB.row (by decide) (by decide) (ev ?_))))
      cases h3 : (FloatKind.f64.format.order a b == some Ordering.lt) with
      | true =>
        first | refine WpB.cond (by decide) rfl (fun _ => ?_) (fun e => by cases e) | refine WpB.seq (WpB.cond (by decide) rfl (fun _ => ?_) (fun e => by cases e)) | refine WpB.seq (WpB.seq (WpB.cond (by decide) rfl (fun _ => ?_) (fun e => by cases e))) | refine WpB.seq (WpB.seq (WpB.seq (WpB.cond (by decide) rfl (fun _ => ?_) (fun e => by cases e))))
        first | refine WpB.row (by decide) (by decide) (ev ?_) | refine WpB.seq (WpB.row (by decide) (by decide) (ev ?_)) | refine WpB.seq (WpB.seq (WpB.row (by decide) (by decide) (ev ?_))) | refine WpB.seq (WpB.seq (WpB.seq (WpB.row (by decide) (by decide) (ev ?_))))
        refine WpB.ret ⟨.inr rfl, evr ?_⟩
        simp only [numbersL, h1, h2, h3, if_true, Bool.false_eq_true, if_false]
      | false =>
        first | refine WpB.cond (by decide) rfl (fun e => by cases e) (fun _ => ?_) | refine WpB.seq (WpB.cond (by decide) rfl (fun e => by cases e) (fun _ => ?_)) | refine WpB.seq (WpB.seq (WpB.cond (by decide) rfl (fun e => by cases e) (fun _ => ?_))) | refine WpB.seq (WpB.seq (WpB.seq (WpB.cond (by decide) rfl (fun e => by cases e) (fun _ => ?_))))
        first | refine WpB.row (by decide) (by decide) (ev ?_) | refine WpB.seq (WpB.row (by decide) (by decide) (ev ?_)) | refine WpB.seq (WpB.seq (WpB.row (by decide) (by decide) (ev ?_))) | refine WpB.seq (WpB.seq (WpB.seq (WpB.row (by decide) (by decide) (ev ?_))))
        cases h4 : (FloatKind.f64.format.order a b == some Ordering.gt) with
        | true =>
          first | refine WpB.cond (by decide) rfl (fun _ => ?_) (fun e => by cases e) | refine WpB.seq (WpB.cond (by decide) rfl (fun _ => ?_) (fun e => by cases e)) | refine WpB.seq (WpB.seq (WpB.cond (by decide) rfl (fun _ => ?_) (fun e => by cases e))) | refine WpB.seq (WpB.seq (WpB.seq (WpB.cond (by decide) rfl (fun _ => ?_) (fun e => by cases e))))
          first | refine WpB.row (by decide) (by decide) (ev ?_) | refine WpB.seq (WpB.row (by decide) (by decide) (ev ?_)) | refine WpB.seq (WpB.seq (WpB.row (by decide) (by decide) (ev ?_))) | refine WpB.seq (WpB.seq (WpB.seq (WpB.row (by decide) (by decide) (ev ?_))))
          refine WpB.ret ⟨.inr rfl, evr ?_⟩
          simp only [numbersL, h1, h2, h3, h4, if_true, Bool.false_eq_true, if_false]
        | false =>
          first | refine WpB.cond (by decide) rfl (fun e => by cases e) (fun _ => WpB.skip ?_) | refine WpB.seq (WpB.cond (by decide) rfl (fun e => by cases e) (fun _ => WpB.skip ?_)) | refine WpB.seq (WpB.seq (WpB.cond (by decide) rfl (fun e => by cases e) (fun _ => WpB.skip ?_))) | refine WpB.seq (WpB.seq (WpB.seq (WpB.cond (by decide) rfl (fun e => by cases e) (fun _ => WpB.skip ?_))))
          first | refine WpB.row (by decide) (by decide) (ev ?_) | refine WpB.seq (WpB.row (by decide) (by decide) (ev ?_)) | refine WpB.seq (WpB.seq (WpB.row (by decide) (by decide) (ev ?_))) | refine WpB.seq (WpB.seq (WpB.seq (WpB.row (by decide) (by decide) (ev ?_))))
          refine WpB.ret ⟨.inr rfl, evr ?_⟩
          simp only [numbersL, h1, h2, h3, h4, if_true, Bool.false_eq_true, if_false]
def signL (less more : Bool) : Int := if less = true then -1 else if more = true then 1 else 0
end Go.Proofs.YtmpmbnmldmpmiaaGreatDoor.Sim
