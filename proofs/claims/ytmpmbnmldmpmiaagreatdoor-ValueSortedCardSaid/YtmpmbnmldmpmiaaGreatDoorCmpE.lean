/- Equal and Name of both: contracts. -/
import Derived.Test.YtmpmbnmldmpmiaaGreatDoorOrdP
import Derived.Test.YtmpmbnmldmpmiaaGreatDoorSimT
set_option linter.unusedVariables false
set_option linter.unusedSimpArgs false
set_option maxRecDepth 100000
namespace Go.Proofs.YtmpmbnmldmpmiaaGreatDoor.Sim
open Go Go.RowKit Go.Proofs.YtmpmbnmldmpmiaaGreatDoor.A Go.Proofs.YtmpmbnmldmpmiaaGreatDoorW.PrintWords Go.Proofs.YtmpmbnmldmpmiaaGreatDoorW.PrintLast Go.Proofs.YtmpmbnmldmpmiaaGreatDoorW.PrintMore
theorem equal_gv {k : Nat} {x y : S27} {r : Int} (h : cmpV k x y = some r) {v : World} {ux uy : Value} (hx : Vr v x ux) (hy : Vr v y uy) : Gv Tryz.prog 22 [ux, uy] v fun u _ => u = .bool (r == 0) := by
  have hc := cmp_gv k x y r h v ux uy hx hy
  obtain ⟨A3, c3, A4, c4, rfl, h3, h4⟩ := hx
  obtain ⟨B3, d3, B4, d4, rfl, k3, k4⟩ := hy
  refine Gv.run Tryz.func22 (by kernel_rfl) rfl rfl rfl rfl fun b hb => ?_
  subst hb
  first | refine WpB.row (by decide) (by decide) (ev ?_) | refine WpB.seq (WpB.row (by decide) (by decide) (ev ?_)) | refine WpB.seq (WpB.seq (WpB.row (by decide) (by decide) (ev ?_))) | refine WpB.seq (WpB.seq (WpB.seq (WpB.row (by decide) (by decide) (ev ?_))))
  first | refine WpB.row (by decide) (by decide) (evh ?_) | refine WpB.seq (WpB.row (by decide) (by decide) (evh ?_)) | refine WpB.seq (WpB.seq (WpB.row (by decide) (by decide) (evh ?_))) | refine WpB.seq (WpB.seq (WpB.seq (WpB.row (by decide) (by decide) (evh ?_))))
  refine SeqB.callQ (by decide) (hc.okx _) (by decide) rfl rfl rfl rfl ?_
  rintro u S' ⟨rfl, rfl⟩ _
  refine evh ?_
  refine WpB.ret ⟨.inr rfl, evr ?_⟩
  trivial
end Go.Proofs.YtmpmbnmldmpmiaaGreatDoor.Sim
