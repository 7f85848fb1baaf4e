/- The law ValueOrder: both Compares, both Equals, both Names, both Truths say the same. -/
import Derived.Test.YtmpmbnmldmpmiaaGreatDoorCmpE
import Derived.Test.YtmpmbnmldmpmiaaGreatDoorHandEval
import Derived.Test.YtmpmbnmldmpmiaaGreatDoorSimBig
set_option linter.unusedVariables false
set_option linter.unusedSimpArgs false
set_option maxRecDepth 100000
namespace Go.Proofs.YtmpmbnmldmpmiaaGreatDoor.Sim
open Go Go.RowKit Go.Proofs.YtmpmbnmldmpmiaaGreatDoor.A Go.Proofs.YtmpmbnmldmpmiaaGreatDoorW.PrintWords Go.Proofs.YtmpmbnmldmpmiaaGreatDoorW.PrintLast Go.Proofs.YtmpmbnmldmpmiaaGreatDoorW.PrintMore
theorem Tab_known {T : Nat → Option (List Value)} {v w : World} (h : Tab T (Bs.of v)) (k : Known v w) : Tab T (Bs.of w) := by
  intro j cs hj
  obtain ⟨h1, e, fr, h2⟩ := h j cs hj
  refine ⟨h1, e, fr, k j _ e fr h2 ?_⟩
  intro h0
  exact h1 (List.eq_nil_of_length_eq_zero (by simpa using h0))
theorem heads_gv {v : World} (hT : Tab T (Bs.of v)) : Gv Tryz.prog 12 [] v fun u _ => u = .bool true :=
  (Gv.of_calls Tryz.func12 (by kernel_rfl) rfl fun w hk => head_calls (Tab_known hT hk)).mono fun u v' h _ => h.1
end Go.Proofs.YtmpmbnmldmpmiaaGreatDoor.Sim
