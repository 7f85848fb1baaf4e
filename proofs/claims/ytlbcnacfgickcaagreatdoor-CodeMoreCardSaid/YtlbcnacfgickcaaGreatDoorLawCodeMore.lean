/- colanderlaw19.CodeMore answers true at every code, and leaves it as it was; the variables of Go's library that the row lists hold what the program's text lays. -/
import Derived.Test.YtlbcnacfgickcaaGreatDoorHandMore
import Derived.Test.YtlbcnacfgickcaaGreatDoorLaid
import Derived.Test.YtlbcnacfgickcaaGreatDoorOpen
import Derived.Test.YtlbcnacfgickcaaGreatDoorChecked
import Derived.Test.YtlbcnacfgickcaaGreatDoorCards
import Derived.Test.YtlbcnacfgickcaaGreatDoorTie
import Derived.SevenTiedAt
set_option linter.unusedVariables false
namespace Go.Proofs.YtlbcnacfgickcaaGreatDoor.codeMore
open Go.RowKit Go.ChangeShapes Go.WideShapes Go.ChangeAt Laid
theorem own : ownKnob Tryz.prog.godebug = none := by kernel_rfl
theorem laidOut : laidOutB Tryz.prog = true := by kernel_rfl
def args0 : Array Value := #[.agg #[.slice none 0 0, .slice none 0 0]]
set_option maxRecDepth 100000 in
theorem lifted (os : Os) (started : os.Started) (H : Type) (enc : TypeId × Value → H) :
    ReturnsInHanded {} Tryz.checked os 7 .any (fun w args => (Rows.codeMoreSpec.pre enc Tryz.prog Tryz.f7 Rows.codeMoreRow.domain false w args ∧ laidMetH Tryz.prog laidL w) ∧ sizedMet enc Tryz.prog Tryz.f7 (OpenSpec.ofChange Rows.codeMoreSpec) false w args)
      (Rows.codeMoreSpec.post enc Tryz.prog Tryz.f7 false true false false) := by
  refine returnsInHanded_of_change_and (C := Tryz.checked) (X := fun w _ => laidMetH Tryz.prog laidL w) (fun _ _ _ hh h => h.of_heap hh) own started (by kernel_rfl) Tryz.func7
    (ChangeSpec.witness_shaped (enc := enc) (C := Tryz.checked) (os := os) (X := fun w _ => laidMetH Tryz.prog laidL w) false (World.laidAll Tryz.prog os laidL) args0 8 (World.laidAll_os _ _ _)
      (World.shaped_of_ZipB (by kernel_rfl) (by kernel_rfl)) (by kernel_rfl) (by kernel_rfl) (by kernel_rfl)
      (by rw [MakeChecks.laidMetH_plain _ _ _ (by kernel_rfl)]; exact laidMet_laidAll _ (by kernel_rfl) (by kernel_rfl))) ?_
  intro W base args ds gs before hval0 hW _ hsz0 hL _
  have hsz : (DataW.weightsEach Tryz.prog (Tryz.f7.params.toList ++ Rows.codeMoreSpec.plain.varTypes Tryz.prog) (ds ++ gs)).all (· ≤ reachBytes) = true := hsz0
  have hval : ∀ (j : Nat) t v, Tryz.f7.params[j]? = some t → args[j]? = some v → Value.okWide Tryz.prog W .any base t v := hval0
  have hW' := hW
  obtain ⟨p, q, hA0, hV, rfl, hfz, hnd⟩ := hW
  have hA : DataW.TrodAll enc Tryz.prog W 0 (fun _ => true) true Tryz.f7.params.toList args.toList ds p := hA0
  rw [Tryz.params7] at hA hval hsz
  obtain ⟨v0, d0, rfl, rfl, h0⟩ := trodAll_one hA
  obtain ⟨rfl, rfl⟩ := trodVars_none hV
  have lt0 : ∀ x ∈ p, x.block < W.heap.size := by obtain ⟨m, hm⟩ := h0; exact DataW.trod_lt m _ _ _ hm
  have hl : ∀ m ∈ d0.weights Tryz.prog 25, m ≤ reachBytes := by
    intro m hm
    have := List.all_eq_true.1 hsz m (A.mem_weightsEach (i := 0) (t := 25) (d := d0) rfl rfl hm)
    simpa using this
  obtain ⟨A0, l0, c0, A1, l1, c1, rfl, hc0, hc1, hC0, hC1, hl0, hl1, hG0, hG1⟩ := A.open_code (hval 0 25 v0 rfl rfl) h0 hl
  have hT := tabs_of_laid hL
  obtain ⟨k, hk⟩ := A.more_ok hl0 hl1 hG0 hG1
  have hok := Sim.more_walk (Sim.whole_tab W) hC0 hc0 hC1 hc1 hT hk
  refine (Sim.Ok.calls (us := [.agg #[.slice A0 l0.length c0, .slice A1 l1.length c1]]) hok (Sim.rels_singleton Sim.rel_s) Tryz.func7 (by kernel_rfl) rfl).mono fun e W' ⟨u, v, S', ν, he, hv, hr, bel⟩ => ?_
  subst hv
  simp only [Sim.V.rel] at hr
  subst hr
  subst he
  exact ⟨_, rfl, _, _, _, [], _, [], hW', trodAll_mk1 (shut_bool Tryz.underlying4 _), (trodAll_cons_mk (Below.trod laidOut (by kernel_rfl) (of_decide_eq_true (by kernel_rfl)) h0 bel lt0) trodAll_mk0), rfl, bel.frame _, fun h => by cases h⟩
theorem over : Rows.codeMoreRow.holds Tryz.pinned (OpenSpec.ofChange Rows.codeMoreSpec) :=
  OpenClaim.holds_of_wide 7 Tryz.f7 rfl rfl rfl rfl rfl rfl rfl ⟨rfl, rfl, rfl, rfl, rfl⟩ rfl rfl rfl rfl rfl (by kernel_rfl) Tryz.func7 (by kernel_rfl)
    (of_decide_eq_true (by kernel_rfl)) (by unfold Func.isWrapper; first | (rw [if_pos (by decide +kernel)]; kernel_rfl) | (rw [if_neg (by decide +kernel)]; exact ⟨rfl, rfl⟩))
    (fun os started H enc _ => lifted os started H enc)
theorem card : Claim7.holds Tryz.pinned (.plain (OpenSpec.ofChange Rows.codeMoreSpec)) Rows.codeMoreCard :=
  Claim7.holds_tied_plain_at .later [] [.data, .data, .data, .data, .data, .sentinel, .sentinel, .listed, .data, .pinned, .pinned, .pinned] true (true, "1ebeb31f93b529b11c793f3468c025a4590bbb33fa4dcc6550483ed9f63a03b9") true
    over (fun _ h => by cases h) (by kernel_rfl) (fun _ h => by cases h) codeMore_row_tie rfl ⟨rfl, rfl⟩ (by kernel_rfl) rfl
    (fun f fn hf hfn => by
      obtain rfl : f = 7 := Option.some.inj ((show Tryz.prog.funcNamed "colander/colanderlaw19.CodeMore" = some 7 by kernel_rfl).symm.trans hf) |>.symm
      obtain rfl : fn = Tryz.f7 := (Option.some.inj (Tryz.func7.symm.trans hfn)).symm
      exact ⟨by kernel_rfl, fun j t ht => by
        rw [Tryz.params7] at ht
        have hm : t ∈ [25] := by simpa using Array.mem_of_getElem? ht
        have hall : ([25].all fun u => !Tryz.prog.wantsStandIn u) = true := by kernel_rfl
        exact (show Tryz.prog.wantsStandIn t = false by simpa using List.all_eq_true.1 hall t hm)⟩)
    (by kernel_rfl)
#print axioms card
end Go.Proofs.YtlbcnacfgickcaaGreatDoor.codeMore
namespace Go.Proofs.YtlbcnacfgickcaaGreatDoor
theorem codeMore_holds : Rows.CodeMoreCardSaid := codeMore.card
end Go.Proofs.YtlbcnacfgickcaaGreatDoor
