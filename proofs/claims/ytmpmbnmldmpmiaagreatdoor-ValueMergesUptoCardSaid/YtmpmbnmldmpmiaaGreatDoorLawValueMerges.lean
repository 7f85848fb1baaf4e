/- colanderlaw03.ValueMerges answers true at every value of bulk at most 1048576 together, and leaves what it was given as it was; the variables of Go's library that the row lists hold what the program's text lays. -/
import Derived.Test.YtmpmbnmldmpmiaaGreatDoorMrgK
import Derived.Test.YtmpmbnmldmpmiaaGreatDoorLaidM
import Derived.Test.YtmpmbnmldmpmiaaGreatDoorChecked
import Derived.Test.YtmpmbnmldmpmiaaGreatDoorCards
import Derived.Test.YtmpmbnmldmpmiaaGreatDoorTie
import Derived.SevenTiedAt
import Derived.Deep.DeepHandedRow
import Derived.JoinedCond
set_option linter.unusedVariables false
set_option linter.unusedSimpArgs false
namespace Go.Proofs.YtmpmbnmldmpmiaaGreatDoor.valueMerges
open Go.RowKit Go.ChangeShapes Go.WideShapes Go.ChangeAt Laid
theorem own : ownKnob Tryz.prog.godebug = none := by kernel_rfl
theorem laidOut : laidOutB Tryz.prog = true := by kernel_rfl
def args0 : Array Value := #[.agg #[.int .i64 0, .float .f64 0, .string (⟨#[]⟩ : ByteArray), .slice none 0 0, .slice none 0 0], .agg #[.int .i64 0, .float .f64 0, .string (⟨#[]⟩ : ByteArray), .slice none 0 0, .slice none 0 0]]
theorem reads (os : Os) {H : Type} (enc : TypeId × Value → H) : ∃ places, DataW.whole enc Tryz.prog ((World.laidAll Tryz.prog os laidL).forCall (fun _ _ => 0) ⟨#[], args0, []⟩).memory Tryz.f3.params.toList Rows.valueMergesSpec.vars false args0.toList 8 = some ([.agg [.lit (.int .i64 0), .lit (.float .f64 0), .lit (.string []), .nil, .nil], .agg [.lit (.int .i64 0), .lit (.float .f64 0), .lit (.string []), .nil, .nil]], [], places) :=
  ⟨[], by kernel_rfl⟩
set_option maxRecDepth 100000 in
theorem lifted (os : Os) (started : os.Started) (H : Type) (enc : TypeId × Value → H) (F : Stop.Interp) :
    ReturnsInHanded {} Tryz.checked os 3 .any ((Rows.OpenSpec.upto Rows.valueMergesSpec).preRow enc Tryz.prog Tryz.f3 Rows.valueMergesUptoRow.domain false Rows.valueMergesUptoRow.laid) (((Rows.OpenSpec.upto Rows.valueMergesSpec).at F).post enc Tryz.prog Tryz.f3 false true false false) := by
  obtain ⟨places, hx⟩ := reads os enc
  have hok : Input.okWideB Tryz.prog ((World.laidAll Tryz.prog os laidL).forCall (fun _ _ => 0) ⟨#[], args0, []⟩) 3 ⟨#[], args0, []⟩ = true := by kernel_rfl
  refine returnsInHanded_of_row (C := Tryz.checked) (s := Rows.OpenSpec.upto Rows.valueMergesSpec) own started (by kernel_rfl) Tryz.func3
    ⟨World.laidAll Tryz.prog os laidL, fun _ _ => 0, ⟨#[], args0, []⟩, World.laidAll_os _ _ _, World.shaped_of_ZipB (by kernel_rfl) (by kernel_rfl), (Input.okWide_of_okWideB (base := 0) hok).1, (Input.okWide_of_okWideB hok).2,
      OpenSpec.preRow_of_cond 8 hx (by kernel_rfl) (fun k hk => by cases hk; kernel_rfl) (by kernel_rfl) (by rw [MakeChecks.laidMetH_plain _ _ _ (by kernel_rfl)]; exact laidMet_laidAll _ (by kernel_rfl) (by kernel_rfl)), by
        simp only [Assume.holds]
        exact ⟨by simp, by simp, fun _ => Modest.zero, by simp, by simp⟩⟩ ?_
  intro W base args ds gs before hval0 hW _ hcond hsz0 hL _ _
  have hsz : (DataW.weightsEach Tryz.prog (Tryz.f3.params.toList ++ Rows.valueMergesSpec.plain.varTypes Tryz.prog) (ds ++ gs)).all (· ≤ reachBytes) = true := hsz0
  have hval : ∀ (j : Nat) t v, Tryz.f3.params[j]? = some t → args[j]? = some v → Value.okWide Tryz.prog W .any base t v := hval0
  have hW' := hW
  obtain ⟨p, q, hA0, hV, rfl, hfz, hnd⟩ := hW
  have hA : DataW.TrodAll enc Tryz.prog W 0 (fun _ => true) true Tryz.f3.params.toList args.toList ds p := hA0
  rw [Tryz.params3] at hA hval hsz
  obtain ⟨v0, v1, d0, d1, p1, p2, rfl, rfl, rfl, h0, h1⟩ := trodAll_two hA
  obtain ⟨rfl, rfl⟩ := trodVars_none hV
  have hbulk : Rows.uptoBulkAll ([d0, d1] ++ []) ≤ 1048576 := of_decide_eq_true (hcond _ rfl)
  simp only [List.append_nil, Rows.uptoBulkAll] at hbulk
  have lt0 : ∀ x ∈ p1, x.block < W.heap.size := by obtain ⟨m, hm⟩ := h0; exact DataW.trod_lt m _ _ _ hm
  have lt1 : ∀ x ∈ p2, x.block < W.heap.size := by obtain ⟨m, hm⟩ := h1; exact DataW.trod_lt m _ _ _ hm
  have hl0 : ∀ m ∈ d0.weights Tryz.prog 27, m ≤ reachBytes := by
    intro m hm
    have := List.all_eq_true.1 hsz m (A.mem_weightsEach (i := 0) (t := 27) (d := d0) rfl rfl hm)
    simpa using this
  have hl1 : ∀ m ∈ d1.weights Tryz.prog 27, m ≤ reachBytes := by
    intro m hm
    have := List.all_eq_true.1 hsz m (A.mem_weightsEach (i := 1) (t := 27) (d := d1) rfl rfl hm)
    simpa using this
  obtain ⟨x0, A30, c30, A40, c40, rfl, q10, q20, q30, q40, g0⟩ := A.open_valB (C := 1048576) (hval 0 27 v0 rfl rfl) h0 hl0 (by omega)
  obtain ⟨x1, A31, c31, A41, c41, rfl, q11, q21, q31, q41, g1⟩ := A.open_valB (C := 1048576) (hval 1 27 v1 rfl rfl) h1 hl1 (by omega)
  have hT := tabs_of_laid hL
  refine (Sim.merges_calls ⟨A30, c30, A40, c40, rfl, ⟨q20, q10⟩, ⟨q40, q30⟩⟩ ⟨A31, c31, A41, c41, rfl, ⟨q21, q11⟩, ⟨q41, q31⟩⟩ g0 g1 hT).mono fun e W' ⟨he, bel⟩ => ?_
  subst he
  exact ⟨_, rfl, _, _, _, [], _, [], hW', trodAll_mk1 (shut_bool Tryz.underlying4 _), (trodAll_cons_mk (Below.trod laidOut (by kernel_rfl) (of_decide_eq_true (by kernel_rfl)) h0 bel lt0) (trodAll_cons_mk (Below.trod laidOut (by kernel_rfl) (of_decide_eq_true (by kernel_rfl)) h1 bel lt1) trodAll_mk0)), rfl, bel.frame _, fun h => by cases h⟩
theorem over1 : Tryz.pinned.checked.prog.funcNamed Rows.valueMergesUptoRow.func = some 3 := by kernel_rfl
theorem over2 : joinedFacts Tryz.pinned.checked.prog 3 Tryz.f3 (Rows.OpenSpec.upto Rows.valueMergesSpec).bare Rows.valueMergesUptoRow = true := by kernel_rfl
theorem over3 : Tryz.f3.isInstance Tryz.pinned.checked.prog Rows.valueMergesUptoRow.origin Rows.valueMergesUptoRow.targs := of_decide_eq_true (by kernel_rfl)
theorem over4 : Tryz.f3.isWrapper Tryz.pinned.checked.prog Rows.valueMergesUptoRow.wrapper Rows.valueMergesUptoRow.mainSum := by unfold Func.isWrapper; first | (rw [if_pos (by decide +kernel)]; kernel_rfl) | (rw [if_neg (by decide +kernel)]; exact ⟨rfl, rfl⟩)
theorem over : Rows.valueMergesUptoRow.holds Tryz.pinned (Rows.OpenSpec.upto Rows.valueMergesSpec) :=
  OpenClaim.holds_of_cond 3 Tryz.f3 rfl rfl rfl rfl rfl rfl rfl ⟨rfl, rfl, rfl, rfl, rfl⟩ rfl rfl rfl rfl rfl over1 Tryz.func3 over2 over3 over4
    (fun os started H enc _ F => by rw [OpenClaim.pre_eq_preRow]; exact lifted os started H enc F)
theorem card : Claim7.holds Tryz.pinned (.plain (Rows.OpenSpec.upto Rows.valueMergesSpec)) Rows.valueMergesUptoCard :=
  Claim7.holds_tied_plain_at .later [] [.data, .data, .data, .data, .data, .sentinel, .sentinel, .pinned, .pinned, .pinned] true (true, "9e54ace53fb609b3cc47a10ba23ef1ab3a332511ceb387ab9aa542a9c31b6ac0") true
    over (fun _ h => by cases h) (by kernel_rfl) (fun _ h => by cases h) valueMergesUpto_row_tie rfl ⟨rfl, rfl⟩ (by kernel_rfl) rfl
    (fun f fn hf hfn => by
      obtain rfl : f = 3 := Option.some.inj ((show Tryz.prog.funcNamed "colander/colanderlaw03.ValueMerges" = some 3 by kernel_rfl).symm.trans hf) |>.symm
      obtain rfl : fn = Tryz.f3 := (Option.some.inj (Tryz.func3.symm.trans hfn)).symm
      exact ⟨by kernel_rfl, fun j t ht => by
        rw [Tryz.params3] at ht
        have hm : t ∈ [27, 27] := by simpa using Array.mem_of_getElem? ht
        have hall : ([27, 27].all fun u => !Tryz.prog.wantsStandIn u) = true := by kernel_rfl
        exact (show Tryz.prog.wantsStandIn t = false by simpa using List.all_eq_true.1 hall t hm)⟩)
    (by kernel_rfl)
#print axioms card
end Go.Proofs.YtmpmbnmldmpmiaaGreatDoor.valueMerges
namespace Go.Proofs.YtmpmbnmldmpmiaaGreatDoor
/-- The card, under a short name, for the claim. -/
theorem valueMergesUpto_holds : Rows.ValueMergesUptoCardSaid := valueMerges.card
end Go.Proofs.YtmpmbnmldmpmiaaGreatDoor
