/- colanderlaw03.ValueObjects answers true at every value, and leaves what it was given as it was; the variables of Go's library that the row lists hold what the program's text lays. -/
import Derived.Test.YtmpmbnmldmpmiaaGreatDoorKeepO
import Derived.Test.YtmpmbnmldmpmiaaGreatDoorLaidB
import Derived.Test.YtmpmbnmldmpmiaaGreatDoorChecked
import Derived.Test.YtmpmbnmldmpmiaaGreatDoorCards
import Derived.Test.YtmpmbnmldmpmiaaGreatDoorTie
import Derived.SevenTiedAt
set_option linter.unusedVariables false
namespace Go.Proofs.YtmpmbnmldmpmiaaGreatDoor.valueObjects
open Go.RowKit Go.ChangeShapes Go.WideShapes Go.ChangeAt Laid
theorem own : ownKnob Tryz.prog.godebug = none := by kernel_rfl
theorem laidOut : laidOutB Tryz.prog = true := by kernel_rfl
def args0 : Array Value := #[.agg #[.int .i64 0, .float .f64 0, .string (⟨#[]⟩ : ByteArray), .slice none 0 0, .slice none 0 0], .string (⟨#[]⟩ : ByteArray), .agg #[.int .i64 0, .float .f64 0, .string (⟨#[]⟩ : ByteArray), .slice none 0 0, .slice none 0 0]]
set_option maxRecDepth 100000 in
theorem lifted (os : Os) (started : os.Started) (H : Type) (enc : TypeId × Value → H) :
    ReturnsInHanded {} Tryz.checked os 9 .any (fun w args => (Rows.valueObjectsSpec.pre enc Tryz.prog Tryz.f9 Rows.valueObjectsRow.domain false w args ∧ laidMetH Tryz.prog laidL w) ∧ sizedMet enc Tryz.prog Tryz.f9 (OpenSpec.ofChange Rows.valueObjectsSpec) false w args)
      (Rows.valueObjectsSpec.post enc Tryz.prog Tryz.f9 false true false false) := by
  refine returnsInHanded_of_change_and (C := Tryz.checked) (X := fun w _ => laidMetH Tryz.prog laidL w) (fun _ _ _ hh h => h.of_heap hh) own started (by kernel_rfl) Tryz.func9
    (ChangeSpec.witness_shaped (enc := enc) (C := Tryz.checked) (os := os) (X := fun w _ => laidMetH Tryz.prog laidL w) false (World.laidAll Tryz.prog os laidL) args0 8 (World.laidAll_os _ _ _)
      (World.shaped_of_ZipB (by kernel_rfl) (by kernel_rfl)) (by kernel_rfl) (by kernel_rfl) (by kernel_rfl)
      (by rw [MakeChecks.laidMetH_plain _ _ _ (by kernel_rfl)]; exact laidMet_laidAll _ (by kernel_rfl) (by kernel_rfl))) ?_
  intro W base args ds gs before hval0 hW _ hsz0 hL _
  have hsz : (DataW.weightsEach Tryz.prog (Tryz.f9.params.toList ++ Rows.valueObjectsSpec.plain.varTypes Tryz.prog) (ds ++ gs)).all (· ≤ reachBytes) = true := hsz0
  have hval : ∀ (j : Nat) t v, Tryz.f9.params[j]? = some t → args[j]? = some v → Value.okWide Tryz.prog W .any base t v := hval0
  have hW' := hW
  obtain ⟨p, q, hA0, hV, rfl, hfz, hnd⟩ := hW
  have hA : DataW.TrodAll enc Tryz.prog W 0 (fun _ => true) true Tryz.f9.params.toList args.toList ds p := hA0
  rw [Tryz.params9] at hA hval hsz
  obtain ⟨v0, v1, v2, d0, d1, d2, p1, p2, p3, rfl, rfl, rfl, h0, h1, h2⟩ := trodAll_three hA
  obtain ⟨rfl, rfl⟩ := trodVars_none hV
  have lt0 : ∀ x ∈ p1, x.block < W.heap.size := by obtain ⟨m, hm⟩ := h0; exact DataW.trod_lt m _ _ _ hm
  have lt1 : ∀ x ∈ p2, x.block < W.heap.size := by obtain ⟨m, hm⟩ := h1; exact DataW.trod_lt m _ _ _ hm
  have lt2 : ∀ x ∈ p3, x.block < W.heap.size := by obtain ⟨m, hm⟩ := h2; exact DataW.trod_lt m _ _ _ hm
  have hl0 : ∀ m ∈ d0.weights Tryz.prog 27, m ≤ reachBytes := by
    intro m hm
    have := List.all_eq_true.1 hsz m (A.mem_weightsEach (i := 0) (t := 27) (d := d0) rfl rfl hm)
    simpa using this
  have hl1 : ∀ m ∈ d1.weights Tryz.prog 9, m ≤ reachBytes := by
    intro m hm
    have := List.all_eq_true.1 hsz m (A.mem_weightsEach (i := 1) (t := 9) (d := d1) rfl rfl hm)
    simpa using this
  have hl2 : ∀ m ∈ d2.weights Tryz.prog 27, m ≤ reachBytes := by
    intro m hm
    have := List.all_eq_true.1 hsz m (A.mem_weightsEach (i := 2) (t := 27) (d := d2) rfl rfl hm)
    simpa using this
  obtain ⟨x0, A30, c30, A40, c40, rfl, q10, q20, q30, q40, g0⟩ := A.open_val (hval 0 27 v0 rfl rfl) h0 hl0
  obtain ⟨s1, rfl⟩ := okWide_string Tryz.underlying9 (hval 1 9 v1 rfl rfl)
  have z1 : s1.size ≤ 140737488351232 := by
    obtain ⟨m, hm⟩ := h1
    obtain ⟨s', e, hs'⟩ := A.open_str (c := .string s1) hm hl1
    cases e
    exact hs'
  obtain ⟨x2, A32, c32, A42, c42, rfl, q12, q22, q32, q42, g2⟩ := A.open_val (hval 2 27 v2 rfl rfl) h2 hl2
  have hT := tabs_of_laid hL
  refine (Sim.objects_calls ⟨A30, c30, A40, c40, rfl, ⟨q20, q10⟩, ⟨q40, q30⟩⟩ s1 ⟨A32, c32, A42, c42, rfl, ⟨q22, q12⟩, ⟨q42, q32⟩⟩ g0 z1 g2 hT).mono fun e W' ⟨he, bel⟩ => ?_
  subst he
  exact ⟨_, rfl, _, _, _, [], _, [], hW', trodAll_mk1 (shut_bool Tryz.underlying4 _), (trodAll_cons_mk (Below.trod laidOut (by kernel_rfl) (of_decide_eq_true (by kernel_rfl)) h0 bel lt0) (trodAll_cons_mk (Below.trod laidOut (by kernel_rfl) (of_decide_eq_true (by kernel_rfl)) h1 bel lt1) (trodAll_cons_mk (Below.trod laidOut (by kernel_rfl) (of_decide_eq_true (by kernel_rfl)) h2 bel lt2) trodAll_mk0))), rfl, bel.frame _, fun h => by cases h⟩
theorem over1 : Tryz.pinned.checked.prog.funcNamed Rows.valueObjectsRow.func = some 9 := by kernel_rfl
theorem over2 : joinedFacts Tryz.pinned.checked.prog 9 Tryz.f9 Rows.valueObjectsSpec Rows.valueObjectsRow = true := by kernel_rfl
theorem over3 : Tryz.f9.isInstance Tryz.pinned.checked.prog Rows.valueObjectsRow.origin Rows.valueObjectsRow.targs := of_decide_eq_true (by kernel_rfl)
theorem over4 : Tryz.f9.isWrapper Tryz.pinned.checked.prog Rows.valueObjectsRow.wrapper Rows.valueObjectsRow.mainSum := by unfold Func.isWrapper; first | (rw [if_pos (by decide +kernel)]; kernel_rfl) | (rw [if_neg (by decide +kernel)]; exact ⟨rfl, rfl⟩)
theorem over : Rows.valueObjectsRow.holds Tryz.pinned (OpenSpec.ofChange Rows.valueObjectsSpec) :=
  OpenClaim.holds_of_wide 9 Tryz.f9 rfl rfl rfl rfl rfl rfl rfl ⟨rfl, rfl, rfl, rfl, rfl⟩ rfl rfl rfl rfl rfl over1 Tryz.func9 over2 over3 over4
    (fun os started H enc _ => lifted os started H enc)
theorem card : Claim7.holds Tryz.pinned (.plain (OpenSpec.ofChange Rows.valueObjectsSpec)) Rows.valueObjectsCard :=
  Claim7.holds_tied_plain_at .later [] [.data, .data, .data, .data, .data, .sentinel, .sentinel, .pinned, .pinned, .pinned] true (true, "9e54ace53fb609b3cc47a10ba23ef1ab3a332511ceb387ab9aa542a9c31b6ac0") true
    over (fun _ h => by cases h) (by kernel_rfl) (fun _ h => by cases h) valueObjects_row_tie rfl ⟨rfl, rfl⟩ (by kernel_rfl) rfl
    (fun f fn hf hfn => by
      obtain rfl : f = 9 := Option.some.inj ((show Tryz.prog.funcNamed "colander/colanderlaw03.ValueObjects" = some 9 by kernel_rfl).symm.trans hf) |>.symm
      obtain rfl : fn = Tryz.f9 := (Option.some.inj (Tryz.func9.symm.trans hfn)).symm
      exact ⟨by kernel_rfl, fun j t ht => by
        rw [Tryz.params9] at ht
        have hm : t ∈ [27, 9, 27] := by simpa using Array.mem_of_getElem? ht
        have hall : ([27, 9, 27].all fun u => !Tryz.prog.wantsStandIn u) = true := by kernel_rfl
        exact (show Tryz.prog.wantsStandIn t = false by simpa using List.all_eq_true.1 hall t hm)⟩)
    (by kernel_rfl)
#print axioms card
end Go.Proofs.YtmpmbnmldmpmiaaGreatDoor.valueObjects
namespace Go.Proofs.YtmpmbnmldmpmiaaGreatDoor
/-- The card, under a short name, for the claim. -/
theorem valueObjects_holds : Rows.ValueObjectsCardSaid := valueObjects.card
end Go.Proofs.YtmpmbnmldmpmiaaGreatDoor
