/- colanderlaw19.CodeWider answers true at every code, and leaves it as it was; the variables of Go's library that the row lists hold what the program's text lays. -/
import Derived.Test.YtlbcnacfgickcaaGreatDoorHandWider
import Derived.Test.YtlbcnacfgickcaaGreatDoorOpen
import Derived.Test.YtlbcnacfgickcaaGreatDoorChecked
import Derived.Test.YtlbcnacfgickcaaGreatDoorCards
import Derived.Test.YtlbcnacfgickcaaGreatDoorTie
import Derived.SevenTiedAt
import Derived.Test.YtlbcnacfgickcaaGreatDoorRows
import Derived.Test.YtlbcnacfgickcaaGreatDoorHandValid
import Derived.ProofKit
import Derived.Lay
import Derived.MakeChecks
import Derived.Lib.LaidU8T
import Derived.OpenShut
set_option linter.unusedVariables false
namespace Go.Proofs.YtlbcnacfgickcaaGreatDoor.Laid
open Go.RowKit Go.Lib Go.Proofs
def laidL : List (String × DataW Unit) := Rows.codeHighRow.laid
theorem heap_of_var {P : Program} {w : World} {n : String} {g : Nat} {cs : Array Value} (hg : P.globalNamed n = some g) (h : w.var? P n = some cs) : ∃ e fr, w.heap[g]? = some (.cells cs e fr) := by
  simp only [World.var?, hg, Option.bind_some] at h
  split at h
  · rename_i cs' e fr hx
    cases h
    exact ⟨e, fr, hx⟩
  · cases h
/-- A table of pairs. -/
theorem cells_of_pairs {P : Program} {w : World} {fuel : Nat} {t e : TypeId} {n : Nat} {fs : Array Field} {k : IntKind} {cs : List Value} {zs : List (Nat × Nat)} {p : List MemPlace}
    (ht : P.underlying t = some (.array n e)) (he : P.underlying e = some (.struct fs)) (hf : ∀ (i : Nat) (f : Field), fs[i]? = some f → P.underlying f.type = some (.int k) ∧ f.offset = i ∧ P.cellsOf f.type = 1) (hfs : fs.size = 2) (hce : P.cellsOf e = 2) (hct : P.cellsOf t = n * 2) (hz : zs.length = n)
    (h : DataW.trod (fun _ => ()) P w 0 (fun _ => true) false fuel t cs = some (.agg (zs.map fun x => .agg [.lit (.int k x.1), .lit (.int k x.2)]), p)) : cs = zs.flatMap fun x => [Value.int k (x.1 : Int), Value.int k (x.2 : Int)] := by
  have hl : cs.length = 2 * zs.length := by
    obtain ⟨xs, m, _, _, hl, _, _⟩ := DataW.trod_array ht h
    rw [hl, hct, hz, Nat.mul_comm]
  have hel : ∀ (i : Nat) (x : Nat × Nat), zs[i]? = some x → (cs.drop (i * 2)).take 2 = [Value.int k (x.1 : Int), Value.int k (x.2 : Int)] := by
    intro i x hx
    have hi : i < n := by rw [← hz]; exact (List.getElem?_eq_some_iff.1 hx).1
    obtain ⟨f', d, q, hd, hr⟩ := array_elem ht h i hi
    rw [List.getElem?_map, hx, Option.map_some, Option.some.injEq] at hd
    subst hd
    rw [hce] at hr
    exact ints_of_struct (zs := [(x.1 : Int), (x.2 : Int)]) he hf (by rw [hce, hfs]) hr
  clear h ht hct hz
  induction zs generalizing cs with
  | nil => simpa using hl
  | cons x zs ih =>
    have h0 := hel 0 x rfl
    simp only [Nat.zero_mul, List.drop_zero] at h0
    have hc : cs = cs.take 2 ++ cs.drop 2 := (List.take_append_drop 2 cs).symm
    rw [hc, h0, List.flatMap_cons]
    congr 1
    refine ih (by simp at hl ⊢; omega) (fun i y hy => ?_)
    have := hel (i + 1) y (by simpa using hy)
    rw [List.drop_drop]
    rw [show 2 + i * 2 = (i + 1) * 2 by omega]
    exact this
theorem u8x : U8Extra Tryz.prog Tryz.lays196_ren := ⟨by kernel_rfl, by kernel_rfl, by kernel_rfl, by kernel_rfl, by kernel_rfl, by kernel_rfl, by kernel_rfl⟩
theorem first_eq : Pinned.utf8First = firstData := by kernel_rfl
theorem firstZ_eq : (Pinned.utf8FirstZ.map fun (n : Nat) => Value.int .u8 (n : Int)) = firstTab.map fun z => Value.int .u8 z := by kernel_rfl
theorem tabs_of_laid {W : World} (h : laidMetH Tryz.prog laidL W) : A.Tabs W := by
  rw [MakeChecks.laidMetH_plain _ _ _ (by kernel_rfl)] at h
  have r0 : VarReads Tryz.prog W "strings.asciiSpace" (tabData .u8 asciiSpaceTab) := Lib.laidMet.reads h (by
    have e : (tabData .u8 asciiSpaceTab : DataW Unit) = Rows.laid_strings_asciiSpace := by kernel_rfl
    rw [e]; simp [laidL, Rows.codeHighRow])
  have r3 : VarReads Tryz.prog W "unicode/utf8.first" firstData := first_eq ▸ Lib.laidMet.reads h (by simp [laidL, Rows.codeHighRow, Rows.laid_unicode_utf8_first])
  have r4 : VarReads Tryz.prog W "unicode/utf8.acceptRanges" acceptData := Lib.laidMet.reads h (by
    have e : (acceptData : DataW Unit) = Rows.laid_unicode_utf8_acceptRanges := by kernel_rfl
    rw [e]; simp [laidL, Rows.codeHighRow])
  have r5 : VarReads Tryz.prog W "internal/strconv.uint64pow10" (tabData .u64 Lib.pow10Tab) := Lib.laidMet.reads h (by
    have e : (tabData .u64 Lib.pow10Tab : DataW Unit) = Rows.laid_internal_strconv_uint64pow10 := by kernel_rfl
    rw [e]; simp [laidL, Rows.codeHighRow])
  have r9 : VarReads Tryz.prog W "internal/strconv.optimize" (.lit (.bool true)) := Lib.laidMet.reads h (by simp [laidL, Rows.codeHighRow, Rows.laid_internal_strconv_optimize])
  have r12 : VarReads Tryz.prog W "internal/strconv.pow10Tab" (.agg (Pinned.pow10Rows.map fun x => .agg [.lit (.int .u64 x.1), .lit (.int .u64 x.2)])) := Lib.laidMet.reads h (by simp [laidL, Rows.codeHighRow, Rows.laid_internal_strconv_pow10Tab, Pinned.pow10Tab])
  have hu : Lib.Utf8Tabs (Tryz.lays196_ren.g 3) (Tryz.lays196_ren.g 4) W := utf8Tabs_of_readsT (.of196 Tryz.lays196) u8x r3 r4
  -- each block
  have b0 : ∃ e fr, W.heap[0]? = some (.cells (asciiSpaceTab.map fun z => Value.int .u8 z).toArray e fr) := by
    obtain ⟨g, t, cs, fuel, p, hg, hy, hv, hd⟩ := r0
    obtain rfl := Option.some.inj ((show Tryz.prog.globalNamed "strings.asciiSpace" = some 0 by kernel_rfl).symm.trans hg)
    obtain rfl := Option.some.inj ((show (Tryz.prog.globals[0]?).map (·.type) = some 94 by kernel_rfl).symm.trans hy)
    have := cells_of_tab Tryz.underlying94 Tryz.underlying5 (by kernel_rfl) (by kernel_rfl) hd
    rw [← this]
    exact heap_of_var hg hv
  have b3 : ∃ e fr, W.heap[3]? = some (.cells (Pinned.utf8FirstZ.map fun (n : Nat) => Value.int .u8 (n : Int)).toArray e fr) := by
    obtain ⟨g, t, cs, fuel, p, hg, hy, hv, hd⟩ := r3
    obtain rfl := Option.some.inj ((show Tryz.prog.globalNamed "unicode/utf8.first" = some 3 by kernel_rfl).symm.trans hg)
    obtain rfl := Option.some.inj ((show (Tryz.prog.globals[3]?).map (·.type) = some 94 by kernel_rfl).symm.trans hy)
    have := cells_of_tab Tryz.underlying94 Tryz.underlying5 (by kernel_rfl) (by kernel_rfl) hd
    rw [firstZ_eq, ← this]
    exact heap_of_var hg hv
  have b5 : ∃ e fr, W.heap[5]? = some (.cells (Lib.pow10Tab.map fun z => Value.int .u64 z).toArray e fr) := by
    obtain ⟨g, t, cs, fuel, p, hg, hy, hv, hd⟩ := r5
    obtain rfl := Option.some.inj ((show Tryz.prog.globalNamed "internal/strconv.uint64pow10" = some 5 by kernel_rfl).symm.trans hg)
    obtain rfl := Option.some.inj ((show (Tryz.prog.globals[5]?).map (·.type) = some 158 by kernel_rfl).symm.trans hy)
    have := cells_of_tab Tryz.underlying158 Tryz.underlying102 (by kernel_rfl) (by kernel_rfl) hd
    rw [← this]
    exact heap_of_var hg hv
  have b9 : ∃ e fr, W.heap[9]? = some (.cells [Value.bool true].toArray e fr) := by
    obtain ⟨g, t, cs, fuel, p, hg, hy, hv, hd⟩ := r9
    obtain rfl := Option.some.inj ((show Tryz.prog.globalNamed "internal/strconv.optimize" = some 9 by kernel_rfl).symm.trans hg)
    obtain rfl := Option.some.inj ((show (Tryz.prog.globals[9]?).map (·.type) = some 4 by kernel_rfl).symm.trans hy)
    obtain ⟨b, e, e'⟩ := DataW.trod_bool Tryz.underlying4 hd
    cases e'
    rw [← e]
    exact heap_of_var hg hv
  have b12 : ∃ e fr, W.heap[12]? = some (.cells (Pinned.pow10Rows.flatMap fun x => [Value.int .u64 (x.1 : Int), Value.int .u64 (x.2 : Int)]).toArray e fr) := by
    obtain ⟨g, t, cs, fuel, p, hg, hy, hv, hd⟩ := r12
    obtain rfl := Option.some.inj ((show Tryz.prog.globalNamed "internal/strconv.pow10Tab" = some 12 by kernel_rfl).symm.trans hg)
    obtain rfl := Option.some.inj ((show (Tryz.prog.globals[12]?).map (·.type) = some 239 by kernel_rfl).symm.trans hy)
    have := cells_of_pairs Tryz.underlying239 Tryz.underlying238 (fun i f hf => by
      match i, hf with
      | 0, hf => simp at hf; subst hf; exact ⟨Tryz.underlying102, rfl, by kernel_rfl⟩
      | 1, hf => simp at hf; subst hf; exact ⟨Tryz.underlying102, rfl, by kernel_rfl⟩
      | i + 2, hf => simp at hf) rfl (by kernel_rfl) (by kernel_rfl) (by kernel_rfl) hd
    rw [← this]
    exact heap_of_var hg hv
  have sz : ∀ {k : Nat} {o : Obj}, W.heap[k]? = some o → k < W.heap.size := fun h => (Array.getElem?_eq_some_iff.1 h).1
  refine ⟨hu, ?_, ?_⟩
  · obtain ⟨e, fr, hb⟩ := b0
    unfold Lib.TabIs World.var?
    rw [show Tryz.prog.globalNamed "strings.asciiSpace" = some 0 by kernel_rfl]
    simp only [Option.bind_some, hb]
  · intro k cs hk
    have fin : ∀ {cs' : List Value}, (∃ e fr, W.heap[k]? = some (.cells cs'.toArray e fr)) → some cs' = some cs → k < W.heap.size ∧ ∃ e fr, W.heap[k]? = some (.cells cs.toArray e fr) := by
      intro cs' ⟨e, fr, hb⟩ he
      cases he
      exact ⟨sz hb, e, fr, hb⟩
    unfold Sim.T at hk
    simp only [cond_eq_ite] at hk
    split at hk
    · rename_i e; have e := Nat.eq_of_beq_eq_true e; subst e; exact fin b0 hk
    split at hk
    · rename_i e; have e := Nat.eq_of_beq_eq_true e; subst e; exact fin b3 hk
    split at hk
    · rename_i e; have e := Nat.eq_of_beq_eq_true e; subst e; exact fin b5 hk
    split at hk
    · rename_i e; have e := Nat.eq_of_beq_eq_true e; subst e; exact fin b9 hk
    split at hk
    · rename_i e; have e := Nat.eq_of_beq_eq_true e; subst e; exact fin b12 hk
    · cases hk
end Go.Proofs.YtlbcnacfgickcaaGreatDoor.Laid
set_option linter.unusedVariables false
namespace Go.Proofs.YtlbcnacfgickcaaGreatDoor.A
open Go.RowKit Go.ChangeShapes Go.WideShapes Go.Proofs.YtlbcnacfgickcaaGreatDoorW.PrintWords Go.Proofs.YtlbcnacfgickcaaGreatDoorW.PrintLast Go.Proofs.YtlbcnacfgickcaaGreatDoorW.PrintMore Go.Proofs.YtlbcnacfgickcaaGreatDoorW.FM
section
variable {H : Type} {enc : TypeId × Value → H} {w : World}
set_option maxRecDepth 100000 in
theorem open_code2 {r : Reach} {b0 : Nat} {v : Value} {d : DataW H} {p : List MemPlace} (hv : Value.okWide Tryz.prog w r b0 25 v) (h : DataW.Trod enc Tryz.prog w 0 (fun _ => true) true 25 v d p) (hl : ∀ m ∈ d.weights Tryz.prog 25, m ≤ reachBytes) :
    ∃ (A0 : Option Addr) (l0 : List S30) (c0 : Nat) (A1 : Option Addr) (l1 : List S36) (c1 : Nat), v = .agg #[.slice A0 l0.length c0, .slice A1 l1.length c1] ∧ l0.length ≤ c0 ∧ l1.length ≤ c1 ∧ Kd.C k30 w A0 l0.length l0 ∧ Kd.C k36 w A1 l1.length l1 ∧
      l0.length ≤ 140737488351232 ∧ l1.length * 80 ≤ 140737488351232 ∧ (∀ f ∈ l0, G30 f) ∧ ∀ x ∈ l1, G36 x := by
  obtain ⟨cs, rfl, hsz⟩ := okWide_struct Tryz.underlying25 hv
  obtain ⟨n, hx⟩ := h
  have hcs : (Value.cells (.agg cs)) = cs := rfl
  rw [hcs] at hx
  obtain ⟨xs, m, hn, hcl, hxl, hf⟩ := open_cells Tryz.underlying25 (by kernel_rfl) (by kernel_rfl) hx hl
  obtain ⟨cs⟩ := cs
  match cs, hcl, xs, hxl with
  | [c0, c1], _, [x0, x1], _ =>
    have h0 := hf 0 _ _ _ rfl rfl rfl
    obtain ⟨A, l, c, e0, hlc, hC, hR, hG⟩ := open_rows (d := k30) (G := G30) (B := 72) Tryz.underlying22 (by kernel_rfl) (by kernel_rfl) h0.1 h0.2 (fun m _ cs y h h' => open_30 h h')
    have h1 := hf 1 _ _ _ rfl rfl rfl
    obtain ⟨A', l', c', e1, hlc', hC', hR', hG'⟩ := open_rows (d := k36) (G := G36) (B := 80) Tryz.underlying23 (by kernel_rfl) (by kernel_rfl) h1.1 h1.2 (fun m _ cs y h h' => open_36 m h h')
    cases e0; cases e1
    have hr : reachBytes = 140737488351232 := by decide
    exact ⟨A, l, c, A', l', c', rfl, hlc, hlc', hC, hC', by omega, by omega, hG, hG'⟩
end
end Go.Proofs.YtlbcnacfgickcaaGreatDoor.A
namespace Go.Proofs.YtlbcnacfgickcaaGreatDoor.codeWider
open Go.RowKit Go.ChangeShapes Go.WideShapes Go.ChangeAt Laid
theorem own : ownKnob Tryz.prog.godebug = none := by kernel_rfl
theorem laidOut : laidOutB Tryz.prog = true := by kernel_rfl
def args0 : Array Value := #[.agg #[.slice none 0 0, .slice none 0 0]]
set_option maxRecDepth 100000 in
theorem lifted (os : Os) (started : os.Started) (H : Type) (enc : TypeId × Value → H) :
    ReturnsInHanded {} Tryz.checked os 3 .any (fun w args => (Rows.codeWiderSpec.pre enc Tryz.prog Tryz.f3 Rows.codeWiderRow.domain false w args ∧ laidMetH Tryz.prog laidL w) ∧ sizedMet enc Tryz.prog Tryz.f3 (OpenSpec.ofChange Rows.codeWiderSpec) false w args)
      (Rows.codeWiderSpec.post enc Tryz.prog Tryz.f3 false true false false) := by
  refine returnsInHanded_of_change_and (C := Tryz.checked) (X := fun w _ => laidMetH Tryz.prog laidL w) (fun _ _ _ hh h => h.of_heap hh) own started (by kernel_rfl) Tryz.func3
    (ChangeSpec.witness_shaped (enc := enc) (C := Tryz.checked) (os := os) (X := fun w _ => laidMetH Tryz.prog laidL w) false (World.laidAll Tryz.prog os laidL) args0 8 (World.laidAll_os _ _ _)
      (World.shaped_of_ZipB (by kernel_rfl) (by kernel_rfl)) (by kernel_rfl) (by kernel_rfl) (by kernel_rfl)
      (by rw [MakeChecks.laidMetH_plain _ _ _ (by kernel_rfl)]; exact laidMet_laidAll _ (by kernel_rfl) (by kernel_rfl))) ?_
  intro W base args ds gs before hval0 hW _ hsz0 hL _
  have hsz : (DataW.weightsEach Tryz.prog (Tryz.f3.params.toList ++ Rows.codeWiderSpec.plain.varTypes Tryz.prog) (ds ++ gs)).all (· ≤ reachBytes) = true := hsz0
  have hval : ∀ (j : Nat) t v, Tryz.f3.params[j]? = some t → args[j]? = some v → Value.okWide Tryz.prog W .any base t v := hval0
  have hW' := hW
  obtain ⟨p, q, hA0, hV, rfl, hfz, hnd⟩ := hW
  have hA : DataW.TrodAll enc Tryz.prog W 0 (fun _ => true) true Tryz.f3.params.toList args.toList ds p := hA0
  rw [Tryz.params3] at hA hval hsz
  obtain ⟨v0, d0, rfl, rfl, h0⟩ := trodAll_one hA
  obtain ⟨rfl, rfl⟩ := trodVars_none hV
  have lt0 : ∀ x ∈ p, x.block < W.heap.size := by obtain ⟨m, hm⟩ := h0; exact DataW.trod_lt m _ _ _ hm
  have hl : ∀ m ∈ d0.weights Tryz.prog 25, m ≤ reachBytes := by
    intro m hm
    have := List.all_eq_true.1 hsz m (A.mem_weightsEach (i := 0) (t := 25) (d := d0) rfl rfl hm)
    simpa using this
  obtain ⟨A0, l0, c0, A1, l1, c1, rfl, hc0, hc1, hC0, hC1, hl0, hl1, hG0, hG1⟩ := A.open_code2 (hval 0 25 v0 rfl rfl) h0 hl
  have hT := tabs_of_laid hL
  obtain ⟨k, hk⟩ := A.wider_ok hl0 (by omega) hG0 hG1
  have hok := Sim.wider_walk (Sim.whole_tab W) hC0 hc0 hC1 hc1 (by omega) hT hk
  refine (Sim.Ok.calls (us := [.agg #[.slice A0 l0.length c0, .slice A1 l1.length c1]]) hok (Sim.rels_singleton Sim.rel_s) Tryz.func3 (by kernel_rfl) rfl).mono fun e W' ⟨u, v, S', ν, he, hv, hr, bel⟩ => ?_
  subst hv
  simp only [Sim.V.rel] at hr
  subst hr
  subst he
  exact ⟨_, rfl, _, _, _, [], _, [], hW', trodAll_mk1 (shut_bool Tryz.underlying4 _), (trodAll_cons_mk (Below.trod laidOut (by kernel_rfl) (of_decide_eq_true (by kernel_rfl)) h0 bel lt0) trodAll_mk0), rfl, bel.frame _, fun h => by cases h⟩
theorem over : Rows.codeWiderRow.holds Tryz.pinned (OpenSpec.ofChange Rows.codeWiderSpec) :=
  OpenClaim.holds_of_wide 3 Tryz.f3 rfl rfl rfl rfl rfl rfl rfl ⟨rfl, rfl, rfl, rfl, rfl⟩ rfl rfl rfl rfl rfl (by kernel_rfl) Tryz.func3 (by kernel_rfl)
    (of_decide_eq_true (by kernel_rfl)) (by unfold Func.isWrapper; first | (rw [if_pos (by decide +kernel)]; kernel_rfl) | (rw [if_neg (by decide +kernel)]; exact ⟨rfl, rfl⟩))
    (fun os started H enc _ => lifted os started H enc)
theorem card : Claim7.holds Tryz.pinned (.plain (OpenSpec.ofChange Rows.codeWiderSpec)) Rows.codeWiderCard :=
  Claim7.holds_tied_plain_at .later [] [.data, .data, .data, .data, .data, .sentinel, .sentinel, .listed, .data, .pinned, .pinned, .pinned] true (true, "1ebeb31f93b529b11c793f3468c025a4590bbb33fa4dcc6550483ed9f63a03b9") true
    over (fun _ h => by cases h) (by kernel_rfl) (fun _ h => by cases h) codeWider_row_tie rfl ⟨rfl, rfl⟩ (by kernel_rfl) rfl
    (fun f fn hf hfn => by
      obtain rfl : f = 3 := Option.some.inj ((show Tryz.prog.funcNamed "colander/colanderlaw19.CodeWider" = some 3 by kernel_rfl).symm.trans hf) |>.symm
      obtain rfl : fn = Tryz.f3 := (Option.some.inj (Tryz.func3.symm.trans hfn)).symm
      exact ⟨by kernel_rfl, fun j t ht => by
        rw [Tryz.params3] at ht
        have hm : t ∈ [25] := by simpa using Array.mem_of_getElem? ht
        have hall : ([25].all fun u => !Tryz.prog.wantsStandIn u) = true := by kernel_rfl
        exact (show Tryz.prog.wantsStandIn t = false by simpa using List.all_eq_true.1 hall t hm)⟩)
    (by kernel_rfl)
#print axioms card
end Go.Proofs.YtlbcnacfgickcaaGreatDoor.codeWider
namespace Go.Proofs.YtlbcnacfgickcaaGreatDoor
/-- The card, under a short name, for the claim. -/
theorem codeWider_holds : Rows.CodeWiderCardSaid := codeWider.card
end Go.Proofs.YtlbcnacfgickcaaGreatDoor
