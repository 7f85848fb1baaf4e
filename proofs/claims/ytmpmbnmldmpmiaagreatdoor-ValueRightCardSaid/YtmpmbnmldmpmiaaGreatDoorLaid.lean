/- The variables that the rows list, as the walks ask for them; a world where they lie. -/
import Derived.Test.YtmpmbnmldmpmiaaGreatDoorRows
import Derived.Test.YtmpmbnmldmpmiaaGreatDoorHandValid
import Derived.ProofKit
import Derived.Lay
import Derived.MakeChecks
import Derived.Lib.LaidU8T
import Derived.OpenShut
set_option linter.unusedVariables false
namespace Go.Proofs.YtmpmbnmldmpmiaaGreatDoor.Laid
open Go.RowKit Go.Lib Go.Proofs
def laidL : List (String × DataW Unit) := Rows.valueRightRow.laid
theorem heap_of_var {P : Program} {w : World} {n : String} {g : Nat} {cs : Array Value} (hg : P.globalNamed n = some g) (h : w.var? P n = some cs) : ∃ e fr, w.heap[g]? = some (.cells cs e fr) := by
  simp only [World.var?, hg, Option.bind_some] at h
  split at h
  · rename_i cs' e fr hx
    cases h
    exact ⟨e, fr, hx⟩
  · cases h
/-- A table of pairs. -/
theorem cells_of_pairs {P : Program} {w : World} {fuel : Nat} {t e : TypeId} {n : Nat} {fs : Array Field} {k : IntKind} {cs : List Value} {zs : List (Nat × Nat)} {p : List MemPlace}
    (ht : P.underlying t = some (.array n e)) (he : P.underlying e = some (.struct fs)) (hf : ∀ (i : Nat) (f : Field), fs[i]? = some f → P.underlying f.type = some (.int k) ∧ f.offset = i ∧ P.cellsOf f.type = 1) (hfs : fs.size = 2) (hce : P.cellsOf e = 2) (hct : P.cellsOf t = n * 2) (hz : zs.length = n)
    (h : DataW.trod (fun _ => ()) P w 0 (fun _ => true) false fuel t cs = some (.agg (zs.map fun x => .agg [.lit (.int k x.1), .lit (.int k x.2)]), p)) : cs = zs.flatMap fun x => [Value.int k (x.1 : Int), Value.int k (x.2 : Int)] := by
  have hl : cs.length = 2 * zs.length := by
    obtain ⟨xs, m, _, _, hl, _, _⟩ := DataW.trod_array ht h
    rw [hl, hct, hz, Nat.mul_comm]
  have hel : ∀ (i : Nat) (x : Nat × Nat), zs[i]? = some x → (cs.drop (i * 2)).take 2 = [Value.int k (x.1 : Int), Value.int k (x.2 : Int)] := by
    intro i x hx
    have hi : i < n := by rw [← hz]; exact (List.getElem?_eq_some_iff.1 hx).1
    obtain ⟨f', d, q, hd, hr⟩ := array_elem ht h i hi
    rw [List.getElem?_map, hx, Option.map_some, Option.some.injEq] at hd
    subst hd
    rw [hce] at hr
    exact ints_of_struct (zs := [(x.1 : Int), (x.2 : Int)]) he hf (by rw [hce, hfs]) hr
  clear h ht hct hz
  induction zs generalizing cs with
  | nil => simpa using hl
  | cons x zs ih =>
    have h0 := hel 0 x rfl
    simp only [Nat.zero_mul, List.drop_zero] at h0
    have hc : cs = cs.take 2 ++ cs.drop 2 := (List.take_append_drop 2 cs).symm
    rw [hc, h0, List.flatMap_cons]
    congr 1
    refine ih (by simp at hl ⊢; omega) (fun i y hy => ?_)
    have := hel (i + 1) y (by simpa using hy)
    rw [List.drop_drop]
    rw [show 2 + i * 2 = (i + 1) * 2 by omega]
    exact this
theorem u8x : U8Extra Tryz.prog Tryz.lays196_ren := ⟨by kernel_rfl, by kernel_rfl, by kernel_rfl, by kernel_rfl, by kernel_rfl, by kernel_rfl, by kernel_rfl⟩
theorem first_eq : Pinned.utf8First = firstData := by kernel_rfl
theorem firstZ_eq : (Pinned.utf8FirstZ.map fun (n : Nat) => Value.int .u8 (n : Int)) = firstTab.map fun z => Value.int .u8 z := by kernel_rfl
theorem tabs_of_laid {W : World} (h : laidMetH Tryz.prog laidL W) : A.Tabs W := by
  rw [MakeChecks.laidMetH_plain _ _ _ (by kernel_rfl)] at h
  have r3 : VarReads Tryz.prog W "unicode/utf8.first" firstData := first_eq ▸ Lib.laidMet.reads h (by simp [laidL, Rows.valueRightRow, Rows.laid_unicode_utf8_first])
  have r4 : VarReads Tryz.prog W "unicode/utf8.acceptRanges" acceptData := Lib.laidMet.reads h (by
    have e : (acceptData : DataW Unit) = Rows.laid_unicode_utf8_acceptRanges := by kernel_rfl
    rw [e]; simp [laidL, Rows.valueRightRow])
  have r5 : VarReads Tryz.prog W "internal/strconv.uint64pow10" (tabData .u64 Lib.pow10Tab) := Lib.laidMet.reads h (by
    have e : (tabData .u64 Lib.pow10Tab : DataW Unit) = Rows.laid_internal_strconv_uint64pow10 := by kernel_rfl
    rw [e]; simp [laidL, Rows.valueRightRow])
  have r9 : VarReads Tryz.prog W "internal/strconv.optimize" (.lit (.bool true)) := Lib.laidMet.reads h (by simp [laidL, Rows.valueRightRow, Rows.laid_internal_strconv_optimize])
  have r12 : VarReads Tryz.prog W "internal/strconv.pow10Tab" (.agg (Pinned.pow10Rows.map fun x => .agg [.lit (.int .u64 x.1), .lit (.int .u64 x.2)])) := Lib.laidMet.reads h (by simp [laidL, Rows.valueRightRow, Rows.laid_internal_strconv_pow10Tab, Pinned.pow10Tab])
  have hu : Lib.Utf8Tabs (Tryz.lays196_ren.g 3) (Tryz.lays196_ren.g 4) W := utf8Tabs_of_readsT (.of196 Tryz.lays196) u8x r3 r4
  -- each block
  have b3 : ∃ e fr, W.heap[2]? = some (.cells (Pinned.utf8FirstZ.map fun (n : Nat) => Value.int .u8 (n : Int)).toArray e fr) := by
    obtain ⟨g, t, cs, fuel, p, hg, hy, hv, hd⟩ := r3
    obtain rfl := Option.some.inj ((show Tryz.prog.globalNamed "unicode/utf8.first" = some 2 by kernel_rfl).symm.trans hg)
    obtain rfl := Option.some.inj ((show (Tryz.prog.globals[2]?).map (·.type) = some 145 by kernel_rfl).symm.trans hy)
    have := cells_of_tab Tryz.underlying145 Tryz.underlying5 (by kernel_rfl) (by kernel_rfl) hd
    rw [firstZ_eq, ← this]
    exact heap_of_var hg hv
  have b5 : ∃ e fr, W.heap[7]? = some (.cells (Lib.pow10Tab.map fun z => Value.int .u64 z).toArray e fr) := by
    obtain ⟨g, t, cs, fuel, p, hg, hy, hv, hd⟩ := r5
    obtain rfl := Option.some.inj ((show Tryz.prog.globalNamed "internal/strconv.uint64pow10" = some 7 by kernel_rfl).symm.trans hg)
    obtain rfl := Option.some.inj ((show (Tryz.prog.globals[7]?).map (·.type) = some 224 by kernel_rfl).symm.trans hy)
    have := cells_of_tab Tryz.underlying224 Tryz.underlying86 (by kernel_rfl) (by kernel_rfl) hd
    rw [← this]
    exact heap_of_var hg hv
  have b9 : ∃ e fr, W.heap[4]? = some (.cells [Value.bool true].toArray e fr) := by
    obtain ⟨g, t, cs, fuel, p, hg, hy, hv, hd⟩ := r9
    obtain rfl := Option.some.inj ((show Tryz.prog.globalNamed "internal/strconv.optimize" = some 4 by kernel_rfl).symm.trans hg)
    obtain rfl := Option.some.inj ((show (Tryz.prog.globals[4]?).map (·.type) = some 4 by kernel_rfl).symm.trans hy)
    obtain ⟨b, e, e'⟩ := DataW.trod_bool Tryz.underlying4 hd
    cases e'
    rw [← e]
    exact heap_of_var hg hv
  have b12 : ∃ e fr, W.heap[8]? = some (.cells (Pinned.pow10Rows.flatMap fun x => [Value.int .u64 (x.1 : Int), Value.int .u64 (x.2 : Int)]).toArray e fr) := by
    obtain ⟨g, t, cs, fuel, p, hg, hy, hv, hd⟩ := r12
    obtain rfl := Option.some.inj ((show Tryz.prog.globalNamed "internal/strconv.pow10Tab" = some 8 by kernel_rfl).symm.trans hg)
    obtain rfl := Option.some.inj ((show (Tryz.prog.globals[8]?).map (·.type) = some 245 by kernel_rfl).symm.trans hy)
    have := cells_of_pairs Tryz.underlying245 Tryz.underlying244 (fun i f hf => by
      match i, hf with
      | 0, hf => simp at hf; subst hf; exact ⟨Tryz.underlying86, rfl, by kernel_rfl⟩
      | 1, hf => simp at hf; subst hf; exact ⟨Tryz.underlying86, rfl, by kernel_rfl⟩
      | i + 2, hf => simp at hf) rfl (by kernel_rfl) (by kernel_rfl) (by kernel_rfl) hd
    rw [← this]
    exact heap_of_var hg hv
  have sz : ∀ {k : Nat} {o : Obj}, W.heap[k]? = some o → k < W.heap.size := fun h => (Array.getElem?_eq_some_iff.1 h).1
  refine ⟨hu, ?_⟩
  · intro k cs hk
    have fin : ∀ {cs' : List Value}, (∃ e fr, W.heap[k]? = some (.cells cs'.toArray e fr)) → some cs' = some cs → k < W.heap.size ∧ ∃ e fr, W.heap[k]? = some (.cells cs.toArray e fr) := by
      intro cs' ⟨e, fr, hb⟩ he
      cases he
      exact ⟨sz hb, e, fr, hb⟩
    unfold Sim.T at hk
    simp only [cond_eq_ite] at hk
    split at hk
    · rename_i e; have e := Nat.eq_of_beq_eq_true e; subst e; exact fin b3 hk
    split at hk
    · rename_i e; have e := Nat.eq_of_beq_eq_true e; subst e; exact fin b5 hk
    split at hk
    · rename_i e; have e := Nat.eq_of_beq_eq_true e; subst e; exact fin b9 hk
    split at hk
    · rename_i e; have e := Nat.eq_of_beq_eq_true e; subst e; exact fin b12 hk
    · cases hk
end Go.Proofs.YtmpmbnmldmpmiaaGreatDoor.Laid
