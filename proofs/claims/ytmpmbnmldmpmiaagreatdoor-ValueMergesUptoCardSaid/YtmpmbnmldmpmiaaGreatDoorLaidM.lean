/- Texts of this claim, put together. -/
import Derived.Test.YtmpmbnmldmpmiaaGreatDoorRows
import Derived.Test.YtmpmbnmldmpmiaaGreatDoorHandValid
import Derived.ProofKit
import Derived.Lay
import Derived.MakeChecks
import Derived.Lib.LaidU8T
import Derived.OpenShut
import Derived.Test.YtmpmbnmldmpmiaaGreatDoorRightA
import Derived.WalkKit
import Derived.ShutString
import Derived.ChangeOld
import Derived.Below
import Derived.SizedLaws
import Derived.ChangeArms
import Derived.Deep.Slices
import Derived.Test.YtmpmbnmldmpmiaaGreatDoorFloatOpen
import Derived.Test.YtmpmbnmldmpmiaaGreatDoorMrg
set_option linter.unusedVariables false
namespace Go.Proofs.YtmpmbnmldmpmiaaGreatDoor.Laid
open Go.RowKit Go.Lib Go.Proofs
def laidL : List (String × DataW Unit) := Rows.valueMergesUptoRow.laid
theorem heap_of_var {P : Program} {w : World} {n : String} {g : Nat} {cs : Array Value} (hg : P.globalNamed n = some g) (h : w.var? P n = some cs) : ∃ e fr, w.heap[g]? = some (.cells cs e fr) := by
  simp only [World.var?, hg, Option.bind_some] at h
  split at h
  · rename_i cs' e fr hx
    cases h
    exact ⟨e, fr, hx⟩
  · cases h
/-- A table of pairs. -/
theorem cells_of_pairs {P : Program} {w : World} {fuel : Nat} {t e : TypeId} {n : Nat} {fs : Array Field} {k : IntKind} {cs : List Value} {zs : List (Nat × Nat)} {p : List MemPlace}
    (ht : P.underlying t = some (.array n e)) (he : P.underlying e = some (.struct fs)) (hf : ∀ (i : Nat) (f : Field), fs[i]? = some f → P.underlying f.type = some (.int k) ∧ f.offset = i ∧ P.cellsOf f.type = 1) (hfs : fs.size = 2) (hce : P.cellsOf e = 2) (hct : P.cellsOf t = n * 2) (hz : zs.length = n)
    (h : DataW.trod (fun _ => ()) P w 0 (fun _ => true) false fuel t cs = some (.agg (zs.map fun x => .agg [.lit (.int k x.1), .lit (.int k x.2)]), p)) : cs = zs.flatMap fun x => [Value.int k (x.1 : Int), Value.int k (x.2 : Int)] := by
  have hl : cs.length = 2 * zs.length := by
    obtain ⟨xs, m, _, _, hl, _, _⟩ := DataW.trod_array ht h
    rw [hl, hct, hz, Nat.mul_comm]
  have hel : ∀ (i : Nat) (x : Nat × Nat), zs[i]? = some x → (cs.drop (i * 2)).take 2 = [Value.int k (x.1 : Int), Value.int k (x.2 : Int)] := by
    intro i x hx
    have hi : i < n := by rw [← hz]; exact (List.getElem?_eq_some_iff.1 hx).1
    obtain ⟨f', d, q, hd, hr⟩ := array_elem ht h i hi
    rw [List.getElem?_map, hx, Option.map_some, Option.some.injEq] at hd
    subst hd
    rw [hce] at hr
    exact ints_of_struct (zs := [(x.1 : Int), (x.2 : Int)]) he hf (by rw [hce, hfs]) hr
  clear h ht hct hz
  induction zs generalizing cs with
  | nil => simpa using hl
  | cons x zs ih =>
    have h0 := hel 0 x rfl
    simp only [Nat.zero_mul, List.drop_zero] at h0
    have hc : cs = cs.take 2 ++ cs.drop 2 := (List.take_append_drop 2 cs).symm
    rw [hc, h0, List.flatMap_cons]
    congr 1
    refine ih (by simp at hl ⊢; omega) (fun i y hy => ?_)
    have := hel (i + 1) y (by simpa using hy)
    rw [List.drop_drop]
    rw [show 2 + i * 2 = (i + 1) * 2 by omega]
    exact this
theorem u8x : U8Extra Tryz.prog Tryz.lays196_ren := ⟨by kernel_rfl, by kernel_rfl, by kernel_rfl, by kernel_rfl, by kernel_rfl, by kernel_rfl, by kernel_rfl⟩
theorem first_eq : Pinned.utf8First = firstData := by kernel_rfl
theorem firstZ_eq : (Pinned.utf8FirstZ.map fun (n : Nat) => Value.int .u8 (n : Int)) = firstTab.map fun z => Value.int .u8 z := by kernel_rfl
theorem tabs_of_laid {W : World} (h : laidMetH Tryz.prog laidL W) : A.Tabs W := by
  rw [MakeChecks.laidMetH_plain _ _ _ (by kernel_rfl)] at h
  have r3 : VarReads Tryz.prog W "unicode/utf8.first" firstData := first_eq ▸ Lib.laidMet.reads h (by simp [laidL, Rows.valueMergesUptoRow, Rows.laid_unicode_utf8_first])
  have r4 : VarReads Tryz.prog W "unicode/utf8.acceptRanges" acceptData := Lib.laidMet.reads h (by
    have e : (acceptData : DataW Unit) = Rows.laid_unicode_utf8_acceptRanges := by kernel_rfl
    rw [e]; simp [laidL, Rows.valueMergesUptoRow])
  have r5 : VarReads Tryz.prog W "internal/strconv.uint64pow10" (tabData .u64 Lib.pow10Tab) := Lib.laidMet.reads h (by
    have e : (tabData .u64 Lib.pow10Tab : DataW Unit) = Rows.laid_internal_strconv_uint64pow10 := by kernel_rfl
    rw [e]; simp [laidL, Rows.valueMergesUptoRow])
  have r9 : VarReads Tryz.prog W "internal/strconv.optimize" (.lit (.bool true)) := Lib.laidMet.reads h (by simp [laidL, Rows.valueMergesUptoRow, Rows.laid_internal_strconv_optimize])
  have r12 : VarReads Tryz.prog W "internal/strconv.pow10Tab" (.agg (Pinned.pow10Rows.map fun x => .agg [.lit (.int .u64 x.1), .lit (.int .u64 x.2)])) := Lib.laidMet.reads h (by simp [laidL, Rows.valueMergesUptoRow, Rows.laid_internal_strconv_pow10Tab, Pinned.pow10Tab])
  have hu : Lib.Utf8Tabs (Tryz.lays196_ren.g 3) (Tryz.lays196_ren.g 4) W := utf8Tabs_of_readsT (.of196 Tryz.lays196) u8x r3 r4
  -- each block
  have b3 : ∃ e fr, W.heap[2]? = some (.cells (Pinned.utf8FirstZ.map fun (n : Nat) => Value.int .u8 (n : Int)).toArray e fr) := by
    obtain ⟨g, t, cs, fuel, p, hg, hy, hv, hd⟩ := r3
    obtain rfl := Option.some.inj ((show Tryz.prog.globalNamed "unicode/utf8.first" = some 2 by kernel_rfl).symm.trans hg)
    obtain rfl := Option.some.inj ((show (Tryz.prog.globals[2]?).map (·.type) = some 145 by kernel_rfl).symm.trans hy)
    have := cells_of_tab Tryz.underlying145 Tryz.underlying5 (by kernel_rfl) (by kernel_rfl) hd
    rw [firstZ_eq, ← this]
    exact heap_of_var hg hv
  have b5 : ∃ e fr, W.heap[7]? = some (.cells (Lib.pow10Tab.map fun z => Value.int .u64 z).toArray e fr) := by
    obtain ⟨g, t, cs, fuel, p, hg, hy, hv, hd⟩ := r5
    obtain rfl := Option.some.inj ((show Tryz.prog.globalNamed "internal/strconv.uint64pow10" = some 7 by kernel_rfl).symm.trans hg)
    obtain rfl := Option.some.inj ((show (Tryz.prog.globals[7]?).map (·.type) = some 224 by kernel_rfl).symm.trans hy)
    have := cells_of_tab Tryz.underlying224 Tryz.underlying86 (by kernel_rfl) (by kernel_rfl) hd
    rw [← this]
    exact heap_of_var hg hv
  have b9 : ∃ e fr, W.heap[4]? = some (.cells [Value.bool true].toArray e fr) := by
    obtain ⟨g, t, cs, fuel, p, hg, hy, hv, hd⟩ := r9
    obtain rfl := Option.some.inj ((show Tryz.prog.globalNamed "internal/strconv.optimize" = some 4 by kernel_rfl).symm.trans hg)
    obtain rfl := Option.some.inj ((show (Tryz.prog.globals[4]?).map (·.type) = some 4 by kernel_rfl).symm.trans hy)
    obtain ⟨b, e, e'⟩ := DataW.trod_bool Tryz.underlying4 hd
    cases e'
    rw [← e]
    exact heap_of_var hg hv
  have b12 : ∃ e fr, W.heap[8]? = some (.cells (Pinned.pow10Rows.flatMap fun x => [Value.int .u64 (x.1 : Int), Value.int .u64 (x.2 : Int)]).toArray e fr) := by
    obtain ⟨g, t, cs, fuel, p, hg, hy, hv, hd⟩ := r12
    obtain rfl := Option.some.inj ((show Tryz.prog.globalNamed "internal/strconv.pow10Tab" = some 8 by kernel_rfl).symm.trans hg)
    obtain rfl := Option.some.inj ((show (Tryz.prog.globals[8]?).map (·.type) = some 245 by kernel_rfl).symm.trans hy)
    have := cells_of_pairs Tryz.underlying245 Tryz.underlying244 (fun i f hf => by
      match i, hf with
      | 0, hf => simp at hf; subst hf; exact ⟨Tryz.underlying86, rfl, by kernel_rfl⟩
      | 1, hf => simp at hf; subst hf; exact ⟨Tryz.underlying86, rfl, by kernel_rfl⟩
      | i + 2, hf => simp at hf) rfl (by kernel_rfl) (by kernel_rfl) (by kernel_rfl) hd
    rw [← this]
    exact heap_of_var hg hv
  refine ⟨hu, ?_⟩
  · intro k cs hk
    have fin : ∀ {cs' : List Value}, (∃ e fr, W.heap[k]? = some (.cells cs'.toArray e fr)) → some cs' = some cs → cs'.isEmpty = false → cs ≠ [] ∧ ∃ e fr, W.heap[k]? = some (.cells cs.toArray e fr) := by
      intro cs' ⟨e, fr, hb⟩ he h0
      cases he
      exact ⟨fun e0 => (by rw [e0] at h0; cases h0), e, fr, hb⟩
    unfold Sim.T at hk
    simp only [cond_eq_ite] at hk
    split at hk
    · rename_i e; have e := Nat.eq_of_beq_eq_true e; subst e; exact fin b3 hk (by kernel_rfl)
    split at hk
    · rename_i e; have e := Nat.eq_of_beq_eq_true e; subst e; exact fin b5 hk (by kernel_rfl)
    split at hk
    · rename_i e; have e := Nat.eq_of_beq_eq_true e; subst e; exact fin b9 hk (by kernel_rfl)
    split at hk
    · rename_i e; have e := Nat.eq_of_beq_eq_true e; subst e; exact fin b12 hk (by kernel_rfl)
    · cases hk
end Go.Proofs.YtmpmbnmldmpmiaaGreatDoor.Laid
set_option linter.unusedVariables false
namespace Go.Proofs.YtmpmbnmldmpmiaaGreatDoor.A
open Go.RowKit Go.ChangeShapes Go.WideShapes Go.Proofs.YtmpmbnmldmpmiaaGreatDoorW.PrintWords Go.Proofs.YtmpmbnmldmpmiaaGreatDoorW.PrintLast Go.Proofs.YtmpmbnmldmpmiaaGreatDoorW.PrintMore Go.Proofs.YtmpmbnmldmpmiaaGreatDoorW.FM
/-- A list of what is there at each place. -/
theorem list_choose {α : Type} {p : Nat → α → Prop} : ∀ (n : Nat), (∀ i, i < n → ∃ x, p i x) → ∃ l : List α, l.length = n ∧ ∀ i x, l[i]? = some x → p i x
  | 0, _ => ⟨[], rfl, fun i x h => by simp at h⟩
  | n + 1, h => by
    obtain ⟨l, hl, hp⟩ := list_choose n (fun i hi => h i (Nat.lt_succ_of_lt hi))
    obtain ⟨x, hx⟩ := h n (Nat.lt_succ_self n)
    refine ⟨l ++ [x], by simp [hl], fun i y hy => ?_⟩
    rcases Nat.lt_or_ge i l.length with hi | hi
    · rw [List.getElem?_append_left hi] at hy
      exact hp i y hy
    · rw [List.getElem?_append_right hi] at hy
      rcases Nat.eq_zero_or_pos (i - l.length) with h0 | h0
      · rw [h0] at hy
        simp at hy
        have : i = n := by omega
        rw [← hy, this]
        exact hx
      · rw [List.getElem?_eq_none (by simp; omega)] at hy
        cases hy
section
variable {H : Type} {enc : TypeId × Value → H} {P : Program} {w : World}
/-- All that is read under a data tree weighs no more than the bound. -/
def Light (P : Program) (t : TypeId) (x : DataW H × List MemPlace) : Prop := ∀ m ∈ x.1.weights P t, m ≤ reachBytes
theorem mem_weightsAll {t : TypeId} {m : Nat} : ∀ {l : List (DataW H)} {d : DataW H}, d ∈ l → m ∈ d.weights P t → m ∈ DataW.weightsAll P t l
  | a :: r, d, h, hm => by
    rw [DataW.weightsAll]
    rcases List.mem_cons.1 h with rfl | h
    · exact List.mem_append_left _ hm
    · exact List.mem_append_right _ (mem_weightsAll h hm)
theorem mem_weightsEach {m : Nat} : ∀ {ts : List TypeId} {l : List (DataW H)} {i : Nat} {t : TypeId} {d : DataW H}, ts[i]? = some t → l[i]? = some d → m ∈ d.weights P t → m ∈ DataW.weightsEach P ts l
  | _, _, _, _, _, h, k, hm => DataW.weights_mem_each h k m hm
end
section
variable {H : Type} {enc : TypeId × Value → H} {w : World}
theorem open_str {n : Nat} {c : Value} {x : DataW H × List MemPlace} (hx : DataW.trod enc Tryz.prog w 0 (fun _ => true) true n 9 [c] = some x) (hl : Light Tryz.prog 9 x) : ∃ s : ByteArray, c = .string s ∧ s.size ≤ 140737488351232 := by
  obtain ⟨s, e, rfl, _⟩ := DataW.trod_string Tryz.underlying9 hx
  cases e
  refine ⟨s, rfl, ?_⟩
  have h := hl s.data.toList.length (by simp [DataW.weights])
  have hr : reachBytes = 140737488351232 := by decide
  rw [hr] at h
  simpa using h
end
end Go.Proofs.YtmpmbnmldmpmiaaGreatDoor.A
set_option linter.unusedVariables false
namespace Go.Proofs.YtmpmbnmldmpmiaaGreatDoor.A
open Go.RowKit Go.ChangeShapes Go.WideShapes Go.Proofs.YtmpmbnmldmpmiaaGreatDoorW.PrintWords Go.Proofs.YtmpmbnmldmpmiaaGreatDoorW.PrintLast Go.Proofs.YtmpmbnmldmpmiaaGreatDoorW.PrintMore Go.Proofs.YtmpmbnmldmpmiaaGreatDoorW.FM
theorem bulk_one {H : Type} (d : DataW H) : 1 ≤ Rows.uptoBulk d := by
  cases d with
  | lit l => cases l <;> simp [Rows.uptoBulk]
  | nil => simp [Rows.uptoBulk]
  | ptr d => simp [Rows.uptoBulk]
  | slice elems spare => simp [Rows.uptoBulk]
  | agg parts => simp [Rows.uptoBulk]
  | iface t d => simp [Rows.uptoBulk]
  | map entries => simp [Rows.uptoBulk]
  | held h => simp [Rows.uptoBulk]
theorem bulk_part {H : Type} {d : DataW H} {l : List (DataW H)} (h : d ∈ l) : Rows.uptoBulk d ≤ Rows.uptoBulkAll l := by
  induction l with
  | nil => cases h
  | cons x r ih =>
    simp only [Rows.uptoBulkAll]
    rcases List.mem_cons.1 h with e | e
    · subst e; omega
    · have := ih e; omega
theorem bulk_length {H : Type} (l : List (DataW H)) : l.length ≤ Rows.uptoBulkAll l := by
  induction l with
  | nil => simp [Rows.uptoBulkAll]
  | cons x r ih => have := bulk_one x; simp only [Rows.uptoBulkAll, List.length_cons]; omega
section
variable {H : Type} {enc : TypeId × Value → H} {P : Program} {w : World}
theorem open_rowsB {α : Type} {d : Kd α} {G : α → Prop} {t e B C : Nat} (ht : P.underlying t = some (.slice e)) (hC : P.cellsOf e = d.sz) (hB : P.bytesOf e = B)
    {n : Nat} {cs : List Value} {x : DataW H × List MemPlace} (hx : DataW.trod enc P w 0 (fun _ => true) true n t cs = some x) (hl : Light P t x) (hbk : Rows.uptoBulk x.1 ≤ C)
    (el : ∀ m, m < n → ∀ cs (y : DataW H × List MemPlace), DataW.trod enc P w 0 (fun _ => true) true m e cs = some y → Light P e y → Rows.uptoBulk y.1 ≤ C → ∃ a, d.K w a cs ∧ G a) :
    ∃ (A : Option Addr) (l : List α) (c : Nat), cs = [.slice A l.length c] ∧ l.length ≤ c ∧ d.C w A l.length l ∧ l.length * B ≤ reachBytes ∧ l.length ≤ C ∧ ∀ a ∈ l, G a := by
  rcases DataW.trod_slice ht hx with ⟨rfl, rfl⟩ | ⟨a, len, cap, elems, rest, m, hf, rfl, rfl, hb, hlc, hm, hlen, hel, hsp, hns⟩
  · exact ⟨none, [], 0, rfl, Nat.le_refl _, ⟨rfl, Nat.zero_le _, fun h => absurd h (Nat.lt_irrefl _)⟩, by simp, by simp, by simp⟩
  have hbk : Rows.uptoBulk (.slice (elems.map (·.1)) (rest.map (·.1))) ≤ C := hbk
  simp only [Rows.uptoBulk] at hbk
  have hw : ∀ q ∈ (elems.map (·.1)).length * B :: DataW.weightsAll P e (elems.map (·.1)), q ≤ reachBytes := by
    intro q hq
    have h0 := hl (((elems.map (·.1)).length + (rest.map (·.1)).length) * B) (by simp [DataW.weights, ht, hB])
    rcases List.mem_cons.1 hq with rfl | hq
    · exact Nat.le_trans (Nat.mul_le_mul_right _ (Nat.le_add_right _ _)) h0
    · exact hl q (by simp only [DataW.weights, ht]; exact List.mem_cons_of_mem _ (List.mem_append_left _ hq))
  have each : ∀ i, i < len → ∃ p : α, G p ∧ ∃ c, c.length = d.sz ∧ d.K w p c ∧ ∀ k u, c[k]? = some u → w.cell? (a.add (i * d.sz + k)) = some u := by
    intro i hi
    have h1 := hel i hi
    have hi' : i < elems.length := by omega
    rw [List.getElem?_eq_getElem hi'] at h1
    obtain ⟨c, hc, ht1⟩ := Option.bind_eq_some_iff.1 h1
    have hme : (elems[i]).1 ∈ elems.map (·.1) := List.mem_map.2 ⟨_, List.getElem_mem hi', rfl⟩
    obtain ⟨p, hp, hg⟩ := el m (by omega) c _ ht1 (fun q hq => hw q (List.mem_cons_of_mem _ (mem_weightsAll hme hq))) (by have := bulk_part hme; omega)
    refine ⟨p, hg, c, d.K_len hp, hp, fun k u hk => ?_⟩
    obtain ⟨_, hcl, hce⟩ := World.cells?_some hc
    have hk' : k < P.cellsOf e := by
      have := (List.getElem?_eq_some_iff.1 hk).1
      omega
    have h2 := hce k hk'
    rw [Deep.add_add, hC] at h2
    rw [h2, hk]
  obtain ⟨l, hll, hp⟩ := list_choose len each
  have hR : l.length * B ≤ reachBytes := by
    have := hw _ List.mem_cons_self
    simpa [hlen, hll] using this
  refine ⟨some a, l, cap, by rw [hll], by omega, ⟨rfl, ?_, fun _ => ⟨a, rfl, fun j p hj => ?_⟩⟩, hR, ?_, fun p hp' => ?_⟩
  · have : maxLen ≤ 9223372036854775807 := by decide
    omega
  · obtain ⟨_, c, h1, h2, h3⟩ := hp j p hj
    exact ⟨c, h1, h2, h3⟩
  · have := bulk_length (elems.map (·.1))
    rw [List.length_map] at this
    omega
  · obtain ⟨j, hj⟩ := List.mem_iff_getElem?.1 hp'
    exact (hp j p hj).1
theorem open_cellsB {t n C : Nat} {fs : Array Field} (ht : P.underlying t = some (.struct fs)) (hc : P.cellsOf t = fs.size)
    (hone : (fs.toList.zipIdx.all fun p => p.1.offset == p.2 && P.cellsOf p.1.type == 1) = true) {cs : List Value} {x : DataW H × List MemPlace} (hx : DataW.trod enc P w 0 (fun _ => true) true n t cs = some x) (hl : Light P t x) (hbk : Rows.uptoBulk x.1 ≤ C) :
    ∃ (xs : List (DataW H × List MemPlace)) (m : Nat), n = m + 1 ∧ cs.length = fs.size ∧ xs.length = fs.size ∧
      ∀ (i : Nat) f c y, fs[i]? = some f → cs[i]? = some c → xs[i]? = some y → DataW.trod enc P w 0 (fun _ => true) true m f.type [c] = some y ∧ Light P f.type y ∧ Rows.uptoBulk y.1 ≤ C := by
  obtain ⟨xs, m, hn, rfl, hcl, hxl, hf⟩ := DataW.trod_struct ht hx
  have hbk : Rows.uptoBulk (.agg (xs.map (·.1))) ≤ C := hbk
  simp only [Rows.uptoBulk] at hbk
  refine ⟨xs, m, hn, hcl.trans hc, hxl, fun i f c y hi hci hyi => ?_⟩
  have h1 := List.all_eq_true.1 hone (f, i) (by
    rw [List.mem_zipIdx_iff_getElem?]
    simpa using hi)
  simp only [Bool.and_eq_true, beq_iff_eq] at h1
  have h2 := hf i f hi
  rw [h1.1, h1.2, hyi] at h2
  have h3 : (cs.drop i).take 1 = [c] := by
    have hlt := (List.getElem?_eq_some_iff.1 hci).1
    rw [List.drop_eq_getElem_cons hlt, (List.getElem?_eq_some_iff.1 hci).2]
    rfl
  rw [h3] at h2
  refine ⟨h2, fun q hq => hl q ?_, ?_⟩
  · simp only [DataW.weights, ht]
    exact mem_weightsEach (i := i) (t := f.type) (d := y.1) (by rw [List.getElem?_map]; simp [hi]) (by rw [List.getElem?_map, hyi]; rfl) hq
  · have := bulk_part (d := y.1) (l := xs.map (·.1)) (List.mem_map.2 ⟨y, List.mem_of_getElem? hyi, rfl⟩)
    omega
end
section
variable {H : Type} {enc : TypeId × Value → H} {w : World} {C : Nat}
theorem open_27b : ∀ (n : Nat) {cs : List Value} {x : DataW H × List MemPlace}, DataW.trod enc Tryz.prog w 0 (fun _ => true) true n 27 cs = some x → Light Tryz.prog 27 x → Rows.uptoBulk x.1 ≤ C → ∃ a : S27, k27.K w a cs ∧ Sim.GS C a := by
  intro n
  induction n using Nat.strongRecOn with
  | ind n ih =>
  intro cs x hx hl hbk
  obtain ⟨xs, m, hn, hcl, hxl, hf⟩ := open_cellsB Tryz.underlying27 (by kernel_rfl) (by kernel_rfl) hx hl hbk
  match cs, hcl, xs, hxl with
  | [c0, c1, c2, c3, c4], _, [x0, x1, x2, x3, x4], _ =>
    obtain ⟨n0, e0, _, _⟩ := DataW.trod_int Tryz.underlying22 (hf 0 _ _ _ rfl rfl rfl).1
    obtain ⟨n1, e1, _⟩ := trod_float Tryz.underlying23 (hf 1 _ _ _ rfl rfl rfl).1
    have h2 := hf 2 _ _ _ rfl rfl rfl
    obtain ⟨s, rfl, hs⟩ := open_str h2.1 h2.2.1
    have h3 := hf 3 _ _ _ rfl rfl rfl
    obtain ⟨A, l, c, e3, hlc, hC, hR, hB, hG⟩ := open_rowsB (d := k27) (G := Sim.GS C) (B := 80) Tryz.underlying24 (by kernel_rfl) (by kernel_rfl) h3.1 h3.2.1 h3.2.2 (fun q hq cs y h h' h'' => ih q (by omega) h h' h'')
    have h4 := hf 4 _ _ _ rfl rfl rfl
    obtain ⟨A', l', c', e4, hlc', hC', hR', hB', hG'⟩ := open_rowsB (d := Kd.string) (G := fun s : ByteArray => s.size ≤ 140737488351232) (B := 16) Tryz.underlying25 (by kernel_rfl) (by kernel_rfl) h4.1 h4.2.1 h4.2.2 (fun q hq cs y h h' h'' => by
      obtain ⟨s, rfl, rfl, _⟩ := DataW.trod_string Tryz.underlying9 h
      obtain ⟨s', e, hs'⟩ := open_str h h'
      cases e
      exact ⟨s, rfl, hs'⟩)
    cases e0; cases e1; cases e3; cases e4
    exact ⟨⟨n0, n1, s, l, l'⟩, k27_mk w ⟨n0, n1, s, l, l'⟩ hlc hC hlc' hC', .mk _ hs hB hB' hG' hG⟩
set_option maxRecDepth 100000 in
/-- A handed-in value. -/
theorem open_valB {r : Reach} {b0 : Nat} {v : Value} {d : DataW H} {p : List MemPlace} (hv : Value.okWide Tryz.prog w r b0 27 v) (h : DataW.Trod enc Tryz.prog w 0 (fun _ => true) true 27 v d p) (hl : ∀ m ∈ d.weights Tryz.prog 27, m ≤ reachBytes) (hbk : Rows.uptoBulk d ≤ C) :
    ∃ (x : S27) (A3 : Option Addr) (c3 : Nat) (A4 : Option Addr) (c4 : Nat), v = .agg #[.int .i64 x.f0, .float .f64 x.f1, .string x.f2, .slice A3 x.f3.length c3, .slice A4 x.f4.length c4] ∧ x.f3.length ≤ c3 ∧ Kd.C k27 w A3 x.f3.length x.f3 ∧ x.f4.length ≤ c4 ∧ Kd.C Kd.string w A4 x.f4.length x.f4 ∧ Sim.GS C x := by
  obtain ⟨cs, rfl, hsz⟩ := okWide_struct Tryz.underlying27 hv
  obtain ⟨n, hx⟩ := h
  have hcs : (Value.cells (.agg cs)) = cs := rfl
  rw [hcs] at hx
  obtain ⟨x, hk, hg⟩ := open_27b n hx hl hbk
  obtain ⟨A3, c3, A4, c4, e, q1, q2, q3, q4⟩ := k27_open hk
  refine ⟨x, A3, c3, A4, c4, ?_, q1, q2, q3, q4, hg⟩
  obtain ⟨cs⟩ := cs
  have e' : cs = _ := e
  rw [e']
end
end Go.Proofs.YtmpmbnmldmpmiaaGreatDoor.A
