/- Texts of this claim, put together. -/
import Derived.Test.YtmpmbnmldmpmiaaGreatDoorShort
import Derived.Test.YtmpmbnmldmpmiaaGreatDoorVal
import Derived.Test.YtmpmbnmldmpmiaaGreatDoorSimW
import Derived.Test.YtmpmbnmldmpmiaaGreatDoorShelfC
import Derived.Sort.AssemblyPlain
import Derived.Test.YtmpmbnmldmpmiaaGreatDoorCmpA
set_option linter.unusedVariables false
namespace Go.Proofs.YtmpmbnmldmpmiaaGreatDoor.A
open Go.RowKit Go.Proofs.YtmpmbnmldmpmiaaGreatDoorW.PrintWords Go.Proofs.YtmpmbnmldmpmiaaGreatDoorW.PrintLast Go.Proofs.YtmpmbnmldmpmiaaGreatDoorW.PrintMore Go.Proofs.YtmpmbnmldmpmiaaGreatDoorW.Short
set_option maxHeartbeats 8000000 in
set_option maxRecDepth 100000 in
theorem less_calls (i j : Int) (bv bl k4 o4 : Nat) (n c : Nat) (k o : Nat) (m c2 : Nat) (x y : Int) (s t : ByteArray) (w : World)
    (h1 : w.cell? ⟨bv, 4, none⟩ = some (.slice (some ⟨k4, o4, none⟩) n c)) (h2 : w.cell? ⟨bl, 0, none⟩ = some (.slice (some ⟨k, o, none⟩) m c2)) (hi0 : 0 ≤ i) (hi : i < m) (hj0 : 0 ≤ j) (hj : j < m)
    (h3 : w.cell? ⟨k, o + i.toNat, none⟩ = some (.int .i64 x)) (h4 : w.cell? ⟨k, o + j.toNat, none⟩ = some (.int .i64 y)) (hx0 : 0 ≤ x) (hx : x < n) (hy0 : 0 ≤ y) (hy : y < n)
    (h5 : w.cell? ⟨k4, o4 + x.toNat, none⟩ = some (.string s)) (h6 : w.cell? ⟨k4, o4 + y.toNat, none⟩ = some (.string t)) :
    Calls Tryz.prog 106 #[.int .i64 i, .int .i64 j, .pointer (some ⟨bv, 0, none⟩), .pointer (some ⟨bl, 0, none⟩)] w fun e w' => e = .returned (.bool (Op.bytesLess s.toList t.toList)) ∧ ∃ q, w' = w.drewN q := by
  have u27 := Tryz.underlying27
  have u25 := Tryz.underlying25
  have u69 := Tryz.underlying69
  go_enter Tryz.func106, Tryz.ntmps106
  go_wp2
  go_quiet (fail)
  go_wp2
  go_ret
  exact ⟨rfl, _, rfl⟩
end Go.Proofs.YtmpmbnmldmpmiaaGreatDoor.A
set_option linter.unusedVariables false
set_option linter.unusedSimpArgs false
set_option maxRecDepth 100000
namespace Go.Proofs.YtmpmbnmldmpmiaaGreatDoor.Sim
open Go Go.RowKit Go.Shelf Go.Lib Go.Sort Go.Proofs.YtmpmbnmldmpmiaaGreatDoor.A Go.Proofs.YtmpmbnmldmpmiaaGreatDoorW.PrintWords Go.Proofs.YtmpmbnmldmpmiaaGreatDoorW.PrintLast Go.Proofs.YtmpmbnmldmpmiaaGreatDoorW.PrintMore
noncomputable def siT : TypeInfo := (Tryz.prog.info? 69).get (by kernel_rfl)
noncomputable def siE : TypeInfo := (Tryz.prog.info? 3).get (by kernel_rfl)
theorem siK (n : Nat) (h2 : 2 ≤ n) : Lib.swapperK n siE 2 = 5 := by
  have a : siE.hasPointers = false := by kernel_rfl
  have b : siE.bytes = 8 := by kernel_rfl
  have c : (n == 0) = false := by simp; omega
  have d : (n == 1) = false := by simp; omega
  simp [Lib.swapperK, a, b, c, d]
theorem bytesLess_lt : ∀ (x y : List UInt8), Op.bytesLess x y = decide (x < y)
  | [], [] => by simp [Op.bytesLess]
  | [], _ :: _ => by simp [Op.bytesLess]
  | _ :: _, [] => by simp [Op.bytesLess]
  | a :: x, b :: y => by
    rw [Op.bytesLess, bytesLess_lt x y]
    have e : (a == b) = decide (a = b) := by by_cases h : a = b <;> simp [h]
    rw [e]
    by_cases h1 : a < b <;> by_cases h2 : a = b <;> by_cases h3 : x < y <;> simp [h1, h2, h3, List.cons_lt_cons_iff]
def ltK (ks : List ByteArray) (i j : _root_.Fin ks.length) : Bool := Op.bytesLess ks[i].toList ks[j].toList
theorem swo_ltK (ks : List ByteArray) : SWO (ltK ks) where
  irrefl x := by unfold ltK; rw [bytesLess_lt]; exact swo_ltStr.irrefl _
  trans x y z h1 h2 := by
    unfold ltK at *
    rw [bytesLess_lt] at *
    exact swo_ltStr.trans _ _ _ h1 h2
  ntrans x y z h1 h2 := by
    unfold ltK at *
    rw [bytesLess_lt] at *
    exact swo_ltStr.ntrans _ _ _ h1 h2
theorem two_inh {ks : List ByteArray} (h : 2 ≤ ks.length) : 0 < ks.length := by omega
theorem ext_all {α : Type} {n : Nat} (d : Array α) (h : d.size = n) : d.extract 0 n = d := by subst h; simp
abbrev finInh {n : Nat} (h : 0 < n) : Inhabited (_root_.Fin n) := ⟨⟨0, h⟩⟩
/-- An object's places in the order of its sorted keys. -/
def placesL (ks : List ByteArray) : List Nat :=
  if h : 2 ≤ ks.length then
    letI := finInh (two_inh h)
    (pdq (ltK ks) (Array.ofFn (fun i : _root_.Fin ks.length => i)) 0 ks.length (Lib.bitLen ks.length) true true).toList.map (·.val)
  else List.range ks.length
theorem placesL_perm (ks : List ByteArray) : (placesL ks).Perm (List.range ks.length) := by
  unfold placesL
  split
  · rename_i h
    letI := finInh (two_inh h)
    have hs : (Array.ofFn (fun i : _root_.Fin ks.length => i)).size = ks.length := by simp
    obtain ⟨⟨h1, _, h3⟩, _⟩ := pdq_sorts (ltK ks) (swo_ltK ks) (Array.ofFn (fun i : _root_.Fin ks.length => i)) 0 ks.length (Lib.bitLen ks.length) true true (Nat.zero_le _) (by omega) (Or.inl rfl)
    rw [ext_all _ (by rw [h1, hs]), ext_all _ hs] at h3
    have := h3.map (·.val)
    refine this.trans ?_
    have : (Array.ofFn (fun i : _root_.Fin ks.length => i)).toList.map (·.val) = List.range ks.length := by
      rw [Array.toList_ofFn]
      apply List.ext_getElem
      · simp
      · intro i h1 h2
        simp
    rw [this]
  · exact List.Perm.refl _
theorem placesL_length (ks : List ByteArray) : (placesL ks).length = ks.length := by
  have := (placesL_perm ks).length_eq
  simpa using this
theorem placesL_lt {ks : List ByteArray} {i : Nat} (h : i ∈ placesL ks) : i < ks.length := by
  have := (placesL_perm ks).mem_iff.1 h
  simpa using this
theorem placesL_sorted (ks : List ByteArray) : (placesL ks).Pairwise fun i j => ∀ x y, ks[i]? = some x → ks[j]? = some y → ¬ y.toList < x.toList := by
  unfold placesL
  split
  · rename_i h
    letI := finInh (two_inh h)
    have hs : (Array.ofFn (fun i : _root_.Fin ks.length => i)).size = ks.length := by simp
    obtain ⟨⟨h1, _, _⟩, h3⟩ := pdq_sorts (ltK ks) (swo_ltK ks) (Array.ofFn (fun i : _root_.Fin ks.length => i)) 0 ks.length (Lib.bitLen ks.length) true true (Nat.zero_le _) (by omega) (Or.inl rfl)
    rw [hs] at h1
    generalize pdq (ltK ks) (Array.ofFn (fun i : _root_.Fin ks.length => i)) 0 ks.length (Lib.bitLen ks.length) true true = d at h1 h3
    rw [List.pairwise_map, List.pairwise_iff_getElem]
    intro i j hi hj hij x y hx hy
    have hjs : j < d.size := by simpa using hj
    have his : i < d.size := by simpa using hi
    have := h3 i j (Nat.zero_le _) hij (by omega)
    rw [getElem!_pos d i his, getElem!_pos d j hjs] at this
    unfold ltK at this
    rw [bytesLess_lt] at this
    have := of_decide_eq_false this
    have ex : ks[d[i]] = x := by have := List.getElem?_eq_getElem (l := ks) (i := (d[i] : _root_.Fin _).val) (d[i]).isLt; rw [Array.getElem_toList] at hx; rw [this] at hx; cases hx; rfl
    have ey : ks[d[j]] = y := by have := List.getElem?_eq_getElem (l := ks) (i := (d[j] : _root_.Fin _).val) (d[j]).isLt; rw [Array.getElem_toList] at hy; rw [this] at hy; cases hy; rfl
    rw [ex, ey] at this
    exact this
  · rename_i h
    rw [List.pairwise_iff_getElem]
    intro i j hi hj hij
    simp at hi hj
    omega
end Go.Proofs.YtmpmbnmldmpmiaaGreatDoor.Sim
set_option linter.unusedVariables false
set_option linter.unusedSimpArgs false
set_option maxRecDepth 100000
namespace Go.Proofs.YtmpmbnmldmpmiaaGreatDoor.Sim
open Go Go.RowKit Go.Shelf Go.Lib Go.Sort Go.Proofs.YtmpmbnmldmpmiaaGreatDoor.A Go.Proofs.YtmpmbnmldmpmiaaGreatDoorW.PrintWords Go.Proofs.YtmpmbnmldmpmiaaGreatDoorW.PrintLast Go.Proofs.YtmpmbnmldmpmiaaGreatDoorW.PrintMore
def intRow (l : List Nat) : List V := l.map fun (i : Nat) => V.s (.int .i64 i)
theorem intRow_eq (l : List Nat) : intRow l = (l.map fun (i : Nat) => Value.int .i64 i).map V.s := by
  unfold intRow
  rw [List.map_map]
  rfl
theorem cell_of {w : World} {k off : Nat} {cs : Array Value} {e : TypeId} {fr : Nat × Nat} (h : w.heap[k]? = some (.cells cs e fr)) : w.cell? ⟨k, off, none⟩ = cs[off]? := by
  simp only [World.cell?, h]
  simp
theorem frozen_of {w : World} {k off : Nat} {cs : Array Value} {e : TypeId} {fr : Nat × Nat} (h : w.heap[k]? = some (.cells cs e fr)) (hf : fr.1 = fr.2) : w.frozen? ⟨k, off, none⟩ = false := by
  simp only [World.frozen?, h]
  simp
  omega
set_option maxHeartbeats 1000000 in
theorem sort_ok {b : Bs} {ks : List ByteArray} {A4 : Option Addr} {c4 : Nat} (hS : Sw b.v ks A4 c4) {S : St} {l vb lb : Nat} {x0 x1 x2 x3 : Value}
    (hl : find l S.heap = some (.row (intRow (List.range ks.length)) 3 none .no)) (hv : find vb S.heap = some (.row [.s x0, .s x1, .s x2, .s x3, .s (.slice A4 ks.length c4)] 27 none .no))
    (hb : find lb S.heap = some (.row [.slc l 0 ks.length (some ks.length)] 69 none .no)) (hn : ks.length ≤ 281474976710656) (hlt : l < S.next) (h1 : vb ≠ l) (h2 : lb ≠ l) :
    Ok Tryz.prog b 105 [.ifc 69 (.slc l 0 ks.length (some ks.length)), .fn 106 [] [.ptr vb 0, .ptr lb 0]] S fun v S' => v = .s (.tuple #[]) ∧ S' = ⟨upd l (.row (intRow (placesL ks)) 3 none .no) S.heap, S.next, lower l S.low⟩ := by
  intro g w us hM hr hu
  obtain ⟨kl, cl, ol, a1, a2, a3, xs, ys, fr, a4, rfl, a5, rfl⟩ := hM.blk l _ hl
  obtain ⟨kv, cv, ov, b1, b2, b3, vs, ys2, fr2, b4, rfl, b5, rfl⟩ := hM.blk vb _ hv
  obtain ⟨kb, cb, ob, d1, d2, d3, bs, ys3, fr3, d4, rfl, d5, rfl⟩ := hM.blk lb _ hb
  rw [intRow_eq] at a4
  have hxs := lits_rels (lits_s _) a4
  simp only [V.rels, V.rel] at b4 d4 hr
  obtain ⟨_, _, rfl, ⟨_, _, rfl, ⟨_, _, rfl, ⟨_, _, rfl, ⟨_, _, rfl, rfl, rfl⟩, rfl⟩, rfl⟩, rfl⟩, rfl⟩ := b4
  obtain ⟨_, _, ⟨k', c', e1, rfl⟩, rfl, rfl⟩ := d4
  rw [a1] at e1; cases e1
  obtain ⟨_, _, ⟨_, ⟨k', c', e1, rfl⟩, rfl⟩, ⟨_, _, ⟨_, _, rfl, ⟨_, _, ⟨k1, c1, e2, rfl⟩, ⟨_, _, ⟨k2, c2, e3, rfl⟩, rfl, rfl⟩, rfl⟩, rfl⟩, rfl, rfl⟩, rfl⟩ := hr
  rw [a1] at e1; cases e1
  rw [b1] at e2; cases e2
  rw [d1] at e3; cases e3
  have hkv : kv ≠ kl := fun e => h1 (by rw [e, a2] at b2; cases b2; rfl)
  have hkb : kb ≠ kl := fun e => h2 (by rw [e, a2] at d2; cases d2; rfl)
  have hklt := (hM.mine kl l a2).2.1
  have hkvt := (hM.mine kv vb b2).2.1
  have hkbt := (hM.mine kb lb d2).2.1
  simp only [List.append_nil] at a3 b3 d3
  subst hxs
  simp only [Option.getD_some]
  have below_grow : ∀ (w1 : World) (os : Array Obj), Below w1.heap.size w1 (grow w1 os) := fun w1 os => ⟨rfl, rfl, rfl, by simp, fun k hk => by
    show (w1.heap ++ os)[k]? = _
    rw [Array.getElem?_append_left hk]⟩
  have fin : ∀ (w1 : World) (os : Array Obj), Turned kl (.cells ((placesL ks).map fun (i : Nat) => Value.int .i64 i).toArray 3 fr) w w1 → ∃ v S', (v = .s (.tuple #[]) ∧ S' = ⟨upd l (.row (intRow (placesL ks)) 3 none .no) S.heap, S.next, lower l S.low⟩) ∧ S.next ≤ S'.next ∧ S'.low ≤ S.low ∧ After b g S w v S' (.tuple #[]) (grow w1 os) := by
    intro w1 os ht
    have hlow : lower l S.low ≤ l := by rw [lower_eq]; exact Nat.min_le_left _ _
    refine ⟨_, _, ⟨rfl, rfl⟩, Nat.le_refl _, by show lower l S.low ≤ S.low; rw [lower_eq]; exact Nat.min_le_right _ _, g, (hM.turn (b := .row (intRow (placesL ks)) 3 none .no) a1 a2 ht ⟨(placesL ks).map fun (i : Nat) => Value.int .i64 i, [], fr, ?_, by simp, a5, rfl⟩).under (below_grow w1 os), (Fr.turn a2 ht hlow hlt (Nat.le_refl _)).trans (Fr.under _ _ (below_grow w1 os)) (Nat.le_refl _) (Nat.le_refl _) (Nat.le_refl _), rel_s⟩
    rw [intRow_eq]
    exact rels_lits _
  refine callSem_of Tryz.func105 (by kernel_rfl) rfl ?_
  by_cases h2n : 2 ≤ ks.length
  · letI := finInh (two_inh h2n)
    obtain ⟨k4, o4, rfl, hcells⟩ : ∃ k4 o4, A4 = some ⟨k4, o4, none⟩ ∧ ∀ i (hi : i < ks.length), w.cell? ⟨k4, o4 + i, none⟩ = some (.string ks[i]) ∧ k4 ≠ kl := by
      obtain ⟨k4, o4, rfl, h0⟩ := hS.get (show 0 < ks.length by omega)
      refine ⟨k4, o4, rfl, fun i hi => ?_⟩
      obtain ⟨k4', o4', he, hc⟩ := hS.get hi
      cases he
      have hv : b.v.cell? ⟨k4, o4 + i, none⟩ = some (.string ks[i]) := by
        unfold cellT whole at hc
        cases hk : b.v.heap[k4]? with
        | none => rw [hk] at hc; cases hc
        | some o =>
          rw [hk] at hc
          cases o with
          | cells cs e fr =>
            simp only at hc
            split at hc
            · cases hc
            · rw [cell_of hk]; simpa using hc
          | _ => cases hc
      refine ⟨hM.base.fast.cell hv, fun e => ?_⟩
      obtain ⟨_, cs, e', fr', q1, q2⟩ := cell_parts hv
      refine (hM.mine kl l a2).1.not ⟨cs, e', fr', by rw [← e]; exact q1, fun h0 => ?_⟩
      have := (Array.getElem?_eq_some_iff.1 q2).1
      omega
    have hne4 : k4 ≠ kl := (hcells 0 (by omega)).2
    have hk4t : k4 < w.heap.size := by
      obtain ⟨_, cs, e', fr', q1, q2⟩ := cell_parts (hcells 0 (by omega)).1
      exact (Array.getElem?_eq_some_iff.1 q1).1
    have hH : Holds (fun (i : _root_.Fin ks.length) => Value.int .i64 (i.val : Nat)) w kl 0 (Array.ofFn (fun i : _root_.Fin ks.length => i)) := by
      intro j hj
      have hj' : j < ks.length := by simpa using hj
      refine ⟨?_, frozen_of a3 a5⟩
      rw [cell_of a3, getElem!_pos _ j hj]
      simp [hj']
    have hsz : (Array.ofFn (fun i : _root_.Fin ks.length => i)).size = ks.length := by simp
    have hless : LessReads Tryz.prog 106 #[.pointer (some ⟨kv, 0, none⟩), .pointer (some ⟨kb, 0, none⟩)] (fun (i : _root_.Fin ks.length) => Value.int .i64 (i.val : Nat)) (ltK ks) kl 0 (Array.ofFn (fun i : _root_.Fin ks.length => i)).size w := by
      intro m os dk hs i j hi hj
      rw [hsz] at hs hi hj
      have e : sortWorld (fun (i : _root_.Fin ks.length) => Value.int .i64 (i.val : Nat)) w kl 0 m dk os = putRow (fun (i : _root_.Fin ks.length) => Value.int .i64 (i.val : Nat)) (grow (Sort.ahead w m) os) kl 0 dk := by
        unfold sortWorld
        rw [putRow_grow _ (Sort.ahead w m) _ kl 0 _ hklt]
      have far : ∀ (a : Addr) u, a.block ≠ kl → a.block < w.heap.size → w.cell? a = some u → (sortWorld (fun (i : _root_.Fin ks.length) => Value.int .i64 (i.val : Nat)) w kl 0 m dk os).cell? a = some u := by
        intro a u q1 q2 q3
        rw [e, cell?_putRow_other _ _ kl 0 dk _ (Or.inl q1), cell?_grow (Sort.ahead w m) os a (show a.block < (Sort.ahead w m).heap.size from q2)]
        exact q3
      have near : ∀ t, t < ks.length → (sortWorld (fun (i : _root_.Fin ks.length) => Value.int .i64 (i.val : Nat)) w kl 0 m dk os).cell? ⟨kl, 0 + t, none⟩ = some (.int .i64 ((dk[t]!).val : Nat)) := by
        intro t ht
        have hHg : Holds (fun (i : _root_.Fin ks.length) => Value.int .i64 (i.val : Nat)) (grow (Sort.ahead w m) os) kl 0 (Array.ofFn (fun i : _root_.Fin ks.length => i)) := holds_grow _ _ _ kl 0 _ hklt (holds_ahead _ _ _ _ _ _ hH)
        rw [e]
        exact cell?_putRow _ _ kl 0 _ dk hHg (by rw [hs, hsz]) t (by omega)
      refine less_calls i j kv kb k4 o4 ks.length c4 kl 0 ks.length ks.length (dk[i]!).val (dk[j]!).val ks[dk[i]!] ks[dk[j]!] _ (far _ _ hkv hkvt ?_) (far _ _ hkb hkbt ?_) (by omega) (by omega) (by omega) (by omega) ?_ ?_ (by omega) (by have := (dk[i]!).isLt; omega) (by omega) (by have := (dk[j]!).isLt; omega) ?_ ?_
      · rw [cell_of b3]; rfl
      · rw [cell_of d3]; rfl
      · have := near i hi; simpa using this
      · have := near j hj; simpa using this
      · rw [Int.toNat_natCast]; exact far _ _ hne4 hk4t (hcells _ (dk[i]!).isLt).1
      · rw [Int.toNat_natCast]; exact far _ _ hne4 hk4t (hcells _ (dk[j]!).isLt).1
    have hS2 := Any.sort_Slice_eq Tryz.laysGg6 69 3 siT siE (by kernel_rfl) (by kernel_rfl) (by kernel_rfl) (by kernel_rfl) 2 (fun _ => by kernel_rfl) (by kernel_rfl) (fun _ => by kernel_rfl) (fun (i : _root_.Fin ks.length) => Value.int .i64 (i.val : Nat)) (fun _ => rfl) (ltK ks) (swo_ltK ks) 106 _
      (enters_of Tryz.func106 (by kernel_rfl) rfl) kl 0 ks.length (Array.ofFn (fun i : _root_.Fin ks.length => i)) (by omega) (by omega) 148 (by rw [siK _ (by omega)]; kernel_rfl) true
      (fun args W => run_callFunc_extern Tryz.func148 (by kernel_rfl) (by kernel_rfl) (by kernel_rfl) (e := Extern.ReflectliteSwapper.swap true) (by kernel_rfl) args W) w hless hH hklt
    rw [hsz] at hS2
    refine hS2.mono ?_
    rintro e w' ⟨rfl, n, os, rfl⟩
    refine ⟨.tuple #[], rfl, fin _ os ⟨rfl, rfl, rfl, by simp, ?_, fun j hj => ?_⟩⟩
    · have hd : placesL ks = (pdq (ltK ks) (Array.ofFn (fun i : _root_.Fin ks.length => i)) 0 ks.length (Lib.bitLen ks.length) true true).toList.map (·.val) := by
        unfold placesL
        rw [dif_pos h2n]
      have hds : (pdq (ltK ks) (Array.ofFn (fun i : _root_.Fin ks.length => i)) 0 ks.length (Lib.bitLen ks.length) true true).size = ks.length := by
        have := placesL_length ks
        rw [hd] at this
        simpa using this
      rw [hd]
      generalize pdq (ltK ks) (Array.ofFn (fun i : _root_.Fin ks.length => i)) 0 ks.length (Lib.bitLen ks.length) true true = d at hds
      show ((Sort.ahead w n).heap.modify kl _)[kl]? = _
      rw [Array.getElem?_modify, if_pos rfl]
      show (w.heap[kl]?).map _ = _
      rw [a3]
      simp only [Option.map_some, onCells, putCells, Option.some.injEq, Obj.cells.injEq, and_true]
      apply Array.ext_getElem?
      intro j
      simp only [Array.getElem?_mapIdx, List.getElem?_toArray, List.getElem?_map, Nat.zero_le, true_and, Nat.zero_add, Nat.sub_zero]
      by_cases hj : j < ks.length
      · have hj2 : j < d.size := by omega
        rw [List.getElem?_range hj]
        simp only [Option.map_some, if_pos hj2]
        rw [getElem!_pos d j hj2, Array.getElem?_toList, Array.getElem?_eq_getElem hj2]
        rfl
      · rw [List.getElem?_eq_none (by simp; omega), List.getElem?_eq_none (by simp; omega)]
        rfl
    · show ((Sort.ahead w n).heap.modify kl _)[j]? = _
      rw [Array.getElem?_modify, if_neg (fun e => hj e.symm)]
      rfl
  · have hd : placesL ks = List.range ks.length := by
      unfold placesL
      rw [dif_neg h2n]
    have hS2 := Any.sort_Slice_tiny Tryz.laysGg6 69 3 siT siE (by kernel_rfl) (by kernel_rfl) (by kernel_rfl) (by kernel_rfl) 2 (fun _ => by kernel_rfl) (some ⟨kl, 0, none⟩) ks.length ks.length (by omega) (if ks.length = 0 then 144 else 145) (by
      by_cases h0 : ks.length = 0
      · rw [if_pos h0, h0]
        exact (show Tryz.prog.funcs.findIdx? (·.name == "internal/reflectlite" ++ ".Swapper$" ++ toString (swapperK 0 siE 2)) = some 144 by kernel_rfl)
      · have : ks.length = 1 := by omega
        rw [if_neg h0, this]
        exact (show Tryz.prog.funcs.findIdx? (·.name == "internal/reflectlite" ++ ".Swapper$" ++ toString (swapperK 1 siE 2)) = some 145 by kernel_rfl)) (.func 106) #[] #[.pointer (some ⟨kv, 0, none⟩), .pointer (some ⟨kb, 0, none⟩)] w
    refine hS2.mono ?_
    rintro e w' ⟨rfl, os, rfl⟩
    refine ⟨.tuple #[], rfl, fin w os ⟨rfl, rfl, rfl, rfl, ?_, fun _ _ => rfl⟩⟩
    rw [hd]
    exact a3
end Go.Proofs.YtmpmbnmldmpmiaaGreatDoor.Sim
set_option linter.unusedVariables false
set_option linter.unusedSimpArgs false
set_option maxRecDepth 100000
namespace Go.Proofs.YtmpmbnmldmpmiaaGreatDoor.Sim
open Go Go.RowKit Go.Proofs.YtmpmbnmldmpmiaaGreatDoor.A Go.Proofs.YtmpmbnmldmpmiaaGreatDoorW.PrintWords Go.Proofs.YtmpmbnmldmpmiaaGreatDoorW.PrintLast Go.Proofs.YtmpmbnmldmpmiaaGreatDoorW.PrintMore
/-- A row that is filled up to a place. -/
def fillRow (n i : Nat) : List V := intRow (List.range i) ++ List.replicate (n - i) (V.s (.int .i64 0))
theorem fillRow_zero (n : Nat) : fillRow n 0 = zeros #[.int .i64 0] n := by
  unfold fillRow zeros intRow
  simp only [List.range_zero, List.map_nil, List.nil_append, Nat.sub_zero]
  apply List.ext_getElem
  · simp
  · intro i h1 h2
    simp [Nat.mod_one]
theorem fillRow_all (n : Nat) : fillRow n n = intRow (List.range n) := by
  unfold fillRow
  simp
theorem fillRow_length {n i : Nat} (h : i ≤ n) : (fillRow n i).length = n := by
  unfold fillRow intRow
  simp
  omega
theorem fillRow_set {n i : Nat} (h : i < n) : setRange (fillRow n i) i [V.s (.int .i64 (i : Int))] = fillRow n (i + 1) := by
  have hl : (intRow (List.range i)).length = i := by simp [intRow]
  unfold setRange fillRow
  rw [List.take_left' hl]
  have e : n - i = (n - (i + 1)) + 1 := by omega
  rw [e, List.replicate_succ, List.length_singleton]
  have : List.drop (i + 1) (intRow (List.range i) ++ V.s (.int .i64 0) :: List.replicate (n - (i + 1)) (V.s (.int .i64 0))) = List.replicate (n - (i + 1)) (V.s (.int .i64 0)) := by
    rw [← List.drop_drop, List.drop_left' hl]
    rfl
  rw [this, List.range_succ]
  unfold intRow
  simp
set_option maxHeartbeats 1000000 in
theorem places_ok {v : World} {x : S27} {u : Value} (h : Vr v x u) (hn : x.f4.length ≤ 35184372088832) (b : Bs) (hb : b.v = v) :
    Ok Tryz.prog b 66 [.s u] ⟨[], 0, 0⟩ fun r S' => ∃ id, r = .slc id 0 x.f4.length (some x.f4.length) ∧ find id S'.heap = some (.row (((placesL x.f4).map fun (i : Nat) => Value.int .i64 i).map .s) 3 none .no) := by
  obtain ⟨A3, c3, A4, c4, rfl, h3, h4⟩ := h
  subst hb
  have hT : Tab (whole b.v) b := whole_tab b
  have g1 : (0 : Int) ≤ (x.f4.length : Int) := by omega
  have g2 : (x.f4.length : Int) ≤ 281474976710656 := by omega
  have g3 : 8 * x.f4.length ≤ 281474976710656 := by omega
  refine Ok.run hT Tryz.func66 (by kernel_rfl) rfl rfl rfl rfl ?_
  first | refine WpF.row hT (by decide) (by decide) (ev ?_) | refine WpF.seq (WpF.row hT (by decide) (by decide) (ev ?_)) | refine WpF.seq (WpF.seq (WpF.row hT (by decide) (by decide) (ev ?_))) | refine WpF.seq (WpF.seq (WpF.seq (WpF.row hT (by decide) (by decide) (ev ?_))))
  first | refine WpF.row hT (by decide) (by decide) (evh ?_) | refine WpF.seq (WpF.row hT (by decide) (by decide) (evh ?_)) | refine WpF.seq (WpF.seq (WpF.row hT (by decide) (by decide) (evh ?_))) | refine WpF.seq (WpF.seq (WpF.seq (WpF.row hT (by decide) (by decide) (evh ?_))))
  rw [← fillRow_zero]
  first | refine WpF.row hT (by decide) (by decide) (evh ?_) | refine WpF.seq (WpF.row hT (by decide) (by decide) (evh ?_)) | refine WpF.seq (WpF.seq (WpF.row hT (by decide) (by decide) (evh ?_))) | refine WpF.seq (WpF.seq (WpF.seq (WpF.row hT (by decide) (by decide) (evh ?_))))
  first | refine WpF.block ?_ | refine WpF.seq (WpF.block ?_) | refine WpF.seq (WpF.seq (WpF.block ?_)) | refine WpF.seq (WpF.seq (WpF.seq (WpF.block ?_)))
  refine WpF.loop (fun m F S => ∃ (i : Nat), S.heap = [(2, .row [.slc 1 0 x.f4.length (some x.f4.length)] 69 none .no), (1, .row (fillRow x.f4.length i) 3 none .no), (0, .row [.s (.int .i64 x.f0), .s (.float .f64 x.f1), .s (.string x.f2), .s (.slice A3 x.f3.length c3), .s (.slice A4 x.f4.length c4)] 27 none .no)] ∧ S.next = 3 ∧
    F 1 = .ptr 0 0 ∧ F 3 = .ptr 2 0 ∧ F 10 = .s (.int .i64 x.f4.length) ∧ F 11 = .s (.int .i64 i) ∧ i ≤ x.f4.length ∧ m = x.f4.length - i) x.f4.length ⟨0, rfl, rfl, rfl, rfl, rfl, rfl, Nat.zero_le _, rfl⟩ ?_
  rintro m F ⟨H, N, L⟩ ⟨i, hH, hN, f1, f3, f10, f11, hi, rfl⟩
  have hH : H = _ := hH
  have hN : N = 3 := hN
  subst hH hN
  first | refine WpF.row hT (by decide) (by decide) (evh ?_) | refine WpF.seq (WpF.row hT (by decide) (by decide) (evh ?_)) | refine WpF.seq (WpF.seq (WpF.row hT (by decide) (by decide) (evh ?_))) | refine WpF.seq (WpF.seq (WpF.seq (WpF.row hT (by decide) (by decide) (evh ?_))))
  by_cases hlt : i < x.f4.length
  · have d1 : decide ((i : Int) < (x.f4.length : Int)) = true := by simp; omega
    have d2 : (0 : Int) ≤ (i : Int) := by omega
    have d3 : (i : Int) < (x.f4.length : Int) := by omega
    have d4 := fillRow_length (Nat.le_of_lt hlt)
    have d5 := fillRow_set hlt
    have d6 : i + 1 ≤ x.f4.length := hlt
    have d7 : IntKind.i64.wrap ((i : Int) + 1) = ((i + 1 : Nat) : Int) := by rw [IntKind.wrap_i64]; omega
    refine WpF.seq (WpF.cond (by decide) rfl (fun _ => WpF.skip ?_) (fun e => ?_))
    · first | refine WpF.block ?_ | refine WpF.seq (WpF.block ?_) | refine WpF.seq (WpF.seq (WpF.block ?_)) | refine WpF.seq (WpF.seq (WpF.seq (WpF.block ?_)))
      first | refine WpF.row hT (by decide) (by decide) (evh ?_) | refine WpF.seq (WpF.row hT (by decide) (by decide) (evh ?_)) | refine WpF.seq (WpF.seq (WpF.row hT (by decide) (by decide) (evh ?_))) | refine WpF.seq (WpF.seq (WpF.seq (WpF.row hT (by decide) (by decide) (evh ?_))))
      first | refine WpF.row hT (by decide) (by decide) (evh ?_) | refine WpF.seq (WpF.row hT (by decide) (by decide) (evh ?_)) | refine WpF.seq (WpF.seq (WpF.row hT (by decide) (by decide) (evh ?_))) | refine WpF.seq (WpF.seq (WpF.seq (WpF.row hT (by decide) (by decide) (evh ?_))))
      first | refine WpF.row hT (by decide) (by decide) (evh ?_) | refine WpF.seq (WpF.row hT (by decide) (by decide) (evh ?_)) | refine WpF.seq (WpF.seq (WpF.row hT (by decide) (by decide) (evh ?_))) | refine WpF.seq (WpF.seq (WpF.seq (WpF.row hT (by decide) (by decide) (evh ?_))))
      refine ⟨x.f4.length - (i + 1), by omega, i + 1, ?_, rfl, f1, f3, f10, ?_, hlt, rfl⟩
      · rw [← d5]
      · rw [← d7]; rfl
    · simp at e; omega
  · have g5 : i = x.f4.length := by omega
    subst g5
    refine WpF.seq (WpF.cond (by decide) rfl (fun e => ?_) (fun e => WpF.exit ?_))
    · simp at e
    rw [fillRow_all]
    first | refine WpF.row hT (by decide) (by decide) (evh ?_) | refine WpF.seq (WpF.row hT (by decide) (by decide) (evh ?_)) | refine WpF.seq (WpF.seq (WpF.row hT (by decide) (by decide) (evh ?_))) | refine WpF.seq (WpF.seq (WpF.seq (WpF.row hT (by decide) (by decide) (evh ?_))))
    refine SeqF.callE hT (by decide) (sort_ok (l := 1) (vb := 0) (lb := 2) h4 rfl rfl rfl (by omega) (show 1 < 3 by decide) (by decide) (by decide)) (by decide) rfl rfl rfl rfl ?_
    rintro r S' ⟨rfl, rfl⟩ _ _
    clear hH hN e hlt hi
    simp only [upd_cons, upd_nil, Nat.reduceEqDiff, if_true, if_false, reduceIte]
    refine evh ?_
    first | refine WpF.row hT (by decide) (by decide) (evh ?_) | refine WpF.seq (WpF.row hT (by decide) (by decide) (evh ?_)) | refine WpF.seq (WpF.seq (WpF.row hT (by decide) (by decide) (evh ?_))) | refine WpF.seq (WpF.seq (WpF.seq (WpF.row hT (by decide) (by decide) (evh ?_))))
    refine WpF.ret ⟨.inr rfl, evr ?_⟩
    exact ⟨1, rfl, by rw [← intRow_eq]; rfl⟩
end Go.Proofs.YtmpmbnmldmpmiaaGreatDoor.Sim
