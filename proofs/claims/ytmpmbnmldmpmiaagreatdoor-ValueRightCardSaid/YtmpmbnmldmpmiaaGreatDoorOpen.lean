/- What a handed-in api.Code reads as: lists of structs, and the bounds that its weight gives. -/
import Derived.Test.YtmpmbnmldmpmiaaGreatDoorRightA
import Derived.WalkKit
import Derived.ProofKit
import Derived.OpenShut
import Derived.ShutString
import Derived.ChangeOld
import Derived.Below
import Derived.SizedLaws
import Derived.ChangeArms
import Derived.Deep.Slices
import Derived.Test.YtmpmbnmldmpmiaaGreatDoorFloatOpen
set_option linter.unusedVariables false
namespace Go.Proofs.YtmpmbnmldmpmiaaGreatDoor.A
open Go.RowKit Go.ChangeShapes Go.WideShapes Go.Proofs.YtmpmbnmldmpmiaaGreatDoorW.PrintWords Go.Proofs.YtmpmbnmldmpmiaaGreatDoorW.PrintLast Go.Proofs.YtmpmbnmldmpmiaaGreatDoorW.PrintMore Go.Proofs.YtmpmbnmldmpmiaaGreatDoorW.FM
/-- A list of what is there at each place. -/
theorem list_choose {α : Type} {p : Nat → α → Prop} : ∀ (n : Nat), (∀ i, i < n → ∃ x, p i x) → ∃ l : List α, l.length = n ∧ ∀ i x, l[i]? = some x → p i x
  | 0, _ => ⟨[], rfl, fun i x h => by simp at h⟩
  | n + 1, h => by
    obtain ⟨l, hl, hp⟩ := list_choose n (fun i hi => h i (Nat.lt_succ_of_lt hi))
    obtain ⟨x, hx⟩ := h n (Nat.lt_succ_self n)
    refine ⟨l ++ [x], by simp [hl], fun i y hy => ?_⟩
    rcases Nat.lt_or_ge i l.length with hi | hi
    · rw [List.getElem?_append_left hi] at hy
      exact hp i y hy
    · rw [List.getElem?_append_right hi] at hy
      rcases Nat.eq_zero_or_pos (i - l.length) with h0 | h0
      · rw [h0] at hy
        simp at hy
        have : i = n := by omega
        rw [← hy, this]
        exact hx
      · rw [List.getElem?_eq_none (by simp; omega)] at hy
        cases hy
section
variable {H : Type} {enc : TypeId × Value → H} {P : Program} {w : World}
/-- All that is read under a data tree weighs no more than the bound. -/
def Light (P : Program) (t : TypeId) (x : DataW H × List MemPlace) : Prop := ∀ m ∈ x.1.weights P t, m ≤ reachBytes
theorem mem_weightsAll {t : TypeId} {m : Nat} : ∀ {l : List (DataW H)} {d : DataW H}, d ∈ l → m ∈ d.weights P t → m ∈ DataW.weightsAll P t l
  | a :: r, d, h, hm => by
    rw [DataW.weightsAll]
    rcases List.mem_cons.1 h with rfl | h
    · exact List.mem_append_left _ hm
    · exact List.mem_append_right _ (mem_weightsAll h hm)
/-- A slice whose elements open opens. -/
theorem open_rows {α : Type} {d : Kd α} {G : α → Prop} {t e B : Nat} (ht : P.underlying t = some (.slice e)) (hC : P.cellsOf e = d.sz) (hB : P.bytesOf e = B)
    {n : Nat} {cs : List Value} {x : DataW H × List MemPlace} (hx : DataW.trod enc P w 0 (fun _ => true) true n t cs = some x) (hl : Light P t x)
    (el : ∀ m, m < n → ∀ cs (y : DataW H × List MemPlace), DataW.trod enc P w 0 (fun _ => true) true m e cs = some y → Light P e y → ∃ a, d.K w a cs ∧ G a) :
    ∃ (A : Option Addr) (l : List α) (c : Nat), cs = [.slice A l.length c] ∧ l.length ≤ c ∧ d.C w A l.length l ∧ l.length * B ≤ reachBytes ∧ ∀ a ∈ l, G a := by
  rcases DataW.trod_slice ht hx with ⟨rfl, rfl⟩ | ⟨a, len, cap, elems, rest, m, hf, rfl, rfl, hb, hlc, hm, hlen, hel, hsp, hns⟩
  · exact ⟨none, [], 0, rfl, Nat.le_refl _, ⟨rfl, Nat.zero_le _, fun h => absurd h (Nat.lt_irrefl _)⟩, by simp, by simp⟩
  have hw : ∀ q ∈ (elems.map (·.1)).length * B :: DataW.weightsAll P e (elems.map (·.1)), q ≤ reachBytes := by
    intro q hq
    have h0 := hl (((elems.map (·.1)).length + (rest.map (·.1)).length) * B) (by simp [DataW.weights, ht, hB])
    rcases List.mem_cons.1 hq with rfl | hq
    · exact Nat.le_trans (Nat.mul_le_mul_right _ (Nat.le_add_right _ _)) h0
    · exact hl q (by simp only [DataW.weights, ht]; exact List.mem_cons_of_mem _ (List.mem_append_left _ hq))
  have each : ∀ i, i < len → ∃ p : α, G p ∧ ∃ c, c.length = d.sz ∧ d.K w p c ∧ ∀ k u, c[k]? = some u → w.cell? (a.add (i * d.sz + k)) = some u := by
    intro i hi
    have h1 := hel i hi
    have hi' : i < elems.length := by omega
    rw [List.getElem?_eq_getElem hi'] at h1
    obtain ⟨c, hc, ht1⟩ := Option.bind_eq_some_iff.1 h1
    obtain ⟨p, hp, hg⟩ := el m (by omega) c _ ht1 (fun q hq => hw q (List.mem_cons_of_mem _ (mem_weightsAll (List.mem_map.2 ⟨_, List.getElem_mem hi', rfl⟩) hq)))
    refine ⟨p, hg, c, d.K_len hp, hp, fun k u hk => ?_⟩
    obtain ⟨_, hcl, hce⟩ := World.cells?_some hc
    have hk' : k < P.cellsOf e := by
      have := (List.getElem?_eq_some_iff.1 hk).1
      omega
    have h2 := hce k hk'
    rw [Deep.add_add, hC] at h2
    rw [h2, hk]
  obtain ⟨l, hll, hp⟩ := list_choose len each
  have hR : l.length * B ≤ reachBytes := by
    have := hw _ List.mem_cons_self
    simpa [hlen, hll] using this
  refine ⟨some a, l, cap, by rw [hll], by omega, ⟨rfl, ?_, fun _ => ⟨a, rfl, fun j p hj => ?_⟩⟩, hR, fun p hp' => ?_⟩
  · have : maxLen ≤ 9223372036854775807 := by decide
    omega
  · obtain ⟨_, c, h1, h2, h3⟩ := hp j p hj
    exact ⟨c, h1, h2, h3⟩
  · obtain ⟨j, hj⟩ := List.mem_iff_getElem?.1 hp'
    exact (hp j p hj).1
theorem mem_weightsEach {m : Nat} : ∀ {ts : List TypeId} {l : List (DataW H)} {i : Nat} {t : TypeId} {d : DataW H}, ts[i]? = some t → l[i]? = some d → m ∈ d.weights P t → m ∈ DataW.weightsEach P ts l
  | _, _, _, _, _, h, k, hm => DataW.weights_mem_each h k m hm
/-- A struct whose fields are one cell each. -/
theorem open_cells {t n : Nat} {fs : Array Field} (ht : P.underlying t = some (.struct fs)) (hc : P.cellsOf t = fs.size)
    (hone : (fs.toList.zipIdx.all fun p => p.1.offset == p.2 && P.cellsOf p.1.type == 1) = true) {cs : List Value} {x : DataW H × List MemPlace} (hx : DataW.trod enc P w 0 (fun _ => true) true n t cs = some x) (hl : Light P t x) :
    ∃ (xs : List (DataW H × List MemPlace)) (m : Nat), n = m + 1 ∧ cs.length = fs.size ∧ xs.length = fs.size ∧
      ∀ (i : Nat) f c y, fs[i]? = some f → cs[i]? = some c → xs[i]? = some y → DataW.trod enc P w 0 (fun _ => true) true m f.type [c] = some y ∧ Light P f.type y := by
  obtain ⟨xs, m, hn, rfl, hcl, hxl, hf⟩ := DataW.trod_struct ht hx
  refine ⟨xs, m, hn, hcl.trans hc, hxl, fun i f c y hi hci hyi => ?_⟩
  have h1 := List.all_eq_true.1 hone (f, i) (by
    rw [List.mem_zipIdx_iff_getElem?]
    simpa using hi)
  simp only [Bool.and_eq_true, beq_iff_eq] at h1
  have h2 := hf i f hi
  rw [h1.1, h1.2, hyi] at h2
  have h3 : (cs.drop i).take 1 = [c] := by
    have hlt := (List.getElem?_eq_some_iff.1 hci).1
    rw [List.drop_eq_getElem_cons hlt, (List.getElem?_eq_some_iff.1 hci).2]
    rfl
  rw [h3] at h2
  refine ⟨h2, fun q hq => hl q ?_⟩
  simp only [DataW.weights, ht]
  exact mem_weightsEach (i := i) (t := f.type) (d := y.1) (by rw [List.getElem?_map]; simp [hi]) (by rw [List.getElem?_map, hyi]; rfl) hq
end
section
variable {H : Type} {enc : TypeId × Value → H} {w : World}
theorem open_str {n : Nat} {c : Value} {x : DataW H × List MemPlace} (hx : DataW.trod enc Tryz.prog w 0 (fun _ => true) true n 9 [c] = some x) (hl : Light Tryz.prog 9 x) : ∃ s : ByteArray, c = .string s ∧ s.size ≤ 140737488351232 := by
  obtain ⟨s, e, rfl, _⟩ := DataW.trod_string Tryz.underlying9 hx
  cases e
  refine ⟨s, rfl, ?_⟩
  have h := hl s.data.toList.length (by simp [DataW.weights])
  have hr : reachBytes = 140737488351232 := by decide
  rw [hr] at h
  simpa using h
theorem open_27 : ∀ (n : Nat) {cs : List Value} {x : DataW H × List MemPlace}, DataW.trod enc Tryz.prog w 0 (fun _ => true) true n 27 cs = some x → Light Tryz.prog 27 x → ∃ a : S27, k27.K w a cs ∧ G27 a := by
  intro n
  induction n using Nat.strongRecOn with
  | ind n ih =>
  intro cs x hx hl
  obtain ⟨xs, m, hn, hcl, hxl, hf⟩ := open_cells Tryz.underlying27 (by kernel_rfl) (by kernel_rfl) hx hl
  match cs, hcl, xs, hxl with
  | [c0, c1, c2, c3, c4], _, [x0, x1, x2, x3, x4], _ =>
    obtain ⟨n0, e0, _, _⟩ := DataW.trod_int Tryz.underlying22 (hf 0 _ _ _ rfl rfl rfl).1
    obtain ⟨n1, e1, _⟩ := trod_float Tryz.underlying23 (hf 1 _ _ _ rfl rfl rfl).1
    have h2 := hf 2 _ _ _ rfl rfl rfl
    obtain ⟨s, rfl, hs⟩ := open_str h2.1 h2.2
    have h3 := hf 3 _ _ _ rfl rfl rfl
    obtain ⟨A, l, c, e3, hlc, hC, hR, hG⟩ := open_rows (d := k27) (G := G27) (B := 80) Tryz.underlying24 (by kernel_rfl) (by kernel_rfl) h3.1 h3.2 (fun q hq cs y h h' => ih q (by omega) h h')
    have h4 := hf 4 _ _ _ rfl rfl rfl
    obtain ⟨A', l', c', e4, hlc', hC', hR', hG'⟩ := open_rows (d := Kd.string) (G := fun s : ByteArray => s.size ≤ 140737488351232) (B := 16) Tryz.underlying25 (by kernel_rfl) (by kernel_rfl) h4.1 h4.2 (fun q hq cs y h h' => by
      obtain ⟨s, rfl, rfl, _⟩ := DataW.trod_string Tryz.underlying9 h
      obtain ⟨s', e, hs'⟩ := open_str h h'
      cases e
      exact ⟨s, rfl, hs'⟩)
    cases e0; cases e1; cases e3; cases e4
    have hr : reachBytes = 140737488351232 := by decide
    exact ⟨⟨n0, n1, s, l, l'⟩, k27_mk w ⟨n0, n1, s, l, l'⟩ hlc hC hlc' hC', .mk _ hs (by show l.length ≤ _; omega) (by show l'.length ≤ _; omega) hG' hG⟩
set_option maxRecDepth 100000 in
/-- A handed-in value. -/
theorem open_val {r : Reach} {b0 : Nat} {v : Value} {d : DataW H} {p : List MemPlace} (hv : Value.okWide Tryz.prog w r b0 27 v) (h : DataW.Trod enc Tryz.prog w 0 (fun _ => true) true 27 v d p) (hl : ∀ m ∈ d.weights Tryz.prog 27, m ≤ reachBytes) :
    ∃ (x : S27) (A3 : Option Addr) (c3 : Nat) (A4 : Option Addr) (c4 : Nat), v = .agg #[.int .i64 x.f0, .float .f64 x.f1, .string x.f2, .slice A3 x.f3.length c3, .slice A4 x.f4.length c4] ∧ x.f3.length ≤ c3 ∧ Kd.C k27 w A3 x.f3.length x.f3 ∧ x.f4.length ≤ c4 ∧ Kd.C Kd.string w A4 x.f4.length x.f4 ∧ G27 x := by
  obtain ⟨cs, rfl, hsz⟩ := okWide_struct Tryz.underlying27 hv
  obtain ⟨n, hx⟩ := h
  have hcs : (Value.cells (.agg cs)) = cs := rfl
  rw [hcs] at hx
  obtain ⟨x, hk, hg⟩ := open_27 n hx hl
  obtain ⟨A3, c3, A4, c4, e, q1, q2, q3, q4⟩ := k27_open hk
  refine ⟨x, A3, c3, A4, c4, ?_, q1, q2, q3, q4, hg⟩
  obtain ⟨cs⟩ := cs
  have e' : cs = _ := e
  rw [e']
end
end Go.Proofs.YtmpmbnmldmpmiaaGreatDoor.A
