/- program.heights by hand: the row of heights is carried as a block; its closure by the contract of <Name>HandReach. -/
import Derived.Test.YtlbcnacfgickcaaGreatDoorShort
import Derived.Test.YtlbcnacfgickcaaGreatDoorHandReach
import Derived.Test.YtlbcnacfgickcaaGreatDoorA13
namespace Go.Proofs.YtlbcnacfgickcaaGreatDoor.A
open Go.RowKit Go.Proofs.YtlbcnacfgickcaaGreatDoorW.PrintWords Go.Proofs.YtlbcnacfgickcaaGreatDoorW.PrintLast Go.Proofs.YtlbcnacfgickcaaGreatDoorW.PrintMore Go.Proofs.YtlbcnacfgickcaaGreatDoorW.Short
set_option linter.unusedVariables false
attribute [local go_sem] max2_int min2_int max_two min_two max_three min_three max_four min_four
def cHt.l0 : Nat → List S56 → List Int → Int → Option (List Int × Bool)
  | 0, _, _, _ => none
  | k + 1, l, hs, i => if i < (l.length : Int) then (if 0 ≤ i then
      (if rdOf 0 hs i < 0 then cHt.l0 k l hs (wrap64 (i + 1)) else
        (cE.f k (R6 l i).f0 (R6 l i).f1 (R6 l i).f2 (R6 l i).f3 (R6 l i).f4).bind fun nm =>
          if rdOf 0 hs i < nm.1 then some ([], false) else if rdOf 0 hs i > 10000 then some ([], false) else
          if (R6 l i).f0 = 21 then (if rdOf 0 hs i = 1 then cHt.l0 k l hs (wrap64 (i + 1)) else some ([], false)) else
          if (R6 l i).f0 = 16 then cHt.l0 k l hs (wrap64 (i + 1)) else
          if (R6 l i).f0 = 17 then (reach1 hs (R6 l i).f1 (rdOf 0 hs i)).bind fun o => match o with
            | none => some ([], false)
            | some hs1 => cHt.l0 k l hs1 (wrap64 (i + 1)) else
          (if (R6 l i).f0 = 18 ∨ (R6 l i).f0 = 15 ∨ (R6 l i).f0 = 25 then reach1 hs (R6 l i).f1 (wrap64 (rdOf 0 hs i + nm.2)) else some (some hs)).bind fun o => match o with
            | none => some ([], false)
            | some hs1 => (reach1 hs1 (wrap64 (i + 1)) (wrap64 (rdOf 0 hs i + nm.2))).bind fun o => match o with
              | none => some ([], false)
              | some hs2 => cHt.l0 k l hs2 (wrap64 (i + 1))) else none) else some (hs, true)
def cHt.f (k : Nat) (lA : List S30) (lB : List S36) (a1 : Int) : Option (List Int × Bool) :=
  if 0 ≤ a1 then (if a1 < (lA.length : Int) then (if (R3 lA a1).f5.length = 0 then none else if (R3 lA a1).f5.length ≤ 17592186044416 then
    cHt.l0 k (R3 lA a1).f5 ((List.replicate (R3 lA a1).f5.length (-1 : Int)).set 0 1) 0 else none) else none) else none
theorem rowOf_made (n : Nat) : madeCells #[.int .i64 0] n = rowOf (List.replicate n 0) := by
  simp [rowOf, madeCells]
  apply Array.ext
  · simp
  · intro i h1 h2
    simp [Nat.mod_one]
theorem rows_step (n j : Nat) (h : j < n) : (List.replicate j (-1 : Int) ++ List.replicate (n - j) 0).set j (-1) = List.replicate (j + 1) (-1) ++ List.replicate (n - (j + 1)) 0 := by
  rw [List.set_append_right _ _ (by simp)]
  simp only [List.length_replicate, Nat.sub_self]
  obtain ⟨m, hm⟩ : ∃ m, n - j = m + 1 := ⟨n - j - 1, by omega⟩
  have : n - (j + 1) = m := by omega
  rw [hm, this, List.replicate_succ, List.set_cons_zero, List.replicate_succ', List.append_assoc]
  rfl
theorem rows_at (n j : Nat) (h : j < n) : (rowOf (List.replicate j (-1) ++ List.replicate (n - j) 0))[j]? = some (.int .i64 0) := by
  have : (List.replicate j (-1 : Int) ++ List.replicate (n - j) 0)[j]? = some 0 := by
    rw [List.getElem?_append_right (by simp)]
    simp only [List.length_replicate, Nat.sub_self]
    obtain ⟨m, hm⟩ : ∃ m, n - j = m + 1 := ⟨n - j - 1, by omega⟩
    rw [hm, List.replicate_succ]
    rfl
  unfold rowOf
  rw [List.getElem?_toArray, List.getElem?_map, this]
  rfl
theorem heights_result {w W : World} {gh : Nat} {hs : List Int} (BH : W.heap[gh]? = some (.cells (rowOf hs) 3 (0, 0))) (hg : w.heap.size ≤ gh) (hm : hs.length ≤ 17592186044416) :
    Kd.R (Kd.int .i64) 3 W w.heap.size (fun _ => True) (.slice (some ⟨gh, 0, none⟩) hs.length hs.length) hs :=
  Kd.R_of_own ⟨by simp [encs], .inr ⟨gh, hs.length, rowOf hs, rfl, hg, BH, Nat.le_refl _, by unfold maxLen; omega, by simp [rowOf], by simp [rowOf, encs, List.take_of_length_le]⟩⟩ (fun _ _ => trivial)
set_option maxHeartbeats 8000000 in
set_option maxRecDepth 100000 in
theorem cHt.calls (k : Nat) (A0_0 : Option Addr) (c0_0 : Nat) (lA : List S30) (A0_1 : Option Addr) (c0_1 : Nat) (lB : List S36) (a1 : Int) (r1 : List Int) (r2 : Bool) (w : World) (hr0_0 : Kd.C k30 w A0_0 lA.length lA) (hc0_0 : lA.length ≤ c0_0) (hr0_1 : Kd.C k36 w A0_1 lB.length lB) (hc0_1 : lB.length ≤ c0_1) (h : cHt.f k lA lB a1 = some (r1, r2)) :
    Calls Tryz.prog 23 #[.agg #[.slice A0_0 lA.length c0_0, .slice A0_1 lB.length c0_1], .int .i64 a1] w fun e w' => ∃ v0_ : Value, e = .returned (.tuple #[v0_, .bool r2]) ∧ Kd.R (Kd.int .i64) 3 w' w.heap.size (fun _ => True) v0_ r1 ∧ Below w.heap.size w w' := by
  have HR := Ae.mk hr0_0
  have HB := Ae.mk (Below.refl w.heap.size w)
  clear hr0_0 hc0_0 hr0_1 hc0_1
  unfold cHt.f at h
  by_cases h0 : 0 ≤ a1
  case neg => rw [if_neg h0] at h; exact absurd h (by simp)
  rw [if_pos h0] at h
  by_cases h1 : a1 < (lA.length : Int)
  case neg => rw [if_neg h1] at h; exact absurd h (by simp)
  rw [if_pos h1] at h
  obtain ⟨ad, a5, c5, e, x0, x1, x2, x3, x4, x5, hl5, hi5⟩ := at_T30 HR.out a1 h0 h1
  cases e
  obtain ⟨L, hL⟩ : ∃ L, (R3 lA a1).f5 = L := ⟨_, rfl⟩
  rw [hL] at h x5 hl5 hi5
  by_cases hn0 : L.length = 0
  · rw [if_pos hn0] at h; exact absurd h (by simp)
  rw [if_neg hn0] at h
  by_cases hn1 : L.length ≤ 17592186044416
  case neg => rw [if_neg hn1] at h; exact absurd h (by simp)
  rw [if_pos hn1] at h
  have HRL := Ae.mk hi5
  have H := Ae.mk h
  clear h hi5 HR
  have hmk : ∀ W : World, (Instr.makeSlice 38 (.int .i64 (L.length : Int)) (.int .i64 (L.length : Int))).run Tryz.prog W = .ok (.slice (some ⟨W.heap.size, 0, none⟩) L.length L.length) (W.alloc (.cells (rowOf (List.replicate L.length 0)) 3)) := by
    rw [← rowOf_made]
    exact print_make 38 3 .i64 8 Tryz.underlying38 (by kernel_rfl) (by decide) L.length (by omega)
  have hmf : ∀ (fn : Fn) (first cap : Array Value) (w : World), (Instr.makeFunc fn first cap).run Tryz.prog w = .ok (.func fn first cap) w := fun _ _ _ _ => rfl
  have hx5 := x5
  go_enter Tryz.func23, Tryz.ntmps23
  go_wp2_with (first | ((with_reducible refine gD (N := 2) rfl ?_); refine bE ?hg (N := 2) ?hd (cs := #[.slice (some ad) lA.length c0_0, .slice A0_1 lB.length c0_1]) (t := 58) ?hr ?_; (case hd => rfl); (case hg => rfl); (case hr => first | (go_simp; done) | (go_simp; rfl)); intro gp hg w1 hbox hb; have GP := Ae.mk (bez hg : w.heap.size ≤ gp); have BP := Ae.mk hbox; have HB1 := bes hb; clear HB hb hbox hg; have HB := HB1; clear HB1; have cp := (bC BP.out 0).trans rfl; replace x0 := cq HB x0; replace x1 := cq HB x1; replace x2 := cq HB x2; replace x3 := cq HB x3; replace x4 := cq HB x4; replace x5 := cq HB x5) | ((with_reducible refine gD (N := 6) rfl ?_); refine bE ?hg (N := 6) ?hd (cs := #[.slice none 0 0]) (t := 28) ?hr ?_; (case hd => rfl); (case hg => rfl); (case hr => first | (go_simp; done) | (go_simp; rfl)); intro g6 hg w2 hbox hb; have G6 := Ae.mk (bez hg : w.heap.size ≤ g6); have B6 := Ae.mk hbox; have NP6 := nlt BP hg; have n0_ := bb BP hb; have nH_ := bes hb; clear BP HB; have BP := n0_; have HB := nH_; clear nH_ n0_; clear hb hbox hg cp; have cb6 := (bC B6.out 0).trans rfl; have fb6 := bF B6.out 0))
  have hs2 : (w2.setCell ⟨g6, 0, none⟩ (.slice a5 L.length c5)).heap.size = w2.heap.size := by simp [World.setCell]
  have ltp := blk_lt BP.out
  have lt6 := blk_lt B6.out
  have ANP6 := Ae.mk NP6
  have b6 : (((w2.setCell ⟨g6, 0, none⟩ (.slice a5 L.length c5)).alloc (.cells (rowOf (List.replicate L.length 0)) 3)).alloc (.cells #[.slice (some ⟨w2.heap.size, 0, none⟩) L.length L.length] 38)).heap[g6]? = some (.cells #[.slice a5 L.length c5] 28 (0, 0)) := blk_alloc (blk_alloc (blk_put B6.out 0 _ rfl) _) _
  have bp : (((w2.setCell ⟨g6, 0, none⟩ (.slice a5 L.length c5)).alloc (.cells (rowOf (List.replicate L.length 0)) 3)).alloc (.cells #[.slice (some ⟨w2.heap.size, 0, none⟩) L.length L.length] 38)).heap[gp]? = some (.cells #[.slice (some ad) lA.length c0_0, .slice A0_1 lB.length c0_1] 58 (0, 0)) := bt
  have bh : (((w2.setCell ⟨g6, 0, none⟩ (.slice a5 L.length c5)).alloc (.cells (rowOf (List.replicate L.length 0)) 3)).alloc (.cells #[.slice (some ⟨w2.heap.size, 0, none⟩) L.length L.length] 38)).heap[w2.heap.size]? = some (.cells (rowOf (List.replicate L.length 0)) 3 (0, 0)) := blk_alloc (hs2 ▸ blk_new _ _) _
  have b7 : (((w2.setCell ⟨g6, 0, none⟩ (.slice a5 L.length c5)).alloc (.cells (rowOf (List.replicate L.length 0)) 3)).alloc (.cells #[.slice (some ⟨w2.heap.size, 0, none⟩) L.length L.length] 38)).heap[w2.heap.size + 1]? = some (.cells #[.slice (some ⟨w2.heap.size, 0, none⟩) L.length L.length] 38 (0, 0)) := by
    have := blk_new ((w2.setCell ⟨g6, 0, none⟩ (.slice a5 L.length c5)).alloc (.cells (rowOf (List.replicate L.length 0)) 3)) (.cells #[.slice (some ⟨w2.heap.size, 0, none⟩) L.length L.length] 38)
    simpa [hs2] using this
  have hb4 : Below w.heap.size w (((w2.setCell ⟨g6, 0, none⟩ (.slice a5 L.length c5)).alloc (.cells (rowOf (List.replicate L.length 0)) 3)).alloc (.cells #[.slice (some ⟨w2.heap.size, 0, none⟩) L.length L.length] 38)) := bel
  have hgp := GP.out
  have hg6 := G6.out
  have hbs := HB.out.size
  clear HB BP B6 cb6 fb6 x0 x1 x2 x3 x4 x5 hx5 hs2
  generalize (((w2.setCell ⟨g6, 0, none⟩ (.slice a5 L.length c5)).alloc (.cells (rowOf (List.replicate L.length 0)) 3)).alloc (.cells #[.slice (some ⟨w2.heap.size, 0, none⟩) L.length L.length] 38)) = W4 at *
  generalize w2.heap.size = gh at *
  have HB := Ae.mk hb4
  have BP := Ae.mk bp
  have B6 := Ae.mk b6
  have BH := Ae.mk bh
  have B7 := Ae.mk b7
  clear hb4 bp b6 bh b7 hmk
  obtain ⟨g7, hg7⟩ : ∃ g7, g7 = gh + 1 := ⟨_, rfl⟩
  rw [← hg7] at B7 ⊢
  have n1 : gp ≠ gh := by omega
  have n2 : g6 ≠ gh := by omega
  have n3 : g7 ≠ gh := by omega
  have m1 := Ae.mk n1
  have m2 := Ae.mk n2
  have m3 := Ae.mk n3
  have HS1 := Ae.mk hgp
  have HS2 := Ae.mk hg6
  have HSH : Ae (w.heap.size ≤ gh) := ⟨by omega⟩
  have HS7 : Ae (w.heap.size ≤ g7) := ⟨by omega⟩
  clear hg7 hgp hg6 hbs ltp lt6
  have o1 := n1.symm
  have o2 := n2.symm
  have o3 := n3.symm
  go_loopg [28] L.length (fun g v wr => ∃ j : Nat, v = .int .i64 j ∧ j ≤ L.length ∧ g = L.length - j ∧ Ae (wr.heap[gh]? = some (.cells (rowOf (List.replicate j (-1) ++ List.replicate (L.length - j) 0)) 3 (0, 0))) ∧
    Ae (wr.heap[gp]? = some (.cells #[.slice (some ad) lA.length c0_0, .slice A0_1 lB.length c0_1] 58 (0, 0))) ∧ Ae (wr.heap[g6]? = some (.cells #[.slice a5 L.length c5] 28 (0, 0))) ∧ Ae (wr.heap[g7]? = some (.cells #[.slice (some ⟨gh, 0, none⟩) L.length L.length] 38 (0, 0))) ∧ Ae (Below w.heap.size w wr))
  case atStart => exact ⟨0, rfl, Nat.zero_le _, by omega, ⟨by simpa using BH.out⟩, BP, B6, B7, HB⟩
  case round =>
    clear BH BP B6 B7 HB
    obtain ⟨j, rfl, hj, rfl, BH, BP, B6, B7, HB⟩ := hrel
    have c7 : wr.cell? ⟨g7, 0, none⟩ = some (.slice (some ⟨gh, 0, none⟩) L.length L.length) := (bC B7.out 0).trans rfl
    by_cases hlt : j < L.length
    · have hcell : wr.cell? ⟨gh, j, none⟩ = some (.int .i64 0) := by
        rw [bC BH.out]
        exact rows_at _ _ hlt
      have hfz := bF BH.out j
      have hset : (wr.setCell ⟨gh, j, none⟩ (.int .i64 (-1))).heap[gh]? = some (.cells (rowOf (List.replicate (j + 1) (-1) ++ List.replicate (L.length - (j + 1)) 0)) 3 (0, 0)) := blk_put BH.out j _ (by rw [rowOf_set, rows_step _ _ hlt])
      have HSET := Ae.mk hset
      clear hset
      go_wp2
      go_roundg (L.length - (j + 1))
      case measure => omega
      case rel => exact ⟨j + 1, by go_num, by omega, rfl, HSET, ⟨bt⟩, ⟨bt⟩, ⟨bt⟩, ⟨bel⟩⟩
    · have hge : j = L.length := by omega
      clear hlt
      have BH : Ae (wr.heap[gh]? = some (.cells (rowOf (List.replicate L.length (-1))) 3 (0, 0))) := ⟨by have := BH.out; rw [hge] at this; simpa using this⟩
      rw [hge]
      clear hge
      have c6 : wr.cell? ⟨g6, 0, none⟩ = some (.slice a5 L.length c5) := (bC B6.out 0).trans rfl
      have hcell : wr.cell? ⟨gh, 0, none⟩ = some (.int .i64 (-1)) := by
        rw [bC BH.out]
        obtain ⟨m, hm⟩ : ∃ m, L.length = m + 1 := ⟨L.length - 1, by omega⟩
        rw [hm]
        rfl
      have hfz := bF BH.out 0
      have BH1 : Ae ((wr.setCell ⟨gh, 0, none⟩ (.int .i64 1)).heap[gh]? = some (.cells (rowOf ((List.replicate L.length (-1 : Int)).set 0 1)) 3 (0, 0))) := ⟨blk_put BH.out 0 _ (rowOf_set _ _ _)⟩
      have hL0 : (0 : Int) < (L.length : Int) := by omega
      go_wp2
      go_loopg [40] k (fun g v wx => ∃ (i : Int) (hs : List Int), v = .int .i64 i ∧ Ae (hs.length = L.length) ∧ Ae (cHt.l0 g L hs i = some (r1, r2)) ∧ Ae (g ≤ k) ∧ Ae (wx.heap[gh]? = some (.cells (rowOf hs) 3 (0, 0))) ∧
        Ae (wx.heap[gp]? = some (.cells #[.slice (some ad) lA.length c0_0, .slice A0_1 lB.length c0_1] 58 (0, 0))) ∧ Ae (wx.heap[g6]? = some (.cells #[.slice a5 L.length c5] 28 (0, 0))) ∧ Ae (wx.heap[g7]? = some (.cells #[.slice (some ⟨gh, 0, none⟩) L.length L.length] 38 (0, 0))) ∧ Ae (Below w.heap.size w wx))
      case atStart => exact ⟨0, _, rfl, ⟨by simp⟩, H, ⟨Nat.le_refl _⟩, BH1, ⟨bt⟩, ⟨bt⟩, ⟨bt⟩, ⟨bel⟩⟩
      case round =>
        clear BH BH1 BP B6 B7 HB H c6 c7 hcell hfz
        obtain ⟨i, hs, rfl, HLEN, HA, HK, BH, BP, B6, B7, HB⟩ := hrel
        cases gk with
        | zero => exact absurd HA.out (by simp [cHt.l0])
        | succ k1 =>
          have h := HA.out
          clear HA
          simp only [cHt.l0] at h
          have c6 : wr.cell? ⟨g6, 0, none⟩ = some (.slice a5 L.length c5) := (bC B6.out 0).trans rfl
          have c7 : wr.cell? ⟨g7, 0, none⟩ = some (.slice (some ⟨gh, 0, none⟩) L.length L.length) := (bC B7.out 0).trans rfl
          by_cases hlt : i < (L.length : Int)
          case neg =>
            rw [if_neg hlt] at h
            obtain ⟨e1, e2⟩ := Prod.mk.inj (Option.some.inj h)
            subst e1 e2
            go_wp2
            go_ret2
            exact ⟨_, rfl, by rw [← HLEN.out]; exact heights_result BH.out HSH.out (by rw [HLEN.out]; exact hn1), HB.out⟩
          rw [if_pos hlt] at h
          by_cases hi0 : 0 ≤ i
          case neg => rw [if_neg hi0] at h; exact absurd h (by simp)
          rw [if_pos hi0] at h
          obtain ⟨ax, ac, cc, e, y0, y1, y2, y3, y4, hlc, hic⟩ := at_T56 HRL.out i hi0 hlt
          cases e
          have HC := Ae.mk hic
          have HCC := Ae.mk hlc
          clear hic hlc
          replace y0 := cq HB y0
          replace y1 := cq HB y1
          replace y2 := cq HB y2
          replace y3 := cq HB y3
          replace y4 := cq HB y4
          obtain ⟨F, hF⟩ : ∃ F, R6 L i = F := ⟨_, rfl⟩
          rw [hF] at h y0 y1 y2 y3 y4 HC HCC
          have hu := rowOf_get hs i hi0 (by rw [HLEN.out]; exact hlt)
          generalize rdOf 0 hs i = u at h hu
          have cu : wr.cell? ⟨gh, i.toNat, none⟩ = some (.int .i64 u) := (bC BH.out i.toNat).trans hu
          have hww : wrap64 (i + 1) = i + 1 := by unfold wrap64; omega
          clear hF
          by_cases hu0 : u < 0
          · rw [if_pos hu0] at h
            go_wp2_with (first | ((with_reducible refine gD (N := 11) rfl ?_); refine bE ?hg (N := 11) ?hd (cs := #[.int .i64 0, .int .i64 0, .int .i64 0, .string (⟨#[]⟩ : ByteArray), .slice none 0 0]) (t := 56) ?hr ?_; (case hd => rfl); (case hg => rfl); (case hr => first | (go_simp; done) | (go_simp; rfl)); intro gx hg w3 hbox hb; have GX := Ae.mk (bez hg : w.heap.size ≤ gx); have BX := Ae.mk hbox; have q1 := nlt BP hg; have q2 := nlt B6 hg; have q3 := nlt B7 hg; have q4 := nlt BH hg; have s1 := q1.symm; have s2 := q2.symm; have s3 := q3.symm; have s4 := q4.symm; have a1_ := Ae.mk q1; have a2_ := Ae.mk q2; have a3_ := Ae.mk q3; have a4_ := Ae.mk q4; have n0_ := bb BP hb; have n1_ := bb B6 hb; have n2_ := bb B7 hb; have n3_ := bb BH hb; have n4_ := bes hb; clear BP B6 B7 BH HB hb hbox hg c6 c7; have BP := n0_; have B6 := n1_; have B7 := n2_; have BH := n3_; have HB := n4_; clear n0_ n1_ n2_ n3_ n4_; have c6 : w3.cell? ⟨g6, 0, none⟩ = some (.slice (some ax) L.length c5) := (bC B6.out 0).trans rfl; have c7 : w3.cell? ⟨g7, 0, none⟩ = some (.slice (some ⟨gh, 0, none⟩) L.length L.length) := (bC B7.out 0).trans rfl; have cu : w3.cell? ⟨gh, i.toNat, none⟩ = some (.int .i64 u) := (bC BH.out i.toNat).trans hu; have cx0 := (bC BX.out 0).trans rfl; have fx0 := bF BX.out 0; have cx1 := (bC BX.out 1).trans rfl; have fx1 := bF BX.out 1; have cx2 := (bC BX.out 2).trans rfl; have fx2 := bF BX.out 2; have cx3 := (bC BX.out 3).trans rfl; have fx3 := bF BX.out 3; have cx4 := (bC BX.out 4).trans rfl; have fx4 := bF BX.out 4))
            go_roundg k1
            case measure => have := HK.out; omega
            case rel => exact ⟨wrap64 (i + 1), _, by first | rfl | (simp [hww]; done), HLEN, ⟨h⟩, ⟨by have := HK.out; omega⟩, ⟨bt⟩, ⟨bt⟩, ⟨bt⟩, ⟨bt⟩, ⟨bel⟩⟩
          rw [if_neg hu0] at h
          obtain ⟨⟨need, more⟩, he, h⟩ := Option.bind_eq_some_iff.mp h
          have A1 := Ae.mk he
          clear he
          simp only at h
          by_cases hn : u < need
          · rw [if_pos hn] at h
            obtain ⟨e1, e2⟩ := Prod.mk.inj (Option.some.inj h)
            subst e1 e2
            clear h
            go_wp2_with (first | ((with_reducible refine gD (N := 11) rfl ?_); refine bE ?hg (N := 11) ?hd (cs := #[.int .i64 0, .int .i64 0, .int .i64 0, .string (⟨#[]⟩ : ByteArray), .slice none 0 0]) (t := 56) ?hr ?_; (case hd => rfl); (case hg => rfl); (case hr => first | (go_simp; done) | (go_simp; rfl)); intro gx hg w3 hbox hb; have GX := Ae.mk (bez hg : w.heap.size ≤ gx); have BX := Ae.mk hbox; have q1 := nlt BP hg; have q2 := nlt B6 hg; have q3 := nlt B7 hg; have q4 := nlt BH hg; have s1 := q1.symm; have s2 := q2.symm; have s3 := q3.symm; have s4 := q4.symm; have a1_ := Ae.mk q1; have a2_ := Ae.mk q2; have a3_ := Ae.mk q3; have a4_ := Ae.mk q4; have n0_ := bb BP hb; have n1_ := bb B6 hb; have n2_ := bb B7 hb; have n3_ := bb BH hb; have n4_ := bes hb; clear BP B6 B7 BH HB hb hbox hg c6 c7; have BP := n0_; have B6 := n1_; have B7 := n2_; have BH := n3_; have HB := n4_; clear n0_ n1_ n2_ n3_ n4_; have c6 : w3.cell? ⟨g6, 0, none⟩ = some (.slice (some ax) L.length c5) := (bC B6.out 0).trans rfl; have c7 : w3.cell? ⟨g7, 0, none⟩ = some (.slice (some ⟨gh, 0, none⟩) L.length L.length) := (bC B7.out 0).trans rfl; have cu : w3.cell? ⟨gh, i.toNat, none⟩ = some (.int .i64 u) := (bC BH.out i.toNat).trans hu; have cx0 := (bC BX.out 0).trans rfl; have fx0 := bF BX.out 0; have cx1 := (bC BX.out 1).trans rfl; have fx1 := bF BX.out 1; have cx2 := (bC BX.out 2).trans rfl; have fx2 := bF BX.out 2; have cx3 := (bC BX.out 3).trans rfl; have fx3 := bF BX.out 3; have cx4 := (bC BX.out 4).trans rfl; have fx4 := bF BX.out 4) | (go_at_call 51; (with_reducible refine (cE.calls k1 F.f0 F.f1 F.f2 F.f3 _ _ F.f4 need more _ (Kd.C_below HC.out bel) HCC.out A1.out).mono ?_); rintro e w4 ⟨rfl, hb⟩; have BX' : Ae (w4.heap[gx]? = some (.cells #[.int .i64 F.f0, .int .i64 F.f1, .int .i64 F.f2, .string F.f3, .slice ac F.f4.length cc] 56 (0, 0))) := ⟨blk_below bt hb⟩; have n0_ := bb BP hb; have n1_ := bb B6 hb; have n2_ := bb B7 hb; have n3_ := bb BH hb; have n4_ := bes hb; clear BP B6 B7 BH BX HB hb c6 c7 cu cx0 cx1 cx2 cx3 cx4 fx0 fx1 fx2 fx3 fx4; have BP := n0_; have B6 := n1_; have B7 := n2_; have BH := n3_; have HB := n4_; have BX := BX'; clear n0_ n1_ n2_ n3_ n4_ BX'; have d0 : w4.cell? ⟨gx, 0, none⟩ = some (.int .i64 F.f0) := (bC BX.out 0).trans rfl; have d1 : w4.cell? ⟨gx, 1, none⟩ = some (.int .i64 F.f1) := (bC BX.out 1).trans rfl))
            go_ret2
            exact ⟨_, rfl, Kd.R_nil _ _ _ _ _, bel⟩
          rw [if_neg hn] at h
          by_cases hm : u > 10000
          · rw [if_pos hm] at h
            obtain ⟨e1, e2⟩ := Prod.mk.inj (Option.some.inj h)
            subst e1 e2
            clear h
            go_wp2_with (first | ((with_reducible refine gD (N := 11) rfl ?_); refine bE ?hg (N := 11) ?hd (cs := #[.int .i64 0, .int .i64 0, .int .i64 0, .string (⟨#[]⟩ : ByteArray), .slice none 0 0]) (t := 56) ?hr ?_; (case hd => rfl); (case hg => rfl); (case hr => first | (go_simp; done) | (go_simp; rfl)); intro gx hg w3 hbox hb; have GX := Ae.mk (bez hg : w.heap.size ≤ gx); have BX := Ae.mk hbox; have q1 := nlt BP hg; have q2 := nlt B6 hg; have q3 := nlt B7 hg; have q4 := nlt BH hg; have s1 := q1.symm; have s2 := q2.symm; have s3 := q3.symm; have s4 := q4.symm; have a1_ := Ae.mk q1; have a2_ := Ae.mk q2; have a3_ := Ae.mk q3; have a4_ := Ae.mk q4; have n0_ := bb BP hb; have n1_ := bb B6 hb; have n2_ := bb B7 hb; have n3_ := bb BH hb; have n4_ := bes hb; clear BP B6 B7 BH HB hb hbox hg c6 c7; have BP := n0_; have B6 := n1_; have B7 := n2_; have BH := n3_; have HB := n4_; clear n0_ n1_ n2_ n3_ n4_; have c6 : w3.cell? ⟨g6, 0, none⟩ = some (.slice (some ax) L.length c5) := (bC B6.out 0).trans rfl; have c7 : w3.cell? ⟨g7, 0, none⟩ = some (.slice (some ⟨gh, 0, none⟩) L.length L.length) := (bC B7.out 0).trans rfl; have cu : w3.cell? ⟨gh, i.toNat, none⟩ = some (.int .i64 u) := (bC BH.out i.toNat).trans hu; have cx0 := (bC BX.out 0).trans rfl; have fx0 := bF BX.out 0; have cx1 := (bC BX.out 1).trans rfl; have fx1 := bF BX.out 1; have cx2 := (bC BX.out 2).trans rfl; have fx2 := bF BX.out 2; have cx3 := (bC BX.out 3).trans rfl; have fx3 := bF BX.out 3; have cx4 := (bC BX.out 4).trans rfl; have fx4 := bF BX.out 4) | (go_at_call 51; (with_reducible refine (cE.calls k1 F.f0 F.f1 F.f2 F.f3 _ _ F.f4 need more _ (Kd.C_below HC.out bel) HCC.out A1.out).mono ?_); rintro e w4 ⟨rfl, hb⟩; have BX' : Ae (w4.heap[gx]? = some (.cells #[.int .i64 F.f0, .int .i64 F.f1, .int .i64 F.f2, .string F.f3, .slice ac F.f4.length cc] 56 (0, 0))) := ⟨blk_below bt hb⟩; have n0_ := bb BP hb; have n1_ := bb B6 hb; have n2_ := bb B7 hb; have n3_ := bb BH hb; have n4_ := bes hb; clear BP B6 B7 BH BX HB hb c6 c7 cu cx0 cx1 cx2 cx3 cx4 fx0 fx1 fx2 fx3 fx4; have BP := n0_; have B6 := n1_; have B7 := n2_; have BH := n3_; have HB := n4_; have BX := BX'; clear n0_ n1_ n2_ n3_ n4_ BX'; have d0 : w4.cell? ⟨gx, 0, none⟩ = some (.int .i64 F.f0) := (bC BX.out 0).trans rfl; have d1 : w4.cell? ⟨gx, 1, none⟩ = some (.int .i64 F.f1) := (bC BX.out 1).trans rfl))
            go_ret2
            exact ⟨_, rfl, Kd.R_nil _ _ _ _ _, bel⟩
          rw [if_neg hm] at h
          by_cases k21 : F.f0 = 21
          · rw [if_pos k21] at h
            have b21 : (F.f0 == 21) = true := beq_iff_eq.mpr k21
            clear k21
            by_cases ku : u = 1
            · rw [if_pos ku] at h
              have bu : (u != 1) = false := bne_eq_false_iff_eq.mpr ku
              clear ku
              go_wp2_with (first | ((with_reducible refine gD (N := 11) rfl ?_); refine bE ?hg (N := 11) ?hd (cs := #[.int .i64 0, .int .i64 0, .int .i64 0, .string (⟨#[]⟩ : ByteArray), .slice none 0 0]) (t := 56) ?hr ?_; (case hd => rfl); (case hg => rfl); (case hr => first | (go_simp; done) | (go_simp; rfl)); intro gx hg w3 hbox hb; have GX := Ae.mk (bez hg : w.heap.size ≤ gx); have BX := Ae.mk hbox; have q1 := nlt BP hg; have q2 := nlt B6 hg; have q3 := nlt B7 hg; have q4 := nlt BH hg; have s1 := q1.symm; have s2 := q2.symm; have s3 := q3.symm; have s4 := q4.symm; have a1_ := Ae.mk q1; have a2_ := Ae.mk q2; have a3_ := Ae.mk q3; have a4_ := Ae.mk q4; have n0_ := bb BP hb; have n1_ := bb B6 hb; have n2_ := bb B7 hb; have n3_ := bb BH hb; have n4_ := bes hb; clear BP B6 B7 BH HB hb hbox hg c6 c7; have BP := n0_; have B6 := n1_; have B7 := n2_; have BH := n3_; have HB := n4_; clear n0_ n1_ n2_ n3_ n4_; have c6 : w3.cell? ⟨g6, 0, none⟩ = some (.slice (some ax) L.length c5) := (bC B6.out 0).trans rfl; have c7 : w3.cell? ⟨g7, 0, none⟩ = some (.slice (some ⟨gh, 0, none⟩) L.length L.length) := (bC B7.out 0).trans rfl; have cu : w3.cell? ⟨gh, i.toNat, none⟩ = some (.int .i64 u) := (bC BH.out i.toNat).trans hu; have cx0 := (bC BX.out 0).trans rfl; have fx0 := bF BX.out 0; have cx1 := (bC BX.out 1).trans rfl; have fx1 := bF BX.out 1; have cx2 := (bC BX.out 2).trans rfl; have fx2 := bF BX.out 2; have cx3 := (bC BX.out 3).trans rfl; have fx3 := bF BX.out 3; have cx4 := (bC BX.out 4).trans rfl; have fx4 := bF BX.out 4) | (go_at_call 51; (with_reducible refine (cE.calls k1 F.f0 F.f1 F.f2 F.f3 _ _ F.f4 need more _ (Kd.C_below HC.out bel) HCC.out A1.out).mono ?_); rintro e w4 ⟨rfl, hb⟩; have BX' : Ae (w4.heap[gx]? = some (.cells #[.int .i64 F.f0, .int .i64 F.f1, .int .i64 F.f2, .string F.f3, .slice ac F.f4.length cc] 56 (0, 0))) := ⟨blk_below bt hb⟩; have n0_ := bb BP hb; have n1_ := bb B6 hb; have n2_ := bb B7 hb; have n3_ := bb BH hb; have n4_ := bes hb; clear BP B6 B7 BH BX HB hb c6 c7 cu cx0 cx1 cx2 cx3 cx4 fx0 fx1 fx2 fx3 fx4; have BP := n0_; have B6 := n1_; have B7 := n2_; have BH := n3_; have HB := n4_; have BX := BX'; clear n0_ n1_ n2_ n3_ n4_ BX'; have d0 : w4.cell? ⟨gx, 0, none⟩ = some (.int .i64 F.f0) := (bC BX.out 0).trans rfl; have d1 : w4.cell? ⟨gx, 1, none⟩ = some (.int .i64 F.f1) := (bC BX.out 1).trans rfl))
              go_roundg k1
              case measure => have := HK.out; omega
              case rel => exact ⟨wrap64 (i + 1), _, by first | rfl | (simp [hww]; done), HLEN, ⟨h⟩, ⟨by have := HK.out; omega⟩, ⟨bt⟩, ⟨bt⟩, ⟨bt⟩, ⟨bt⟩, ⟨bel⟩⟩
            · rw [if_neg ku] at h
              have bu : (u != 1) = true := bne_iff_ne.mpr ku
              clear ku
              obtain ⟨e1, e2⟩ := Prod.mk.inj (Option.some.inj h)
              subst e1 e2
              clear h
              go_wp2_with (first | ((with_reducible refine gD (N := 11) rfl ?_); refine bE ?hg (N := 11) ?hd (cs := #[.int .i64 0, .int .i64 0, .int .i64 0, .string (⟨#[]⟩ : ByteArray), .slice none 0 0]) (t := 56) ?hr ?_; (case hd => rfl); (case hg => rfl); (case hr => first | (go_simp; done) | (go_simp; rfl)); intro gx hg w3 hbox hb; have GX := Ae.mk (bez hg : w.heap.size ≤ gx); have BX := Ae.mk hbox; have q1 := nlt BP hg; have q2 := nlt B6 hg; have q3 := nlt B7 hg; have q4 := nlt BH hg; have s1 := q1.symm; have s2 := q2.symm; have s3 := q3.symm; have s4 := q4.symm; have a1_ := Ae.mk q1; have a2_ := Ae.mk q2; have a3_ := Ae.mk q3; have a4_ := Ae.mk q4; have n0_ := bb BP hb; have n1_ := bb B6 hb; have n2_ := bb B7 hb; have n3_ := bb BH hb; have n4_ := bes hb; clear BP B6 B7 BH HB hb hbox hg c6 c7; have BP := n0_; have B6 := n1_; have B7 := n2_; have BH := n3_; have HB := n4_; clear n0_ n1_ n2_ n3_ n4_; have c6 : w3.cell? ⟨g6, 0, none⟩ = some (.slice (some ax) L.length c5) := (bC B6.out 0).trans rfl; have c7 : w3.cell? ⟨g7, 0, none⟩ = some (.slice (some ⟨gh, 0, none⟩) L.length L.length) := (bC B7.out 0).trans rfl; have cu : w3.cell? ⟨gh, i.toNat, none⟩ = some (.int .i64 u) := (bC BH.out i.toNat).trans hu; have cx0 := (bC BX.out 0).trans rfl; have fx0 := bF BX.out 0; have cx1 := (bC BX.out 1).trans rfl; have fx1 := bF BX.out 1; have cx2 := (bC BX.out 2).trans rfl; have fx2 := bF BX.out 2; have cx3 := (bC BX.out 3).trans rfl; have fx3 := bF BX.out 3; have cx4 := (bC BX.out 4).trans rfl; have fx4 := bF BX.out 4) | (go_at_call 51; (with_reducible refine (cE.calls k1 F.f0 F.f1 F.f2 F.f3 _ _ F.f4 need more _ (Kd.C_below HC.out bel) HCC.out A1.out).mono ?_); rintro e w4 ⟨rfl, hb⟩; have BX' : Ae (w4.heap[gx]? = some (.cells #[.int .i64 F.f0, .int .i64 F.f1, .int .i64 F.f2, .string F.f3, .slice ac F.f4.length cc] 56 (0, 0))) := ⟨blk_below bt hb⟩; have n0_ := bb BP hb; have n1_ := bb B6 hb; have n2_ := bb B7 hb; have n3_ := bb BH hb; have n4_ := bes hb; clear BP B6 B7 BH BX HB hb c6 c7 cu cx0 cx1 cx2 cx3 cx4 fx0 fx1 fx2 fx3 fx4; have BP := n0_; have B6 := n1_; have B7 := n2_; have BH := n3_; have HB := n4_; have BX := BX'; clear n0_ n1_ n2_ n3_ n4_ BX'; have d0 : w4.cell? ⟨gx, 0, none⟩ = some (.int .i64 F.f0) := (bC BX.out 0).trans rfl; have d1 : w4.cell? ⟨gx, 1, none⟩ = some (.int .i64 F.f1) := (bC BX.out 1).trans rfl))
              go_ret2
              exact ⟨_, rfl, Kd.R_nil _ _ _ _ _, bel⟩
          rw [if_neg k21] at h
          have b21 : (F.f0 == 21) = false := beq_eq_false_iff_ne.mpr k21
          clear k21
          by_cases k16 : F.f0 = 16
          · rw [if_pos k16] at h
            have b16 : (F.f0 == 16) = true := beq_iff_eq.mpr k16
            clear k16
            go_wp2_with (first | ((with_reducible refine gD (N := 11) rfl ?_); refine bE ?hg (N := 11) ?hd (cs := #[.int .i64 0, .int .i64 0, .int .i64 0, .string (⟨#[]⟩ : ByteArray), .slice none 0 0]) (t := 56) ?hr ?_; (case hd => rfl); (case hg => rfl); (case hr => first | (go_simp; done) | (go_simp; rfl)); intro gx hg w3 hbox hb; have GX := Ae.mk (bez hg : w.heap.size ≤ gx); have BX := Ae.mk hbox; have q1 := nlt BP hg; have q2 := nlt B6 hg; have q3 := nlt B7 hg; have q4 := nlt BH hg; have s1 := q1.symm; have s2 := q2.symm; have s3 := q3.symm; have s4 := q4.symm; have a1_ := Ae.mk q1; have a2_ := Ae.mk q2; have a3_ := Ae.mk q3; have a4_ := Ae.mk q4; have n0_ := bb BP hb; have n1_ := bb B6 hb; have n2_ := bb B7 hb; have n3_ := bb BH hb; have n4_ := bes hb; clear BP B6 B7 BH HB hb hbox hg c6 c7; have BP := n0_; have B6 := n1_; have B7 := n2_; have BH := n3_; have HB := n4_; clear n0_ n1_ n2_ n3_ n4_; have c6 : w3.cell? ⟨g6, 0, none⟩ = some (.slice (some ax) L.length c5) := (bC B6.out 0).trans rfl; have c7 : w3.cell? ⟨g7, 0, none⟩ = some (.slice (some ⟨gh, 0, none⟩) L.length L.length) := (bC B7.out 0).trans rfl; have cu : w3.cell? ⟨gh, i.toNat, none⟩ = some (.int .i64 u) := (bC BH.out i.toNat).trans hu; have cx0 := (bC BX.out 0).trans rfl; have fx0 := bF BX.out 0; have cx1 := (bC BX.out 1).trans rfl; have fx1 := bF BX.out 1; have cx2 := (bC BX.out 2).trans rfl; have fx2 := bF BX.out 2; have cx3 := (bC BX.out 3).trans rfl; have fx3 := bF BX.out 3; have cx4 := (bC BX.out 4).trans rfl; have fx4 := bF BX.out 4) | (go_at_call 51; (with_reducible refine (cE.calls k1 F.f0 F.f1 F.f2 F.f3 _ _ F.f4 need more _ (Kd.C_below HC.out bel) HCC.out A1.out).mono ?_); rintro e w4 ⟨rfl, hb⟩; have BX' : Ae (w4.heap[gx]? = some (.cells #[.int .i64 F.f0, .int .i64 F.f1, .int .i64 F.f2, .string F.f3, .slice ac F.f4.length cc] 56 (0, 0))) := ⟨blk_below bt hb⟩; have n0_ := bb BP hb; have n1_ := bb B6 hb; have n2_ := bb B7 hb; have n3_ := bb BH hb; have n4_ := bes hb; clear BP B6 B7 BH BX HB hb c6 c7 cu cx0 cx1 cx2 cx3 cx4 fx0 fx1 fx2 fx3 fx4; have BP := n0_; have B6 := n1_; have B7 := n2_; have BH := n3_; have HB := n4_; have BX := BX'; clear n0_ n1_ n2_ n3_ n4_ BX'; have d0 : w4.cell? ⟨gx, 0, none⟩ = some (.int .i64 F.f0) := (bC BX.out 0).trans rfl; have d1 : w4.cell? ⟨gx, 1, none⟩ = some (.int .i64 F.f1) := (bC BX.out 1).trans rfl))
            go_roundg k1
            case measure => have := HK.out; omega
            case rel => exact ⟨wrap64 (i + 1), _, by first | rfl | (simp [hww]; done), HLEN, ⟨h⟩, ⟨by have := HK.out; omega⟩, ⟨bt⟩, ⟨bt⟩, ⟨bt⟩, ⟨bt⟩, ⟨bel⟩⟩
          rw [if_neg k16] at h
          have b16 : (F.f0 == 16) = false := beq_eq_false_iff_ne.mpr k16
          clear k16
          by_cases k17 : F.f0 = 17
          · rw [if_pos k17] at h
            have b17 : (F.f0 == 17) = true := beq_iff_eq.mpr k17
            clear k17
            obtain ⟨o, hr, h⟩ := Option.bind_eq_some_iff.mp h
            have R1 := Ae.mk hr
            clear hr
            cases o with
            | none =>
              simp only at h
              obtain ⟨e1, e2⟩ := Prod.mk.inj (Option.some.inj h)
              subst e1 e2
              clear h
              go_wp2_with (first | ((with_reducible refine gD (N := 11) rfl ?_); refine bE ?hg (N := 11) ?hd (cs := #[.int .i64 0, .int .i64 0, .int .i64 0, .string (⟨#[]⟩ : ByteArray), .slice none 0 0]) (t := 56) ?hr ?_; (case hd => rfl); (case hg => rfl); (case hr => first | (go_simp; done) | (go_simp; rfl)); intro gx hg w3 hbox hb; have GX := Ae.mk (bez hg : w.heap.size ≤ gx); have BX := Ae.mk hbox; have q1 := nlt BP hg; have q2 := nlt B6 hg; have q3 := nlt B7 hg; have q4 := nlt BH hg; have s1 := q1.symm; have s2 := q2.symm; have s3 := q3.symm; have s4 := q4.symm; have a1_ := Ae.mk q1; have a2_ := Ae.mk q2; have a3_ := Ae.mk q3; have a4_ := Ae.mk q4; have n0_ := bb BP hb; have n1_ := bb B6 hb; have n2_ := bb B7 hb; have n3_ := bb BH hb; have n4_ := bes hb; clear BP B6 B7 BH HB hb hbox hg c6 c7; have BP := n0_; have B6 := n1_; have B7 := n2_; have BH := n3_; have HB := n4_; clear n0_ n1_ n2_ n3_ n4_; have c6 : w3.cell? ⟨g6, 0, none⟩ = some (.slice (some ax) L.length c5) := (bC B6.out 0).trans rfl; have c7 : w3.cell? ⟨g7, 0, none⟩ = some (.slice (some ⟨gh, 0, none⟩) L.length L.length) := (bC B7.out 0).trans rfl; have cu : w3.cell? ⟨gh, i.toNat, none⟩ = some (.int .i64 u) := (bC BH.out i.toNat).trans hu; have cx0 := (bC BX.out 0).trans rfl; have fx0 := bF BX.out 0; have cx1 := (bC BX.out 1).trans rfl; have fx1 := bF BX.out 1; have cx2 := (bC BX.out 2).trans rfl; have fx2 := bF BX.out 2; have cx3 := (bC BX.out 3).trans rfl; have fx3 := bF BX.out 3; have cx4 := (bC BX.out 4).trans rfl; have fx4 := bF BX.out 4) | (go_at_call 51; (with_reducible refine (cE.calls k1 F.f0 F.f1 F.f2 F.f3 _ _ F.f4 need more _ (Kd.C_below HC.out bel) HCC.out A1.out).mono ?_); rintro e w4 ⟨rfl, hb⟩; have BX' : Ae (w4.heap[gx]? = some (.cells #[.int .i64 F.f0, .int .i64 F.f1, .int .i64 F.f2, .string F.f3, .slice ac F.f4.length cc] 56 (0, 0))) := ⟨blk_below bt hb⟩; have n0_ := bb BP hb; have n1_ := bb B6 hb; have n2_ := bb B7 hb; have n3_ := bb BH hb; have n4_ := bes hb; clear BP B6 B7 BH BX HB hb c6 c7 cu cx0 cx1 cx2 cx3 cx4 fx0 fx1 fx2 fx3 fx4; have BP := n0_; have B6 := n1_; have B7 := n2_; have BH := n3_; have HB := n4_; have BX := BX'; clear n0_ n1_ n2_ n3_ n4_ BX'; have d0 : w4.cell? ⟨gx, 0, none⟩ = some (.int .i64 F.f0) := (bC BX.out 0).trans rfl; have d1 : w4.cell? ⟨gx, 1, none⟩ = some (.int .i64 F.f1) := (bC BX.out 1).trans rfl) | (go_at_call 50; (with_reducible refine (reach_no g6 g7 gh (some ax) c5 L.length hs L.length HLEN.out F.f1 u _ ⟨bt⟩ ⟨bt⟩ BH R1.out).mono ?_); rintro e w5 ⟨rfl, rfl⟩))
              go_ret2
              exact ⟨_, rfl, Kd.R_nil _ _ _ _ _, bel⟩
            | some hs1 =>
              simp only at h
              go_wp2_with (first | ((with_reducible refine gD (N := 11) rfl ?_); refine bE ?hg (N := 11) ?hd (cs := #[.int .i64 0, .int .i64 0, .int .i64 0, .string (⟨#[]⟩ : ByteArray), .slice none 0 0]) (t := 56) ?hr ?_; (case hd => rfl); (case hg => rfl); (case hr => first | (go_simp; done) | (go_simp; rfl)); intro gx hg w3 hbox hb; have GX := Ae.mk (bez hg : w.heap.size ≤ gx); have BX := Ae.mk hbox; have q1 := nlt BP hg; have q2 := nlt B6 hg; have q3 := nlt B7 hg; have q4 := nlt BH hg; have s1 := q1.symm; have s2 := q2.symm; have s3 := q3.symm; have s4 := q4.symm; have a1_ := Ae.mk q1; have a2_ := Ae.mk q2; have a3_ := Ae.mk q3; have a4_ := Ae.mk q4; have n0_ := bb BP hb; have n1_ := bb B6 hb; have n2_ := bb B7 hb; have n3_ := bb BH hb; have n4_ := bes hb; clear BP B6 B7 BH HB hb hbox hg c6 c7; have BP := n0_; have B6 := n1_; have B7 := n2_; have BH := n3_; have HB := n4_; clear n0_ n1_ n2_ n3_ n4_; have c6 : w3.cell? ⟨g6, 0, none⟩ = some (.slice (some ax) L.length c5) := (bC B6.out 0).trans rfl; have c7 : w3.cell? ⟨g7, 0, none⟩ = some (.slice (some ⟨gh, 0, none⟩) L.length L.length) := (bC B7.out 0).trans rfl; have cu : w3.cell? ⟨gh, i.toNat, none⟩ = some (.int .i64 u) := (bC BH.out i.toNat).trans hu; have cx0 := (bC BX.out 0).trans rfl; have fx0 := bF BX.out 0; have cx1 := (bC BX.out 1).trans rfl; have fx1 := bF BX.out 1; have cx2 := (bC BX.out 2).trans rfl; have fx2 := bF BX.out 2; have cx3 := (bC BX.out 3).trans rfl; have fx3 := bF BX.out 3; have cx4 := (bC BX.out 4).trans rfl; have fx4 := bF BX.out 4) | (go_at_call 51; (with_reducible refine (cE.calls k1 F.f0 F.f1 F.f2 F.f3 _ _ F.f4 need more _ (Kd.C_below HC.out bel) HCC.out A1.out).mono ?_); rintro e w4 ⟨rfl, hb⟩; have BX' : Ae (w4.heap[gx]? = some (.cells #[.int .i64 F.f0, .int .i64 F.f1, .int .i64 F.f2, .string F.f3, .slice ac F.f4.length cc] 56 (0, 0))) := ⟨blk_below bt hb⟩; have n0_ := bb BP hb; have n1_ := bb B6 hb; have n2_ := bb B7 hb; have n3_ := bb BH hb; have n4_ := bes hb; clear BP B6 B7 BH BX HB hb c6 c7 cu cx0 cx1 cx2 cx3 cx4 fx0 fx1 fx2 fx3 fx4; have BP := n0_; have B6 := n1_; have B7 := n2_; have BH := n3_; have HB := n4_; have BX := BX'; clear n0_ n1_ n2_ n3_ n4_ BX'; have d0 : w4.cell? ⟨gx, 0, none⟩ = some (.int .i64 F.f0) := (bC BX.out 0).trans rfl; have d1 : w4.cell? ⟨gx, 1, none⟩ = some (.int .i64 F.f1) := (bC BX.out 1).trans rfl) | (go_at_call 50; (with_reducible refine (reach_yes g6 g7 gh (some ax) c5 L.length hs L.length HLEN.out F.f1 u _ ⟨bt⟩ ⟨bt⟩ BH hs1 R1.out).mono ?_); rintro e w5 ⟨rfl, rfl, BH1⟩))
              go_roundg k1
              case measure => have := HK.out; omega
              case rel => exact ⟨wrap64 (i + 1), _, by first | rfl | (simp [hww]; done), ⟨(reach1_len R1.out).trans HLEN.out⟩, ⟨h⟩, ⟨by have := HK.out; omega⟩, BH1, ⟨bt⟩, ⟨bt⟩, ⟨bt⟩, ⟨bel⟩⟩
          rw [if_neg k17] at h
          have b17 : (F.f0 == 17) = false := beq_eq_false_iff_ne.mpr k17
          clear k17
          obtain ⟨o, hr, h⟩ := Option.bind_eq_some_iff.mp h
          by_cases kb : F.f0 = 18 ∨ F.f0 = 15 ∨ F.f0 = 25
          · rw [if_pos kb] at hr
            have R1 := Ae.mk hr
            clear hr
            have kb' : ((F.f0 == 18) = true) ∨ ((F.f0 == 18) = false ∧ (F.f0 == 15) = true) ∨ ((F.f0 == 18) = false ∧ (F.f0 == 15) = false ∧ (F.f0 == 25) = true) := by rcases kb with k | k | k <;> rw [k] <;> simp
            clear kb
            cases o with
            | none =>
              simp only at h
              obtain ⟨e1, e2⟩ := Prod.mk.inj (Option.some.inj h)
              subst e1 e2
              clear h
              rcases kb' with k | ⟨k, kk⟩ | ⟨k, kk, kkk⟩
              all_goals go_wp2_with (first | ((with_reducible refine gD (N := 11) rfl ?_); refine bE ?hg (N := 11) ?hd (cs := #[.int .i64 0, .int .i64 0, .int .i64 0, .string (⟨#[]⟩ : ByteArray), .slice none 0 0]) (t := 56) ?hr ?_; (case hd => rfl); (case hg => rfl); (case hr => first | (go_simp; done) | (go_simp; rfl)); intro gx hg w3 hbox hb; have GX := Ae.mk (bez hg : w.heap.size ≤ gx); have BX := Ae.mk hbox; have q1 := nlt BP hg; have q2 := nlt B6 hg; have q3 := nlt B7 hg; have q4 := nlt BH hg; have s1 := q1.symm; have s2 := q2.symm; have s3 := q3.symm; have s4 := q4.symm; have a1_ := Ae.mk q1; have a2_ := Ae.mk q2; have a3_ := Ae.mk q3; have a4_ := Ae.mk q4; have n0_ := bb BP hb; have n1_ := bb B6 hb; have n2_ := bb B7 hb; have n3_ := bb BH hb; have n4_ := bes hb; clear BP B6 B7 BH HB hb hbox hg c6 c7; have BP := n0_; have B6 := n1_; have B7 := n2_; have BH := n3_; have HB := n4_; clear n0_ n1_ n2_ n3_ n4_; have c6 : w3.cell? ⟨g6, 0, none⟩ = some (.slice (some ax) L.length c5) := (bC B6.out 0).trans rfl; have c7 : w3.cell? ⟨g7, 0, none⟩ = some (.slice (some ⟨gh, 0, none⟩) L.length L.length) := (bC B7.out 0).trans rfl; have cu : w3.cell? ⟨gh, i.toNat, none⟩ = some (.int .i64 u) := (bC BH.out i.toNat).trans hu; have cx0 := (bC BX.out 0).trans rfl; have fx0 := bF BX.out 0; have cx1 := (bC BX.out 1).trans rfl; have fx1 := bF BX.out 1; have cx2 := (bC BX.out 2).trans rfl; have fx2 := bF BX.out 2; have cx3 := (bC BX.out 3).trans rfl; have fx3 := bF BX.out 3; have cx4 := (bC BX.out 4).trans rfl; have fx4 := bF BX.out 4) | (go_at_call 51; (with_reducible refine (cE.calls k1 F.f0 F.f1 F.f2 F.f3 _ _ F.f4 need more _ (Kd.C_below HC.out bel) HCC.out A1.out).mono ?_); rintro e w4 ⟨rfl, hb⟩; have BX' : Ae (w4.heap[gx]? = some (.cells #[.int .i64 F.f0, .int .i64 F.f1, .int .i64 F.f2, .string F.f3, .slice ac F.f4.length cc] 56 (0, 0))) := ⟨blk_below bt hb⟩; have n0_ := bb BP hb; have n1_ := bb B6 hb; have n2_ := bb B7 hb; have n3_ := bb BH hb; have n4_ := bes hb; clear BP B6 B7 BH BX HB hb c6 c7 cu cx0 cx1 cx2 cx3 cx4 fx0 fx1 fx2 fx3 fx4; have BP := n0_; have B6 := n1_; have B7 := n2_; have BH := n3_; have HB := n4_; have BX := BX'; clear n0_ n1_ n2_ n3_ n4_ BX'; have d0 : w4.cell? ⟨gx, 0, none⟩ = some (.int .i64 F.f0) := (bC BX.out 0).trans rfl; have d1 : w4.cell? ⟨gx, 1, none⟩ = some (.int .i64 F.f1) := (bC BX.out 1).trans rfl) | (go_at_call 50; (with_reducible refine (reach_no g6 g7 gh (some ax) c5 L.length hs L.length HLEN.out F.f1 (wrap64 (u + more)) _ ⟨bt⟩ ⟨bt⟩ BH R1.out).mono ?_); rintro e w5 ⟨rfl, rfl⟩))
              all_goals go_ret2
              all_goals exact ⟨_, rfl, Kd.R_nil _ _ _ _ _, bel⟩
            | some hs1 =>
              simp only at h
              obtain ⟨o, hr, h⟩ := Option.bind_eq_some_iff.mp h
              rw [hww] at hr
              have R2 := Ae.mk hr
              clear hr
              have HL1 := Ae.mk ((reach1_len R1.out).trans HLEN.out)
              cases o with
              | none =>
                simp only at h
                obtain ⟨e1, e2⟩ := Prod.mk.inj (Option.some.inj h)
                subst e1 e2
                clear h
                rcases kb' with k | ⟨k, kk⟩ | ⟨k, kk, kkk⟩
                all_goals go_wp2_with (first | ((with_reducible refine gD (N := 11) rfl ?_); refine bE ?hg (N := 11) ?hd (cs := #[.int .i64 0, .int .i64 0, .int .i64 0, .string (⟨#[]⟩ : ByteArray), .slice none 0 0]) (t := 56) ?hr ?_; (case hd => rfl); (case hg => rfl); (case hr => first | (go_simp; done) | (go_simp; rfl)); intro gx hg w3 hbox hb; have GX := Ae.mk (bez hg : w.heap.size ≤ gx); have BX := Ae.mk hbox; have q1 := nlt BP hg; have q2 := nlt B6 hg; have q3 := nlt B7 hg; have q4 := nlt BH hg; have s1 := q1.symm; have s2 := q2.symm; have s3 := q3.symm; have s4 := q4.symm; have a1_ := Ae.mk q1; have a2_ := Ae.mk q2; have a3_ := Ae.mk q3; have a4_ := Ae.mk q4; have n0_ := bb BP hb; have n1_ := bb B6 hb; have n2_ := bb B7 hb; have n3_ := bb BH hb; have n4_ := bes hb; clear BP B6 B7 BH HB hb hbox hg c6 c7; have BP := n0_; have B6 := n1_; have B7 := n2_; have BH := n3_; have HB := n4_; clear n0_ n1_ n2_ n3_ n4_; have c6 : w3.cell? ⟨g6, 0, none⟩ = some (.slice (some ax) L.length c5) := (bC B6.out 0).trans rfl; have c7 : w3.cell? ⟨g7, 0, none⟩ = some (.slice (some ⟨gh, 0, none⟩) L.length L.length) := (bC B7.out 0).trans rfl; have cu : w3.cell? ⟨gh, i.toNat, none⟩ = some (.int .i64 u) := (bC BH.out i.toNat).trans hu; have cx0 := (bC BX.out 0).trans rfl; have fx0 := bF BX.out 0; have cx1 := (bC BX.out 1).trans rfl; have fx1 := bF BX.out 1; have cx2 := (bC BX.out 2).trans rfl; have fx2 := bF BX.out 2; have cx3 := (bC BX.out 3).trans rfl; have fx3 := bF BX.out 3; have cx4 := (bC BX.out 4).trans rfl; have fx4 := bF BX.out 4) | (go_at_call 51; (with_reducible refine (cE.calls k1 F.f0 F.f1 F.f2 F.f3 _ _ F.f4 need more _ (Kd.C_below HC.out bel) HCC.out A1.out).mono ?_); rintro e w4 ⟨rfl, hb⟩; have BX' : Ae (w4.heap[gx]? = some (.cells #[.int .i64 F.f0, .int .i64 F.f1, .int .i64 F.f2, .string F.f3, .slice ac F.f4.length cc] 56 (0, 0))) := ⟨blk_below bt hb⟩; have n0_ := bb BP hb; have n1_ := bb B6 hb; have n2_ := bb B7 hb; have n3_ := bb BH hb; have n4_ := bes hb; clear BP B6 B7 BH BX HB hb c6 c7 cu cx0 cx1 cx2 cx3 cx4 fx0 fx1 fx2 fx3 fx4; have BP := n0_; have B6 := n1_; have B7 := n2_; have BH := n3_; have HB := n4_; have BX := BX'; clear n0_ n1_ n2_ n3_ n4_ BX'; have d0 : w4.cell? ⟨gx, 0, none⟩ = some (.int .i64 F.f0) := (bC BX.out 0).trans rfl; have d1 : w4.cell? ⟨gx, 1, none⟩ = some (.int .i64 F.f1) := (bC BX.out 1).trans rfl) | (go_at_call 50; (with_reducible refine (reach_yes g6 g7 gh (some ax) c5 L.length hs L.length HLEN.out F.f1 (wrap64 (u + more)) _ ⟨bt⟩ ⟨bt⟩ BH hs1 R1.out).mono ?_); rintro e w5 ⟨rfl, rfl, BH1⟩) | (go_at_call 50; (with_reducible refine (reach_no g6 g7 gh (some ax) c5 L.length hs1 L.length HL1.out (i + 1) (wrap64 (u + more)) _ ⟨bt⟩ ⟨bt⟩ BH1 R2.out).mono ?_); rintro e w5 ⟨rfl, rfl⟩))
                all_goals go_ret2
                all_goals exact ⟨_, rfl, Kd.R_nil _ _ _ _ _, bel⟩
              | some hs2 =>
                simp only at h
                rcases kb' with k | ⟨k, kk⟩ | ⟨k, kk, kkk⟩
                all_goals go_wp2_with (first | ((with_reducible refine gD (N := 11) rfl ?_); refine bE ?hg (N := 11) ?hd (cs := #[.int .i64 0, .int .i64 0, .int .i64 0, .string (⟨#[]⟩ : ByteArray), .slice none 0 0]) (t := 56) ?hr ?_; (case hd => rfl); (case hg => rfl); (case hr => first | (go_simp; done) | (go_simp; rfl)); intro gx hg w3 hbox hb; have GX := Ae.mk (bez hg : w.heap.size ≤ gx); have BX := Ae.mk hbox; have q1 := nlt BP hg; have q2 := nlt B6 hg; have q3 := nlt B7 hg; have q4 := nlt BH hg; have s1 := q1.symm; have s2 := q2.symm; have s3 := q3.symm; have s4 := q4.symm; have a1_ := Ae.mk q1; have a2_ := Ae.mk q2; have a3_ := Ae.mk q3; have a4_ := Ae.mk q4; have n0_ := bb BP hb; have n1_ := bb B6 hb; have n2_ := bb B7 hb; have n3_ := bb BH hb; have n4_ := bes hb; clear BP B6 B7 BH HB hb hbox hg c6 c7; have BP := n0_; have B6 := n1_; have B7 := n2_; have BH := n3_; have HB := n4_; clear n0_ n1_ n2_ n3_ n4_; have c6 : w3.cell? ⟨g6, 0, none⟩ = some (.slice (some ax) L.length c5) := (bC B6.out 0).trans rfl; have c7 : w3.cell? ⟨g7, 0, none⟩ = some (.slice (some ⟨gh, 0, none⟩) L.length L.length) := (bC B7.out 0).trans rfl; have cu : w3.cell? ⟨gh, i.toNat, none⟩ = some (.int .i64 u) := (bC BH.out i.toNat).trans hu; have cx0 := (bC BX.out 0).trans rfl; have fx0 := bF BX.out 0; have cx1 := (bC BX.out 1).trans rfl; have fx1 := bF BX.out 1; have cx2 := (bC BX.out 2).trans rfl; have fx2 := bF BX.out 2; have cx3 := (bC BX.out 3).trans rfl; have fx3 := bF BX.out 3; have cx4 := (bC BX.out 4).trans rfl; have fx4 := bF BX.out 4) | (go_at_call 51; (with_reducible refine (cE.calls k1 F.f0 F.f1 F.f2 F.f3 _ _ F.f4 need more _ (Kd.C_below HC.out bel) HCC.out A1.out).mono ?_); rintro e w4 ⟨rfl, hb⟩; have BX' : Ae (w4.heap[gx]? = some (.cells #[.int .i64 F.f0, .int .i64 F.f1, .int .i64 F.f2, .string F.f3, .slice ac F.f4.length cc] 56 (0, 0))) := ⟨blk_below bt hb⟩; have n0_ := bb BP hb; have n1_ := bb B6 hb; have n2_ := bb B7 hb; have n3_ := bb BH hb; have n4_ := bes hb; clear BP B6 B7 BH BX HB hb c6 c7 cu cx0 cx1 cx2 cx3 cx4 fx0 fx1 fx2 fx3 fx4; have BP := n0_; have B6 := n1_; have B7 := n2_; have BH := n3_; have HB := n4_; have BX := BX'; clear n0_ n1_ n2_ n3_ n4_ BX'; have d0 : w4.cell? ⟨gx, 0, none⟩ = some (.int .i64 F.f0) := (bC BX.out 0).trans rfl; have d1 : w4.cell? ⟨gx, 1, none⟩ = some (.int .i64 F.f1) := (bC BX.out 1).trans rfl) | (go_at_call 50; (with_reducible refine (reach_yes g6 g7 gh (some ax) c5 L.length hs L.length HLEN.out F.f1 (wrap64 (u + more)) _ ⟨bt⟩ ⟨bt⟩ BH hs1 R1.out).mono ?_); rintro e w5 ⟨rfl, rfl, BH1⟩) | (go_at_call 50; (with_reducible refine (reach_yes g6 g7 gh (some ax) c5 L.length hs1 L.length HL1.out (i + 1) (wrap64 (u + more)) _ ⟨bt⟩ ⟨bt⟩ BH1 hs2 R2.out).mono ?_); rintro e w6 ⟨rfl, rfl, BH2⟩))
                all_goals go_roundg k1
                all_goals first | (case measure => have := HK.out; omega) | skip
                all_goals exact ⟨wrap64 (i + 1), _, by first | rfl | (simp [hww]; done), ⟨(reach1_len R2.out).trans HL1.out⟩, ⟨h⟩, ⟨by have := HK.out; omega⟩, BH2, ⟨bt⟩, ⟨bt⟩, ⟨bt⟩, ⟨bel⟩⟩
          · rw [if_neg kb] at hr
            obtain rfl := Option.some.inj hr
            clear hr
            have k18 : (F.f0 == 18) = false := beq_eq_false_iff_ne.mpr (fun e => kb (.inl e))
            have k15 : (F.f0 == 15) = false := beq_eq_false_iff_ne.mpr (fun e => kb (.inr (.inl e)))
            have k25 : (F.f0 == 25) = false := beq_eq_false_iff_ne.mpr (fun e => kb (.inr (.inr e)))
            clear kb
            simp only at h
            obtain ⟨o, hr, h⟩ := Option.bind_eq_some_iff.mp h
            rw [hww] at hr
            have R2 := Ae.mk hr
            clear hr
            cases o with
            | none =>
              simp only at h
              obtain ⟨e1, e2⟩ := Prod.mk.inj (Option.some.inj h)
              subst e1 e2
              clear h
              go_wp2_with (first | ((with_reducible refine gD (N := 11) rfl ?_); refine bE ?hg (N := 11) ?hd (cs := #[.int .i64 0, .int .i64 0, .int .i64 0, .string (⟨#[]⟩ : ByteArray), .slice none 0 0]) (t := 56) ?hr ?_; (case hd => rfl); (case hg => rfl); (case hr => first | (go_simp; done) | (go_simp; rfl)); intro gx hg w3 hbox hb; have GX := Ae.mk (bez hg : w.heap.size ≤ gx); have BX := Ae.mk hbox; have q1 := nlt BP hg; have q2 := nlt B6 hg; have q3 := nlt B7 hg; have q4 := nlt BH hg; have s1 := q1.symm; have s2 := q2.symm; have s3 := q3.symm; have s4 := q4.symm; have a1_ := Ae.mk q1; have a2_ := Ae.mk q2; have a3_ := Ae.mk q3; have a4_ := Ae.mk q4; have n0_ := bb BP hb; have n1_ := bb B6 hb; have n2_ := bb B7 hb; have n3_ := bb BH hb; have n4_ := bes hb; clear BP B6 B7 BH HB hb hbox hg c6 c7; have BP := n0_; have B6 := n1_; have B7 := n2_; have BH := n3_; have HB := n4_; clear n0_ n1_ n2_ n3_ n4_; have c6 : w3.cell? ⟨g6, 0, none⟩ = some (.slice (some ax) L.length c5) := (bC B6.out 0).trans rfl; have c7 : w3.cell? ⟨g7, 0, none⟩ = some (.slice (some ⟨gh, 0, none⟩) L.length L.length) := (bC B7.out 0).trans rfl; have cu : w3.cell? ⟨gh, i.toNat, none⟩ = some (.int .i64 u) := (bC BH.out i.toNat).trans hu; have cx0 := (bC BX.out 0).trans rfl; have fx0 := bF BX.out 0; have cx1 := (bC BX.out 1).trans rfl; have fx1 := bF BX.out 1; have cx2 := (bC BX.out 2).trans rfl; have fx2 := bF BX.out 2; have cx3 := (bC BX.out 3).trans rfl; have fx3 := bF BX.out 3; have cx4 := (bC BX.out 4).trans rfl; have fx4 := bF BX.out 4) | (go_at_call 51; (with_reducible refine (cE.calls k1 F.f0 F.f1 F.f2 F.f3 _ _ F.f4 need more _ (Kd.C_below HC.out bel) HCC.out A1.out).mono ?_); rintro e w4 ⟨rfl, hb⟩; have BX' : Ae (w4.heap[gx]? = some (.cells #[.int .i64 F.f0, .int .i64 F.f1, .int .i64 F.f2, .string F.f3, .slice ac F.f4.length cc] 56 (0, 0))) := ⟨blk_below bt hb⟩; have n0_ := bb BP hb; have n1_ := bb B6 hb; have n2_ := bb B7 hb; have n3_ := bb BH hb; have n4_ := bes hb; clear BP B6 B7 BH BX HB hb c6 c7 cu cx0 cx1 cx2 cx3 cx4 fx0 fx1 fx2 fx3 fx4; have BP := n0_; have B6 := n1_; have B7 := n2_; have BH := n3_; have HB := n4_; have BX := BX'; clear n0_ n1_ n2_ n3_ n4_ BX'; have d0 : w4.cell? ⟨gx, 0, none⟩ = some (.int .i64 F.f0) := (bC BX.out 0).trans rfl; have d1 : w4.cell? ⟨gx, 1, none⟩ = some (.int .i64 F.f1) := (bC BX.out 1).trans rfl) | (go_at_call 50; (with_reducible refine (reach_no g6 g7 gh (some ax) c5 L.length hs L.length HLEN.out (i + 1) (wrap64 (u + more)) _ ⟨bt⟩ ⟨bt⟩ BH R2.out).mono ?_); rintro e w5 ⟨rfl, rfl⟩))
              go_ret2
              exact ⟨_, rfl, Kd.R_nil _ _ _ _ _, bel⟩
            | some hs2 =>
              simp only at h
              go_wp2_with (first | ((with_reducible refine gD (N := 11) rfl ?_); refine bE ?hg (N := 11) ?hd (cs := #[.int .i64 0, .int .i64 0, .int .i64 0, .string (⟨#[]⟩ : ByteArray), .slice none 0 0]) (t := 56) ?hr ?_; (case hd => rfl); (case hg => rfl); (case hr => first | (go_simp; done) | (go_simp; rfl)); intro gx hg w3 hbox hb; have GX := Ae.mk (bez hg : w.heap.size ≤ gx); have BX := Ae.mk hbox; have q1 := nlt BP hg; have q2 := nlt B6 hg; have q3 := nlt B7 hg; have q4 := nlt BH hg; have s1 := q1.symm; have s2 := q2.symm; have s3 := q3.symm; have s4 := q4.symm; have a1_ := Ae.mk q1; have a2_ := Ae.mk q2; have a3_ := Ae.mk q3; have a4_ := Ae.mk q4; have n0_ := bb BP hb; have n1_ := bb B6 hb; have n2_ := bb B7 hb; have n3_ := bb BH hb; have n4_ := bes hb; clear BP B6 B7 BH HB hb hbox hg c6 c7; have BP := n0_; have B6 := n1_; have B7 := n2_; have BH := n3_; have HB := n4_; clear n0_ n1_ n2_ n3_ n4_; have c6 : w3.cell? ⟨g6, 0, none⟩ = some (.slice (some ax) L.length c5) := (bC B6.out 0).trans rfl; have c7 : w3.cell? ⟨g7, 0, none⟩ = some (.slice (some ⟨gh, 0, none⟩) L.length L.length) := (bC B7.out 0).trans rfl; have cu : w3.cell? ⟨gh, i.toNat, none⟩ = some (.int .i64 u) := (bC BH.out i.toNat).trans hu; have cx0 := (bC BX.out 0).trans rfl; have fx0 := bF BX.out 0; have cx1 := (bC BX.out 1).trans rfl; have fx1 := bF BX.out 1; have cx2 := (bC BX.out 2).trans rfl; have fx2 := bF BX.out 2; have cx3 := (bC BX.out 3).trans rfl; have fx3 := bF BX.out 3; have cx4 := (bC BX.out 4).trans rfl; have fx4 := bF BX.out 4) | (go_at_call 51; (with_reducible refine (cE.calls k1 F.f0 F.f1 F.f2 F.f3 _ _ F.f4 need more _ (Kd.C_below HC.out bel) HCC.out A1.out).mono ?_); rintro e w4 ⟨rfl, hb⟩; have BX' : Ae (w4.heap[gx]? = some (.cells #[.int .i64 F.f0, .int .i64 F.f1, .int .i64 F.f2, .string F.f3, .slice ac F.f4.length cc] 56 (0, 0))) := ⟨blk_below bt hb⟩; have n0_ := bb BP hb; have n1_ := bb B6 hb; have n2_ := bb B7 hb; have n3_ := bb BH hb; have n4_ := bes hb; clear BP B6 B7 BH BX HB hb c6 c7 cu cx0 cx1 cx2 cx3 cx4 fx0 fx1 fx2 fx3 fx4; have BP := n0_; have B6 := n1_; have B7 := n2_; have BH := n3_; have HB := n4_; have BX := BX'; clear n0_ n1_ n2_ n3_ n4_ BX'; have d0 : w4.cell? ⟨gx, 0, none⟩ = some (.int .i64 F.f0) := (bC BX.out 0).trans rfl; have d1 : w4.cell? ⟨gx, 1, none⟩ = some (.int .i64 F.f1) := (bC BX.out 1).trans rfl) | (go_at_call 50; (with_reducible refine (reach_yes g6 g7 gh (some ax) c5 L.length hs L.length HLEN.out (i + 1) (wrap64 (u + more)) _ ⟨bt⟩ ⟨bt⟩ BH hs2 R2.out).mono ?_); rintro e w6 ⟨rfl, rfl, BH2⟩))
              go_roundg k1
              case measure => have := HK.out; omega
              case rel => exact ⟨wrap64 (i + 1), _, by first | rfl | (simp [hww]; done), ⟨(reach1_len R2.out).trans HLEN.out⟩, ⟨h⟩, ⟨by have := HK.out; omega⟩, BH2, ⟨bt⟩, ⟨bt⟩, ⟨bt⟩, ⟨bel⟩⟩
end Go.Proofs.YtlbcnacfgickcaaGreatDoor.A
