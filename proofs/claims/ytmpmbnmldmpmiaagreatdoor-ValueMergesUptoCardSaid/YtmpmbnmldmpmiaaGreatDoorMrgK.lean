/- The law ValueMerges. -/
import Derived.Test.YtmpmbnmldmpmiaaGreatDoorMrg
import Derived.Test.YtmpmbnmldmpmiaaGreatDoorOrderL
set_option linter.unusedVariables false
set_option linter.unusedSimpArgs false
set_option maxRecDepth 100000
namespace Go.Proofs.YtmpmbnmldmpmiaaGreatDoor.Sim
open Go Go.RowKit Go.Lib Go.Proofs.YtmpmbnmldmpmiaaGreatDoor.A Go.Proofs.YtmpmbnmldmpmiaaGreatDoorW.PrintWords Go.Proofs.YtmpmbnmldmpmiaaGreatDoorW.PrintLast Go.Proofs.YtmpmbnmldmpmiaaGreatDoorW.PrintMore
theorem getL_some {x : S27} (nx : (x.f4.map kd_).Nodup) {j : Nat} {k : ByteArray} {v : S27} (h4 : x.f4[j]? = some k) (h3 : x.f3[j]? = some v) : getL x k = (v, true) := by
  unfold getL
  rw [posL_some nx h4, if_neg (by omega), Int.toNat_natCast, h3]
  rfl
theorem cell_head {w : World} {k off : Nat} {cs : List Value} {u : Value} {r : List V} (hw : whole w k = some cs) (hx : List.take 5 (List.drop off (cs.map V.s)) = V.s u :: r) : cellT (whole w) k off = some u := by
  unfold cellT
  rw [hw]
  show cs[off]? = some u
  have h := congrArg (fun l => l[0]?) hx
  simp only [List.getElem?_cons_zero] at h
  rw [List.getElem?_take_of_lt (by omega), List.getElem?_drop, Nat.add_zero, List.getElem?_map] at h
  cases hc : cs[off]? with
  | none => rw [hc] at h; cases h
  | some c =>
    rw [hc] at h
    injection h with h
    injection h with h
    rw [h]
set_option maxHeartbeats 8000000 in
theorem merges_gv {v : World} {x y : S27} {ux uy : Value} (hx : Vr v x ux) (hy : Vr v y uy) (gx : GS 1048576 x) (gy : GS 1048576 y) (hT : Tab T (Bs.of v)) : Gv Tryz.prog 3 [ux, uy] v fun u _ => u = .bool true := by
  have rx := right_gv hx (gx.g (by omega))
  have ry := right_gv hy (gy.g (by omega))
  have hh := heads_gv hT
  have hh2 := fun v' (k : Known v v') => heads_gv (Tab_known hT k)
  cases hrx : rightV 10000 x with
  | false =>
    rw [hrx] at rx
    clear ry
    obtain ⟨A3, c3, A4, c4, rfl, h3, h4⟩ := hx
    obtain ⟨B3, d3, B4, d4, rfl, k3, k4⟩ := hy
    refine Gv.run Tryz.func3 (by kernel_rfl) rfl rfl rfl rfl fun b hb => ?_
    subst hb
    clear h3 h4 k3 k4 hT hh2
    first | refine WpB.row (by decide) (by decide) (ev ?_) | refine WpB.seq (WpB.row (by decide) (by decide) (ev ?_)) | refine WpB.seq (WpB.seq (WpB.row (by decide) (by decide) (ev ?_))) | refine WpB.seq (WpB.seq (WpB.seq (WpB.row (by decide) (by decide) (ev ?_))))
    first | refine WpB.row (by decide) (by decide) (evh ?_) | refine WpB.seq (WpB.row (by decide) (by decide) (evh ?_)) | refine WpB.seq (WpB.seq (WpB.row (by decide) (by decide) (evh ?_))) | refine WpB.seq (WpB.seq (WpB.seq (WpB.row (by decide) (by decide) (evh ?_))))
    refine SeqB.callQ (by decide) (rx.okx _) (by decide) rfl rfl rfl rfl ?_
    rintro u S' ⟨rfl, rfl⟩ _
    refine evh ?_
    first | refine WpB.cond (by decide) rfl (fun _ => ?_) (fun e => by cases e) | refine WpB.seq (WpB.cond (by decide) rfl (fun _ => ?_) (fun e => by cases e)) | refine WpB.seq (WpB.seq (WpB.cond (by decide) rfl (fun _ => ?_) (fun e => by cases e))) | refine WpB.seq (WpB.seq (WpB.seq (WpB.cond (by decide) rfl (fun _ => ?_) (fun e => by cases e))))
    first | refine WpB.row (by decide) (by decide) (evh ?_) | refine WpB.seq (WpB.row (by decide) (by decide) (evh ?_)) | refine WpB.seq (WpB.seq (WpB.row (by decide) (by decide) (evh ?_))) | refine WpB.seq (WpB.seq (WpB.seq (WpB.row (by decide) (by decide) (evh ?_))))
    refine SeqB.callQ (by decide) (hh.okx _) (by decide) rfl rfl rfl rfl ?_
    rintro u S' ⟨rfl, rfl⟩ _
    refine evh ?_
    refine WpB.ret ⟨.inr rfl, evr ?_⟩
    trivial
  | true =>
  rw [hrx] at rx
  cases hry : rightV 10000 y with
  | false =>
    rw [hry] at ry
    obtain ⟨A3, c3, A4, c4, rfl, h3, h4⟩ := hx
    obtain ⟨B3, d3, B4, d4, rfl, k3, k4⟩ := hy
    refine Gv.run Tryz.func3 (by kernel_rfl) rfl rfl rfl rfl fun b hb => ?_
    subst hb
    clear h3 h4 k3 k4 hT hh2
    first | refine WpB.row (by decide) (by decide) (ev ?_) | refine WpB.seq (WpB.row (by decide) (by decide) (ev ?_)) | refine WpB.seq (WpB.seq (WpB.row (by decide) (by decide) (ev ?_))) | refine WpB.seq (WpB.seq (WpB.seq (WpB.row (by decide) (by decide) (ev ?_))))
    first | refine WpB.row (by decide) (by decide) (evh ?_) | refine WpB.seq (WpB.row (by decide) (by decide) (evh ?_)) | refine WpB.seq (WpB.seq (WpB.row (by decide) (by decide) (evh ?_))) | refine WpB.seq (WpB.seq (WpB.seq (WpB.row (by decide) (by decide) (evh ?_))))
    refine SeqB.callQ (by decide) (rx.okx _) (by decide) rfl rfl rfl rfl ?_
    rintro u S' ⟨rfl, rfl⟩ _
    refine evh ?_
    refine SeqB.callQ (by decide) (ry.okx _) (by decide) rfl rfl rfl rfl ?_
    rintro u S' ⟨rfl, rfl⟩ _
    refine evh ?_
    first | refine WpB.cond (by decide) rfl (fun _ => ?_) (fun e => by cases e) | refine WpB.seq (WpB.cond (by decide) rfl (fun _ => ?_) (fun e => by cases e)) | refine WpB.seq (WpB.seq (WpB.cond (by decide) rfl (fun _ => ?_) (fun e => by cases e))) | refine WpB.seq (WpB.seq (WpB.seq (WpB.cond (by decide) rfl (fun _ => ?_) (fun e => by cases e))))
    first | refine WpB.row (by decide) (by decide) (evh ?_) | refine WpB.seq (WpB.row (by decide) (by decide) (evh ?_)) | refine WpB.seq (WpB.seq (WpB.row (by decide) (by decide) (evh ?_))) | refine WpB.seq (WpB.seq (WpB.seq (WpB.row (by decide) (by decide) (evh ?_))))
    refine SeqB.callQ (by decide) (hh.okx _) (by decide) rfl rfl rfl rfl ?_
    rintro u S' ⟨rfl, rfl⟩ _
    refine evh ?_
    refine WpB.ret ⟨.inr rfl, evr ?_⟩
    trivial
  | true =>
  rw [hry] at ry
  by_cases e6 : x.f0 = 6
  rotate_left
  · have q1 : (x.f0 != 6) = true := by simpa using e6
    obtain ⟨A3, c3, A4, c4, rfl, h3, h4⟩ := hx
    obtain ⟨B3, d3, B4, d4, rfl, k3, k4⟩ := hy
    refine Gv.run Tryz.func3 (by kernel_rfl) rfl rfl rfl rfl fun b hb => ?_
    subst hb
    clear h3 h4 k3 k4 hT hh2 e6
    first | refine WpB.row (by decide) (by decide) (ev ?_) | refine WpB.seq (WpB.row (by decide) (by decide) (ev ?_)) | refine WpB.seq (WpB.seq (WpB.row (by decide) (by decide) (ev ?_))) | refine WpB.seq (WpB.seq (WpB.seq (WpB.row (by decide) (by decide) (ev ?_))))
    first | refine WpB.row (by decide) (by decide) (evh ?_) | refine WpB.seq (WpB.row (by decide) (by decide) (evh ?_)) | refine WpB.seq (WpB.seq (WpB.row (by decide) (by decide) (evh ?_))) | refine WpB.seq (WpB.seq (WpB.seq (WpB.row (by decide) (by decide) (evh ?_))))
    refine SeqB.callQ (by decide) (rx.okx _) (by decide) rfl rfl rfl rfl ?_
    rintro u S' ⟨rfl, rfl⟩ _
    refine evh ?_
    refine SeqB.callQ (by decide) (ry.okx _) (by decide) rfl rfl rfl rfl ?_
    rintro u S' ⟨rfl, rfl⟩ _
    refine evh ?_
    first | refine WpB.cond (by decide) rfl (fun _ => ?_) (fun e => by cases e) | refine WpB.seq (WpB.cond (by decide) rfl (fun _ => ?_) (fun e => by cases e)) | refine WpB.seq (WpB.seq (WpB.cond (by decide) rfl (fun _ => ?_) (fun e => by cases e))) | refine WpB.seq (WpB.seq (WpB.seq (WpB.cond (by decide) rfl (fun _ => ?_) (fun e => by cases e))))
    first | refine WpB.row (by decide) (by decide) (evh ?_) | refine WpB.seq (WpB.row (by decide) (by decide) (evh ?_)) | refine WpB.seq (WpB.seq (WpB.row (by decide) (by decide) (evh ?_))) | refine WpB.seq (WpB.seq (WpB.seq (WpB.row (by decide) (by decide) (evh ?_))))
    refine SeqB.callQ (by decide) (hh.okx _) (by decide) rfl rfl rfl rfl ?_
    rintro u S' ⟨rfl, rfl⟩ _
    refine evh ?_
    refine WpB.ret ⟨.inr rfl, evr ?_⟩
    trivial
  have q1 : (x.f0 != 6) = false := by simpa using e6
  by_cases e7 : y.f0 = 6
  rotate_left
  · have q2 : (y.f0 != 6) = true := by simpa using e7
    obtain ⟨A3, c3, A4, c4, rfl, h3, h4⟩ := hx
    obtain ⟨B3, d3, B4, d4, rfl, k3, k4⟩ := hy
    refine Gv.run Tryz.func3 (by kernel_rfl) rfl rfl rfl rfl fun b hb => ?_
    subst hb
    clear h3 h4 k3 k4 hT hh2 e6 e7
    first | refine WpB.row (by decide) (by decide) (ev ?_) | refine WpB.seq (WpB.row (by decide) (by decide) (ev ?_)) | refine WpB.seq (WpB.seq (WpB.row (by decide) (by decide) (ev ?_))) | refine WpB.seq (WpB.seq (WpB.seq (WpB.row (by decide) (by decide) (ev ?_))))
    first | refine WpB.row (by decide) (by decide) (evh ?_) | refine WpB.seq (WpB.row (by decide) (by decide) (evh ?_)) | refine WpB.seq (WpB.seq (WpB.row (by decide) (by decide) (evh ?_))) | refine WpB.seq (WpB.seq (WpB.seq (WpB.row (by decide) (by decide) (evh ?_))))
    refine SeqB.callQ (by decide) (rx.okx _) (by decide) rfl rfl rfl rfl ?_
    rintro u S' ⟨rfl, rfl⟩ _
    refine evh ?_
    refine SeqB.callQ (by decide) (ry.okx _) (by decide) rfl rfl rfl rfl ?_
    rintro u S' ⟨rfl, rfl⟩ _
    refine evh ?_
    first | refine WpB.cond (by decide) rfl (fun _ => ?_) (fun e => by cases e) | refine WpB.seq (WpB.cond (by decide) rfl (fun _ => ?_) (fun e => by cases e)) | refine WpB.seq (WpB.seq (WpB.cond (by decide) rfl (fun _ => ?_) (fun e => by cases e))) | refine WpB.seq (WpB.seq (WpB.seq (WpB.cond (by decide) rfl (fun _ => ?_) (fun e => by cases e))))
    first | refine WpB.row (by decide) (by decide) (evh ?_) | refine WpB.seq (WpB.row (by decide) (by decide) (evh ?_)) | refine WpB.seq (WpB.seq (WpB.row (by decide) (by decide) (evh ?_))) | refine WpB.seq (WpB.seq (WpB.seq (WpB.row (by decide) (by decide) (evh ?_))))
    refine SeqB.callQ (by decide) (hh.okx _) (by decide) rfl rfl rfl rfl ?_
    rintro u S' ⟨rfl, rfl⟩ _
    refine evh ?_
    refine WpB.ret ⟨.inr rfl, evr ?_⟩
    trivial
  have q2 : (y.f0 != 6) = false := by simpa using e7
  have fx := rightV_open (d := 9999) hrx
  have fy := rightV_open (d := 9999) hry
  have lx := fx.keys e6
  have ly := fy.keys e7
  have glx := gx.len
  have gly := gy.len
  have hm1 := fun v' (k : Known v v') => merged_gv (f := deepV 9999) (hx.up k) (hy.up k) lx fx.apart ly fy.apart (by omega) (fun z hz w hw v' uz uw => deep_gv (B := 1048576) (C := 1048576) (by omega) 9999 z w (gx.kids z hz) (gy.kids w hw) (fx.kids z hz) (fy.kids w hw) v' uz uw)
  have gm : GS 2097152 (mergeV (deepV 9999) x y) := GS.merge (B := 1048576) (C := 1048576) lx fx.apart ly fy.apart gx gy fun a ha b hb => GS.deep 9999 a b (gx.kids a ha) (gy.kids b hb) (fx.kids a ha) (fy.kids b hb)
  have rm : rightV 10000 (mergeV (deepV 9999) x y) = true := merge_right (n := 9999) hrx hry e6 e7 fun a ha b hb => deep_right 9999 a b (fx.kids a ha) (fy.kids b hb)
  have fm := rightV_open (d := 9999) rm
  have again : mergeV (deepV 9999) (mergeV (deepV 9999) x y) y = mergeV (deepV 9999) x y := merge_again lx fx.apart ly fy.apart (fun a ha b hb => deep_again 9999 a b (fx.kids a ha) (fy.kids b hb)) fun b hb => deep_self 9999 b (fy.kids b hb)
  have lm := fm.keys rfl
  have glm := gm.len
  have hm2 := fun v' u (h : Vr v' (mergeV (deepV 9999) x y) u) (k : Known v v') => merged_gv (f := deepV 9999) h (hy.up k) lm fm.apart ly fy.apart (by omega) (fun z hz w hw v' uz uw => deep_gv (B := 2097152) (C := 1048576) (by omega) 9999 z w (gm.kids z hz) (gy.kids w hw) (fm.kids z hz) (fy.kids w hw) v' uz uw)
  rw [again] at hm2
  have g1 : ∀ (i : Nat) (k : ByteArray) (w : S27), y.f4[i]? = some k → y.f3[i]? = some w → (getL (mergeV (deepV 9999) x y) k).2 = true ∧ (w.f0 ≠ 6 ∨ (getL x k).1.f0 ≠ 6 → (getL (mergeV (deepV 9999) x y) k).1 = w) := by
    intro i k w hk hw
    obtain ⟨j, g1, g2⟩ := merge_get lx fx.apart ly fy.apart (f := deepV 9999) hk hw
    rw [getL_some fm.apart g1 g2]
    refine ⟨rfl, fun h => ?_⟩
    show mval (deepV 9999) x k w = w
    unfold mval
    rcases posL_cases k x.f4 0 with ⟨p1, p2⟩ | ⟨t, p1, p2, p3, p4⟩
    · rw [p1, if_pos (by omega)]
    · rw [p1, if_neg (by omega), Nat.zero_add, Int.toNat_natCast]
      have ht3 : t < x.f3.length := by omega
      rw [getL_some fx.apart (j := t) (v := x.f3[t]) (by rw [List.getElem?_eq_getElem p2, p3]) (List.getElem?_eq_getElem ht3)] at h
      rw [List.getElem?_eq_getElem ht3]
      show deepV 9999 x.f3[t] w = w
      rw [show (9999 : Nat) = 9998 + 1 from rfl, deepV, if_neg]
      intro h2
      rcases h with h | h
      · exact h h2.2
      · exact h h2.1
  have g2 : ∀ (j : Nat) (k : ByteArray) (w : S27), x.f4[j]? = some k → x.f3[j]? = some w → (getL (mergeV (deepV 9999) x y) k).2 = true ∧ ((getL y k).2 = false → (getL (mergeV (deepV 9999) x y) k).1 = w) := by
    intro j k w hk hw
    obtain ⟨h1, h2⟩ := merge_old lx fx.apart ly fy.apart (f := deepV 9999) hk
    have hj3 : j < (mergeV (deepV 9999) x y).f3.length := by rw [← lm]; exact (List.getElem?_eq_some_iff.1 h1).1
    rw [getL_some fm.apart h1 (List.getElem?_eq_getElem hj3)]
    refine ⟨rfl, fun hb => ?_⟩
    have hn : k ∉ y.f4 := by
      intro hm
      obtain ⟨t, ht, e⟩ := List.mem_iff_getElem.1 hm
      rw [getL_some fy.apart (j := t) (v := y.f3[t]'(by omega)) (by rw [List.getElem?_eq_getElem ht, e]) (List.getElem?_eq_getElem (by omega))] at hb
      cases hb
    have h3 := h2 hn
    rw [hw, List.getElem?_eq_getElem hj3] at h3
    injection h3
  obtain ⟨q, hlg⟩ := large_gv (gm.g (by omega))
  have ht1 := fun v' (k : Known v v') => times_gv (hx.up k) (hy.up k) e6 e7 (hm1 v' k) hlg
  have ht2 := fun v' u (h : Vr v' (mergeV (deepV 9999) x y) u) (k : Known v v') => times_gv h (hy.up k) rfl e7 (hm2 v' u h k) hlg
  have hgm := fun v' u (h : Vr v' (mergeV (deepV 9999) x y) u) => get_ex h (by rw [lm]; exact Nat.le_refl _)
  have hgx := fun v' (k : Known v v') => get_ex (hx.up k) (by rw [lx]; exact Nat.le_refl _)
  have hgy := fun v' (k : Known v v') => get_ex (hy.up k) (by rw [ly]; exact Nat.le_refl _)
  generalize mergeV (deepV 9999) x y = m at *
  clear hm1 hm2 gm rm fm again lm glm hlg gx gy e6 e7
  have LX := Hide.mk lx
  have LY := Hide.mk ly
  have G1 := Hide.mk g1
  have G2 := Hide.mk g2
  have GLX := Hide.mk glx
  have GLY := Hide.mk gly
  clear lx ly g1 g2 fx fy glx gly
  have sbig : (tooBig.toList == tooBig.toList) = true := by simp
  unfold tooBig at sbig
  cases q with
  | true =>
    have ht := ht1 v (Known.refl v)
    clear ht1 ht2 hgm hgx hgy
    obtain ⟨A3, c3, A4, c4, rfl, h3, h4⟩ := hx
    obtain ⟨B3, d3, B4, d4, rfl, k3, k4⟩ := hy
    refine Gv.run Tryz.func3 (by kernel_rfl) rfl rfl rfl rfl fun b hb => ?_
    subst hb
    clear h3 h4 k3 k4 hT hh
    first | refine WpB.row (by decide) (by decide) (ev ?_) | refine WpB.seq (WpB.row (by decide) (by decide) (ev ?_)) | refine WpB.seq (WpB.seq (WpB.row (by decide) (by decide) (ev ?_))) | refine WpB.seq (WpB.seq (WpB.seq (WpB.row (by decide) (by decide) (ev ?_))))
    first | refine WpB.row (by decide) (by decide) (evh ?_) | refine WpB.seq (WpB.row (by decide) (by decide) (evh ?_)) | refine WpB.seq (WpB.seq (WpB.row (by decide) (by decide) (evh ?_))) | refine WpB.seq (WpB.seq (WpB.seq (WpB.row (by decide) (by decide) (evh ?_))))
    refine SeqB.callQ (by decide) (rx.okx _) (by decide) rfl rfl rfl rfl ?_
    rintro u S' ⟨rfl, rfl⟩ _
    refine evh ?_
    refine SeqB.callQ (by decide) (ry.okx _) (by decide) rfl rfl rfl rfl ?_
    rintro u S' ⟨rfl, rfl⟩ _
    refine evh ?_
    first | refine WpB.cond (by decide) rfl (fun e => by cases e) (fun _ => WpB.skip ?_) | refine WpB.seq (WpB.cond (by decide) rfl (fun e => by cases e) (fun _ => WpB.skip ?_)) | refine WpB.seq (WpB.seq (WpB.cond (by decide) rfl (fun e => by cases e) (fun _ => WpB.skip ?_))) | refine WpB.seq (WpB.seq (WpB.seq (WpB.cond (by decide) rfl (fun e => by cases e) (fun _ => WpB.skip ?_))))
    first | refine WpB.row (by decide) (by decide) (evh ?_) | refine WpB.seq (WpB.row (by decide) (by decide) (evh ?_)) | refine WpB.seq (WpB.seq (WpB.row (by decide) (by decide) (evh ?_))) | refine WpB.seq (WpB.seq (WpB.seq (WpB.row (by decide) (by decide) (evh ?_))))
    refine SeqB.callV (by decide) (ht) (by decide) rfl rfl rfl rfl ?_
    rintro u v1 hu hk1
    rw [if_pos rfl] at hu
    subst hu
    unfold zvV strErr tooBig
    refine evh ?_
    first | refine WpB.row (by decide) (by decide) (evh ?_) | refine WpB.seq (WpB.row (by decide) (by decide) (evh ?_)) | refine WpB.seq (WpB.seq (WpB.row (by decide) (by decide) (evh ?_))) | refine WpB.seq (WpB.seq (WpB.seq (WpB.row (by decide) (by decide) (evh ?_))))
    first | refine WpB.cond (by decide) rfl (fun _ => ?_) (fun e => by cases e) | refine WpB.seq (WpB.cond (by decide) rfl (fun _ => ?_) (fun e => by cases e)) | refine WpB.seq (WpB.seq (WpB.cond (by decide) rfl (fun _ => ?_) (fun e => by cases e))) | refine WpB.seq (WpB.seq (WpB.seq (WpB.cond (by decide) rfl (fun _ => ?_) (fun e => by cases e))))
    first | refine WpB.row (by decide) (by decide) (evh ?_) | refine WpB.seq (WpB.row (by decide) (by decide) (evh ?_)) | refine WpB.seq (WpB.seq (WpB.row (by decide) (by decide) (evh ?_))) | refine WpB.seq (WpB.seq (WpB.seq (WpB.row (by decide) (by decide) (evh ?_))))
    refine SeqB.callQ (by decide) ((hh2 _ hk1).okx _) (by decide) rfl rfl rfl rfl ?_
    rintro u S' ⟨rfl, rfl⟩ _
    refine evh ?_
    refine WpB.ret ⟨.inr rfl, evr ?_⟩
    trivial
  | false =>
    have ht := ht1 v (Known.refl v)
    have vx := hx
    have vy := hy
    clear ht1
    obtain ⟨A3, c3, A4, c4, rfl, h3, h4⟩ := hx
    obtain ⟨B3, d3, B4, d4, rfl, k3, k4⟩ := hy
    refine Gv.run Tryz.func3 (by kernel_rfl) rfl rfl rfl rfl fun b hb => ?_
    subst hb
    clear hT hh
    first | refine WpB.row (by decide) (by decide) (ev ?_) | refine WpB.seq (WpB.row (by decide) (by decide) (ev ?_)) | refine WpB.seq (WpB.seq (WpB.row (by decide) (by decide) (ev ?_))) | refine WpB.seq (WpB.seq (WpB.seq (WpB.row (by decide) (by decide) (ev ?_))))
    first | refine WpB.row (by decide) (by decide) (evh ?_) | refine WpB.seq (WpB.row (by decide) (by decide) (evh ?_)) | refine WpB.seq (WpB.seq (WpB.row (by decide) (by decide) (evh ?_))) | refine WpB.seq (WpB.seq (WpB.seq (WpB.row (by decide) (by decide) (evh ?_))))
    refine SeqB.callQ (by decide) (rx.okx _) (by decide) rfl rfl rfl rfl ?_
    rintro u S' ⟨rfl, rfl⟩ _
    refine evh ?_
    refine SeqB.callQ (by decide) (ry.okx _) (by decide) rfl rfl rfl rfl ?_
    rintro u S' ⟨rfl, rfl⟩ _
    refine evh ?_
    first | refine WpB.cond (by decide) rfl (fun e => by cases e) (fun _ => WpB.skip ?_) | refine WpB.seq (WpB.cond (by decide) rfl (fun e => by cases e) (fun _ => WpB.skip ?_)) | refine WpB.seq (WpB.seq (WpB.cond (by decide) rfl (fun e => by cases e) (fun _ => WpB.skip ?_))) | refine WpB.seq (WpB.seq (WpB.seq (WpB.cond (by decide) rfl (fun e => by cases e) (fun _ => WpB.skip ?_))))
    first | refine WpB.row (by decide) (by decide) (evh ?_) | refine WpB.seq (WpB.row (by decide) (by decide) (evh ?_)) | refine WpB.seq (WpB.seq (WpB.row (by decide) (by decide) (evh ?_))) | refine WpB.seq (WpB.seq (WpB.seq (WpB.row (by decide) (by decide) (evh ?_))))
    refine SeqB.callV (by decide) (ht) (by decide) rfl rfl rfl rfl ?_
    rintro u v1 hu hk1
    rw [if_neg (by simp)] at hu
    obtain ⟨um, hum, rfl⟩ := hu
    have hvm := hum
    obtain ⟨Q3, q3, Q4, q4, rfl, m3, m4⟩ := hum
    unfold noErr
    refine evh ?_
    first | refine WpB.row (by decide) (by decide) (evh ?_) | refine WpB.seq (WpB.row (by decide) (by decide) (evh ?_)) | refine WpB.seq (WpB.seq (WpB.row (by decide) (by decide) (evh ?_))) | refine WpB.seq (WpB.seq (WpB.seq (WpB.row (by decide) (by decide) (evh ?_))))
    first | refine WpB.cond (by decide) rfl (fun e => by cases e) (fun _ => WpB.skip ?_) | refine WpB.seq (WpB.cond (by decide) rfl (fun e => by cases e) (fun _ => WpB.skip ?_)) | refine WpB.seq (WpB.seq (WpB.cond (by decide) rfl (fun e => by cases e) (fun _ => WpB.skip ?_))) | refine WpB.seq (WpB.seq (WpB.seq (WpB.cond (by decide) rfl (fun e => by cases e) (fun _ => WpB.skip ?_))))
    first | refine WpB.row (by decide) (by decide) (evh ?_) | refine WpB.seq (WpB.row (by decide) (by decide) (evh ?_)) | refine WpB.seq (WpB.seq (WpB.row (by decide) (by decide) (evh ?_))) | refine WpB.seq (WpB.seq (WpB.seq (WpB.row (by decide) (by decide) (evh ?_))))
    first | refine WpB.block ?_ | refine WpB.seq (WpB.block ?_) | refine WpB.seq (WpB.seq (WpB.block ?_)) | refine WpB.seq (WpB.seq (WpB.seq (WpB.block ?_)))
    refine WpB.forget (S2 := ⟨[(3, .row [.s (.bool false), .s (.int .i64 0), .s (.float .f64 0), .s (.string (⟨#[]⟩ : ByteArray)), .s (.slice none 0 0), .s (.slice none 0 0)] 31 none .no), (2, .row [.s (.int .i64 m.f0), .s (.float .f64 m.f1), .s (.string m.f2), .s (.slice Q3 m.f3.length q3), .s (.slice Q4 m.f4.length q4)] 27 none .no), (1, .row [.s (.int .i64 y.f0), .s (.float .f64 y.f1), .s (.string y.f2), .s (.slice B3 y.f3.length d3), .s (.slice B4 y.f4.length d4)] 27 none .no), (0, .row [.s (.int .i64 x.f0), .s (.float .f64 x.f1), .s (.string x.f2), .s (.slice A3 x.f3.length c3), .s (.slice A4 x.f4.length c4)] 27 none .no)], _, 0⟩) find_same rfl ?_
    refine WpB.loop (fun mm b' F S => ∃ (i N : Nat), b' = ⟨b.w, v1⟩ ∧ S = ⟨[(3, .row [.s (.bool false), .s (.int .i64 0), .s (.float .f64 0), .s (.string (⟨#[]⟩ : ByteArray)), .s (.slice none 0 0), .s (.slice none 0 0)] 31 none .no), (2, .row [.s (.int .i64 m.f0), .s (.float .f64 m.f1), .s (.string m.f2), .s (.slice Q3 m.f3.length q3), .s (.slice Q4 m.f4.length q4)] 27 none .no), (1, .row [.s (.int .i64 y.f0), .s (.float .f64 y.f1), .s (.string y.f2), .s (.slice B3 y.f3.length d3), .s (.slice B4 y.f4.length d4)] 27 none .no), (0, .row [.s (.int .i64 x.f0), .s (.float .f64 x.f1), .s (.string x.f2), .s (.slice A3 x.f3.length c3), .s (.slice A4 x.f4.length c4)] 27 none .no)], N, 0⟩ ∧ 4 ≤ N ∧ F 2 = .ptr 0 0 ∧ F 3 = .ptr 1 0 ∧ F 5 = .ptr 2 0 ∧ F 7 = .s (.int .i64 (i : Int)) ∧ i ≤ y.f4.length ∧ mm = y.f4.length - i) y.f4.length ⟨0, 4, rfl, rfl, Nat.le_refl _, rfl, rfl, rfl, rfl, Nat.zero_le _, rfl⟩ ?_
    rintro mm b' F S ⟨i, N, rfl, rfl, hN, f2, f3, f5, f7, hi, rfl⟩
    have hmy : y.f4.length ≤ 9223372036854775807 := k4.1.2.1
    by_cases hlt : i < y.f4.length
    · have hlt3 : i < y.f3.length := by rw [← LY.out]; exact hlt
      obtain ⟨kk, off, hB4, x1⟩ := (k4.up hk1).get hlt
      obtain ⟨k2, off2, cs2, S3, s3, S4, s4, hB3, hw2, hx2, w3, w4⟩ := (k3.up hk1).get hlt3
      subst hB4 hB3
      have hk0 := cell_head hw2 hx2
      have g0 : (0 : Int) ≤ (i : Int) := by omega
      have g1 : (i : Int) < (y.f4.length : Int) := by omega
      have g2 : (i : Int) < (y.f3.length : Int) := by omega
      have d7 : IntKind.i64.wrap ((i : Int) + 1) = ((i + 1 : Nat) : Int) := by rw [IntKind.wrap_i64]; omega
      obtain ⟨o1, o2⟩ := G1.out i _ _ (List.getElem?_eq_getElem hlt) (List.getElem?_eq_getElem hlt3)
      obtain ⟨ua, hua, hca⟩ := hgm v1 _ hvm y.f4[i]
      obtain ⟨ub, hub, hcb⟩ := hgx v1 hk1 y.f4[i]
      rw [o1] at hca
      have hwi : Hide (Vr v1 y.f3[i] _) := Hide.mk ⟨S3, s3, S4, s4, rfl, w3, w4⟩
      have hua2 := Hide.mk hua
      have O2 := Hide.mk o2
      clear o1 o2
      generalize y.f4[i] = key at *
      generalize y.f3[i] = wi at *
      generalize (getL m key).1 = ma at *
      generalize (getL x key).1 = xa at *
      generalize (getL x key).2 = xb at *
      obtain ⟨P3, p3, P4, p4, rfl, _, _⟩ := hua
      obtain ⟨R3, r3, R4, r4, rfl, _, _⟩ := hub
      have w0 : ¬ N ≤ 3 := by omega
      have w1 : ¬ N = 3 := by omega
      have w2 : ¬ 3 = N := by omega
      have w3 : ¬ N ≤ 2 := by omega
      have w4 : ¬ N = 2 := by omega
      have w5 : ¬ 2 = N := by omega
      have w6 : ¬ N ≤ 1 := by omega
      have w7 : ¬ N = 1 := by omega
      have w8 : ¬ 1 = N := by omega
      have w9 : ¬ N ≤ 0 := by omega
      have w10 : ¬ N = 0 := by omega
      have w11 : ¬ 0 = N := by omega
      have w12 : 0 ≤ N := by omega
      first | refine WpB.row (by decide) (by decide) (evh ?_) | refine WpB.seq (WpB.row (by decide) (by decide) (evh ?_)) | refine WpB.seq (WpB.seq (WpB.row (by decide) (by decide) (evh ?_))) | refine WpB.seq (WpB.seq (WpB.seq (WpB.row (by decide) (by decide) (evh ?_))))
      first | refine WpB.cond (by decide) rfl (fun _ => WpB.skip ?_) (fun e => by first | (cases e; done) | exact absurd g1 (of_decide_eq_false e)) | refine WpB.seq (WpB.cond (by decide) rfl (fun _ => WpB.skip ?_) (fun e => by first | (cases e; done) | exact absurd g1 (of_decide_eq_false e))) | refine WpB.seq (WpB.seq (WpB.cond (by decide) rfl (fun _ => WpB.skip ?_) (fun e => by first | (cases e; done) | exact absurd g1 (of_decide_eq_false e)))) | refine WpB.seq (WpB.seq (WpB.seq (WpB.cond (by decide) rfl (fun _ => WpB.skip ?_) (fun e => by first | (cases e; done) | exact absurd g1 (of_decide_eq_false e)))))
      first | refine WpB.block ?_ | refine WpB.seq (WpB.block ?_) | refine WpB.seq (WpB.seq (WpB.block ?_)) | refine WpB.seq (WpB.seq (WpB.seq (WpB.block ?_)))
      refine WpB.seq (WpB.ofF (WpF.drawE (whole_tab _) (by kernel_rfl) (by decide) (callOne_ok (b := ⟨b.w, v1⟩) hca) (ks := [(3, 12), (0, 1)])
        (ds := [[], [], [1], [], [2, 3], [4], [0, 5], [6], [7], [7], [], [10, 8, 6, 0, 1, 2, 3, 4, 5, 6, 7, 8, 10], [9, 11, 0, 1, 2, 3, 4, 5, 6, 7, 8, 9, 10, 11]])
        (ancs := [0, 0, 2, 0, 14, 30, 63, 127, 255, 255, 0, 1535, 4095]) (by kernel_rfl) fun hnew => evh ?_))
      generalize hN1 : N + 8 + 2 = N1
      generalize hM1 : N + 11 + 2 = M1
      refine WpB.forget (S2 := ⟨[(N1, .row [.s (.int .i64 ma.f0), .s (.float .f64 ma.f1), .s (.string ma.f2), .s (.slice P3 ma.f3.length p3), .s (.slice P4 ma.f4.length p4)] 27 none .no), (3, .row [.s (.bool false), .s (.int .i64 0), .s (.float .f64 0), .s (.string (⟨#[]⟩ : ByteArray)), .s (.slice none 0 0), .s (.slice none 0 0)] 31 none .no), (2, .row [.s (.int .i64 m.f0), .s (.float .f64 m.f1), .s (.string m.f2), .s (.slice Q3 m.f3.length q3), .s (.slice Q4 m.f4.length q4)] 27 none .no), (1, .row [.s (.int .i64 y.f0), .s (.float .f64 y.f1), .s (.string y.f2), .s (.slice (some ⟨k2, off2, none⟩) y.f3.length d3), .s (.slice (some ⟨kk, off, none⟩) y.f4.length d4)] 27 none .no), (0, .row [.s (.int .i64 x.f0), .s (.float .f64 x.f1), .s (.string x.f2), .s (.slice A3 x.f3.length c3), .s (.slice A4 x.f4.length c4)] 27 none .no)], M1, 0⟩) (find_both (find_skip find_same (by
        have z1 : ¬ 3 = N1 := by omega
        have z2 : ¬ 2 = N1 := by omega
        have z3 : ¬ 1 = N1 := by omega
        have z4 : ¬ 0 = N1 := by omega
        rw [find_cons, if_neg z1, find_cons, if_neg z2, find_cons, if_neg z3, find_cons, if_neg z4]
        rfl))) rfl ?_
      clear w0 w1 w2 w3 w4 w5 w6 w7 w8 w9 w10 w11 w12
      have hNM : N1 < M1 := by omega
      have hN4 : 4 ≤ N1 := by omega
      clear hN1 hM1 hN
      have w0 : ¬ M1 ≤ N1 := by omega
      have w1 : ¬ M1 = N1 := by omega
      have w2 : ¬ N1 = M1 := by omega
      have w3 : ¬ M1 ≤ 3 := by omega
      have w4 : ¬ M1 = 3 := by omega
      have w5 : ¬ 3 = M1 := by omega
      have w6 : ¬ M1 ≤ 2 := by omega
      have w7 : ¬ M1 = 2 := by omega
      have w8 : ¬ 2 = M1 := by omega
      have w9 : ¬ M1 ≤ 1 := by omega
      have w10 : ¬ M1 = 1 := by omega
      have w11 : ¬ 1 = M1 := by omega
      have w12 : ¬ M1 ≤ 0 := by omega
      have w13 : ¬ M1 = 0 := by omega
      have w14 : ¬ 0 = M1 := by omega
      have w15 : 0 ≤ M1 := by omega
      have y0 : ¬ N1 = 3 := by omega
      have y1 : ¬ 3 = N1 := by omega
      have y2 : ¬ N1 = 2 := by omega
      have y3 : ¬ 2 = N1 := by omega
      have y4 : ¬ N1 = 1 := by omega
      have y5 : ¬ 1 = N1 := by omega
      have y6 : ¬ N1 = 0 := by omega
      have y7 : ¬ 0 = N1 := by omega
      refine WpB.seq (WpB.ofF (WpF.drawE (whole_tab _) (by kernel_rfl) (by decide) (callOne_ok (b := ⟨b.w, v1⟩) hcb) (ks := [(3, 12), (0, 1)])
        (ds := [[], [], [1], [], [2, 3], [4], [0, 5], [6], [7], [7], [], [10, 8, 6, 0, 1, 2, 3, 4, 5, 6, 7, 8, 10], [9, 11, 0, 1, 2, 3, 4, 5, 6, 7, 8, 9, 10, 11]])
        (ancs := [0, 0, 2, 0, 14, 30, 63, 127, 255, 255, 0, 1535, 4095]) (by kernel_rfl) fun hnew => evh ?_))
      generalize hN2 : M1 + 8 + 2 = N2
      generalize hM2 : M1 + 11 + 2 = M2
      refine WpB.forget (S2 := ⟨[(N2, .row [.s (.int .i64 xa.f0), .s (.float .f64 xa.f1), .s (.string xa.f2), .s (.slice R3 xa.f3.length r3), .s (.slice R4 xa.f4.length r4)] 27 none .no), (N1, .row [.s (.int .i64 ma.f0), .s (.float .f64 ma.f1), .s (.string ma.f2), .s (.slice P3 ma.f3.length p3), .s (.slice P4 ma.f4.length p4)] 27 none .no), (3, .row [.s (.bool false), .s (.int .i64 0), .s (.float .f64 0), .s (.string (⟨#[]⟩ : ByteArray)), .s (.slice none 0 0), .s (.slice none 0 0)] 31 none .no), (2, .row [.s (.int .i64 m.f0), .s (.float .f64 m.f1), .s (.string m.f2), .s (.slice Q3 m.f3.length q3), .s (.slice Q4 m.f4.length q4)] 27 none .no), (1, .row [.s (.int .i64 y.f0), .s (.float .f64 y.f1), .s (.string y.f2), .s (.slice (some ⟨k2, off2, none⟩) y.f3.length d3), .s (.slice (some ⟨kk, off, none⟩) y.f4.length d4)] 27 none .no), (0, .row [.s (.int .i64 x.f0), .s (.float .f64 x.f1), .s (.string x.f2), .s (.slice A3 x.f3.length c3), .s (.slice A4 x.f4.length c4)] 27 none .no)], M2, 0⟩) (find_both (find_skip find_same (by
        have z0 : ¬ N1 = N2 := by omega
        have z1 : ¬ 3 = N2 := by omega
        have z2 : ¬ 2 = N2 := by omega
        have z3 : ¬ 1 = N2 := by omega
        have z4 : ¬ 0 = N2 := by omega
        rw [find_cons, if_neg z0, find_cons, if_neg z1, find_cons, if_neg z2, find_cons, if_neg z3, find_cons, if_neg z4]
        rfl))) rfl ?_
      clear w0 w1 w2 w3 w4 w5 w6 w7 w8 w9 w10 w11 w12 w13 w14 w15
      have hM24 : 4 ≤ M2 := by omega
      have hN24 : 4 ≤ N2 := by omega
      have y20 : ¬ N1 = N2 := by omega
      have y21 : ¬ N2 = N1 := by omega
      clear hN2 hM2 hNM
      have u0 : ¬ N2 = 3 := by omega
      have u1 : ¬ 3 = N2 := by omega
      have u2 : ¬ N2 = 2 := by omega
      have u3 : ¬ 2 = N2 := by omega
      have u4 : ¬ N2 = 1 := by omega
      have u5 : ¬ 1 = N2 := by omega
      have u6 : ¬ N2 = 0 := by omega
      have u7 : ¬ 0 = N2 := by omega
      by_cases cw : wi.f0 = 6
      · have c1 : (wi.f0 != 6) = false := by simpa using cw
        by_cases cx : xa.f0 = 6
        · have c2 : (xa.f0 != 6) = false := by simpa using cx
          clear cw cx
          (first | refine WpB.draw (by kernel_rfl) (by decide) [0, 1, 2, 3, 4, 5, 6, 7, 8, 9, 10, 11, 12, 13, 14, 15, 16, 17, 18, 19, 20, 21, 22, 23, 24, 25] (by kernel_rfl) (by kernel_rfl) (by kernel_rfl) (by kernel_rfl) (by kernel_rfl) rfl ?_ | refine WpB.seq (WpB.draw (by kernel_rfl) (by decide) [0, 1, 2, 3, 4, 5, 6, 7, 8, 9, 10, 11, 12, 13, 14, 15, 16, 17, 18, 19, 20, 21, 22, 23, 24, 25] (by kernel_rfl) (by kernel_rfl) (by kernel_rfl) (by kernel_rfl) (by kernel_rfl) rfl ?_) | refine WpB.seq (WpB.seq (WpB.draw (by kernel_rfl) (by decide) [0, 1, 2, 3, 4, 5, 6, 7, 8, 9, 10, 11, 12, 13, 14, 15, 16, 17, 18, 19, 20, 21, 22, 23, 24, 25] (by kernel_rfl) (by kernel_rfl) (by kernel_rfl) (by kernel_rfl) (by kernel_rfl) rfl ?_)) | refine WpB.seq (WpB.seq (WpB.seq (WpB.draw (by kernel_rfl) (by decide) [0, 1, 2, 3, 4, 5, 6, 7, 8, 9, 10, 11, 12, 13, 14, 15, 16, 17, 18, 19, 20, 21, 22, 23, 24, 25] (by kernel_rfl) (by kernel_rfl) (by kernel_rfl) (by kernel_rfl) (by kernel_rfl) rfl ?_)))); simp (config := {maxSteps := 10000000}) only [opAt, List.map_cons, List.map_nil, List.getElem?_toArray, List.getElem?_cons_succ, List.getElem?_cons_zero, Option.getD_some]; refine evhL ?_
          first | refine WpB.cond (by decide) rfl (fun e => by cases e) (fun _ => WpB.skip ?_) | refine WpB.seq (WpB.cond (by decide) rfl (fun e => by cases e) (fun _ => WpB.skip ?_)) | refine WpB.seq (WpB.seq (WpB.cond (by decide) rfl (fun e => by cases e) (fun _ => WpB.skip ?_))) | refine WpB.seq (WpB.seq (WpB.seq (WpB.cond (by decide) rfl (fun e => by cases e) (fun _ => WpB.skip ?_))))
          refine WpB.forget (S2 := ⟨[(3, .row [.s (.bool false), .s (.int .i64 0), .s (.float .f64 0), .s (.string (⟨#[]⟩ : ByteArray)), .s (.slice none 0 0), .s (.slice none 0 0)] 31 none .no), (2, .row [.s (.int .i64 m.f0), .s (.float .f64 m.f1), .s (.string m.f2), .s (.slice Q3 m.f3.length q3), .s (.slice Q4 m.f4.length q4)] 27 none .no), (1, .row [.s (.int .i64 y.f0), .s (.float .f64 y.f1), .s (.string y.f2), .s (.slice (some ⟨k2, off2, none⟩) y.f3.length d3), .s (.slice (some ⟨kk, off, none⟩) y.f4.length d4)] 27 none .no), (0, .row [.s (.int .i64 x.f0), .s (.float .f64 x.f1), .s (.string x.f2), .s (.slice A3 x.f3.length c3), .s (.slice A4 x.f4.length c4)] 27 none .no)], _, 0⟩) (find_skip (find_skip find_same (by rw [find_cons, if_neg (Ne.symm y0), find_cons, if_neg (Ne.symm y2), find_cons, if_neg (Ne.symm y4), find_cons, if_neg (Ne.symm y6)]; rfl)) (by rw [find_cons, if_neg (Ne.symm u0), find_cons, if_neg (Ne.symm u2), find_cons, if_neg (Ne.symm u4), find_cons, if_neg (Ne.symm u6)]; rfl)) rfl ?_
          first | refine WpB.row (by decide) (by decide) (evh ?_) | refine WpB.seq (WpB.row (by decide) (by decide) (evh ?_)) | refine WpB.seq (WpB.seq (WpB.row (by decide) (by decide) (evh ?_))) | refine WpB.seq (WpB.seq (WpB.seq (WpB.row (by decide) (by decide) (evh ?_))))
          exact ⟨y.f4.length - (i + 1), by omega, i + 1, M2, rfl, rfl, hM24, f2, f3, f5, by rw [← d7]; rfl, hlt, rfl⟩
        · have c2 : (xa.f0 != 6) = true := by simpa using cx
          have em := O2.out (.inr cx)
          subst em
          have s1 := same_gv _ ma (Nat.le_refl _) v1 _ _ hua2.out hwi.out
          clear cw cx
          (first | refine WpB.draw (by kernel_rfl) (by decide) [0, 1, 2, 3, 4, 5, 6, 7, 8, 9, 10, 11, 12, 13, 14, 15, 16, 17, 18, 19, 20, 21, 22, 23, 24, 25] (by kernel_rfl) (by kernel_rfl) (by kernel_rfl) (by kernel_rfl) (by kernel_rfl) rfl ?_ | refine WpB.seq (WpB.draw (by kernel_rfl) (by decide) [0, 1, 2, 3, 4, 5, 6, 7, 8, 9, 10, 11, 12, 13, 14, 15, 16, 17, 18, 19, 20, 21, 22, 23, 24, 25] (by kernel_rfl) (by kernel_rfl) (by kernel_rfl) (by kernel_rfl) (by kernel_rfl) rfl ?_) | refine WpB.seq (WpB.seq (WpB.draw (by kernel_rfl) (by decide) [0, 1, 2, 3, 4, 5, 6, 7, 8, 9, 10, 11, 12, 13, 14, 15, 16, 17, 18, 19, 20, 21, 22, 23, 24, 25] (by kernel_rfl) (by kernel_rfl) (by kernel_rfl) (by kernel_rfl) (by kernel_rfl) rfl ?_)) | refine WpB.seq (WpB.seq (WpB.seq (WpB.draw (by kernel_rfl) (by decide) [0, 1, 2, 3, 4, 5, 6, 7, 8, 9, 10, 11, 12, 13, 14, 15, 16, 17, 18, 19, 20, 21, 22, 23, 24, 25] (by kernel_rfl) (by kernel_rfl) (by kernel_rfl) (by kernel_rfl) (by kernel_rfl) rfl ?_)))); simp (config := {maxSteps := 10000000}) only [opAt, List.map_cons, List.map_nil, List.getElem?_toArray, List.getElem?_cons_succ, List.getElem?_cons_zero, Option.getD_some]; refine evhL ?_
          refine EvOC.call rfl rfl rfl (CallB.of_ok (Gv.okx (b := ⟨b.w, v1⟩) s1 _)) ?_
          rintro b2 u ⟨rfl, rfl⟩
          refine evhL ?_
          first | refine WpB.cond (by decide) rfl (fun e => by cases e) (fun _ => WpB.skip ?_) | refine WpB.seq (WpB.cond (by decide) rfl (fun e => by cases e) (fun _ => WpB.skip ?_)) | refine WpB.seq (WpB.seq (WpB.cond (by decide) rfl (fun e => by cases e) (fun _ => WpB.skip ?_))) | refine WpB.seq (WpB.seq (WpB.seq (WpB.cond (by decide) rfl (fun e => by cases e) (fun _ => WpB.skip ?_))))
          refine WpB.forget (S2 := ⟨[(3, .row [.s (.bool false), .s (.int .i64 0), .s (.float .f64 0), .s (.string (⟨#[]⟩ : ByteArray)), .s (.slice none 0 0), .s (.slice none 0 0)] 31 none .no), (2, .row [.s (.int .i64 m.f0), .s (.float .f64 m.f1), .s (.string m.f2), .s (.slice Q3 m.f3.length q3), .s (.slice Q4 m.f4.length q4)] 27 none .no), (1, .row [.s (.int .i64 y.f0), .s (.float .f64 y.f1), .s (.string y.f2), .s (.slice (some ⟨k2, off2, none⟩) y.f3.length d3), .s (.slice (some ⟨kk, off, none⟩) y.f4.length d4)] 27 none .no), (0, .row [.s (.int .i64 x.f0), .s (.float .f64 x.f1), .s (.string x.f2), .s (.slice A3 x.f3.length c3), .s (.slice A4 x.f4.length c4)] 27 none .no)], _, 0⟩) (find_skip (find_skip find_same (by rw [find_cons, if_neg (Ne.symm y0), find_cons, if_neg (Ne.symm y2), find_cons, if_neg (Ne.symm y4), find_cons, if_neg (Ne.symm y6)]; rfl)) (by rw [find_cons, if_neg (Ne.symm u0), find_cons, if_neg (Ne.symm u2), find_cons, if_neg (Ne.symm u4), find_cons, if_neg (Ne.symm u6)]; rfl)) rfl ?_
          first | refine WpB.row (by decide) (by decide) (evh ?_) | refine WpB.seq (WpB.row (by decide) (by decide) (evh ?_)) | refine WpB.seq (WpB.seq (WpB.row (by decide) (by decide) (evh ?_))) | refine WpB.seq (WpB.seq (WpB.seq (WpB.row (by decide) (by decide) (evh ?_))))
          exact ⟨y.f4.length - (i + 1), by omega, i + 1, M2, rfl, rfl, hM24, f2, f3, f5, by rw [← d7]; rfl, hlt, rfl⟩
      · have c1 : (wi.f0 != 6) = true := by simpa using cw
        have em := O2.out (.inl cw)
        subst em
        have s1 := same_gv _ ma (Nat.le_refl _) v1 _ _ hua2.out hwi.out
        clear cw
        (first | refine WpB.draw (by kernel_rfl) (by decide) [0, 1, 2, 3, 4, 5, 6, 7, 8, 9, 10, 11, 12, 13, 14, 15, 16, 17, 18, 19, 20, 21, 22, 23, 24, 25] (by kernel_rfl) (by kernel_rfl) (by kernel_rfl) (by kernel_rfl) (by kernel_rfl) rfl ?_ | refine WpB.seq (WpB.draw (by kernel_rfl) (by decide) [0, 1, 2, 3, 4, 5, 6, 7, 8, 9, 10, 11, 12, 13, 14, 15, 16, 17, 18, 19, 20, 21, 22, 23, 24, 25] (by kernel_rfl) (by kernel_rfl) (by kernel_rfl) (by kernel_rfl) (by kernel_rfl) rfl ?_) | refine WpB.seq (WpB.seq (WpB.draw (by kernel_rfl) (by decide) [0, 1, 2, 3, 4, 5, 6, 7, 8, 9, 10, 11, 12, 13, 14, 15, 16, 17, 18, 19, 20, 21, 22, 23, 24, 25] (by kernel_rfl) (by kernel_rfl) (by kernel_rfl) (by kernel_rfl) (by kernel_rfl) rfl ?_)) | refine WpB.seq (WpB.seq (WpB.seq (WpB.draw (by kernel_rfl) (by decide) [0, 1, 2, 3, 4, 5, 6, 7, 8, 9, 10, 11, 12, 13, 14, 15, 16, 17, 18, 19, 20, 21, 22, 23, 24, 25] (by kernel_rfl) (by kernel_rfl) (by kernel_rfl) (by kernel_rfl) (by kernel_rfl) rfl ?_)))); simp (config := {maxSteps := 10000000}) only [opAt, List.map_cons, List.map_nil, List.getElem?_toArray, List.getElem?_cons_succ, List.getElem?_cons_zero, Option.getD_some]; refine evhL ?_
        refine EvOC.call rfl rfl rfl (CallB.of_ok (Gv.okx (b := ⟨b.w, v1⟩) s1 _)) ?_
        rintro b2 u ⟨rfl, rfl⟩
        refine evhL ?_
        first | refine WpB.cond (by decide) rfl (fun e => by cases e) (fun _ => WpB.skip ?_) | refine WpB.seq (WpB.cond (by decide) rfl (fun e => by cases e) (fun _ => WpB.skip ?_)) | refine WpB.seq (WpB.seq (WpB.cond (by decide) rfl (fun e => by cases e) (fun _ => WpB.skip ?_))) | refine WpB.seq (WpB.seq (WpB.seq (WpB.cond (by decide) rfl (fun e => by cases e) (fun _ => WpB.skip ?_))))
        refine WpB.forget (S2 := ⟨[(3, .row [.s (.bool false), .s (.int .i64 0), .s (.float .f64 0), .s (.string (⟨#[]⟩ : ByteArray)), .s (.slice none 0 0), .s (.slice none 0 0)] 31 none .no), (2, .row [.s (.int .i64 m.f0), .s (.float .f64 m.f1), .s (.string m.f2), .s (.slice Q3 m.f3.length q3), .s (.slice Q4 m.f4.length q4)] 27 none .no), (1, .row [.s (.int .i64 y.f0), .s (.float .f64 y.f1), .s (.string y.f2), .s (.slice (some ⟨k2, off2, none⟩) y.f3.length d3), .s (.slice (some ⟨kk, off, none⟩) y.f4.length d4)] 27 none .no), (0, .row [.s (.int .i64 x.f0), .s (.float .f64 x.f1), .s (.string x.f2), .s (.slice A3 x.f3.length c3), .s (.slice A4 x.f4.length c4)] 27 none .no)], _, 0⟩) (find_skip (find_skip find_same (by rw [find_cons, if_neg (Ne.symm y0), find_cons, if_neg (Ne.symm y2), find_cons, if_neg (Ne.symm y4), find_cons, if_neg (Ne.symm y6)]; rfl)) (by rw [find_cons, if_neg (Ne.symm u0), find_cons, if_neg (Ne.symm u2), find_cons, if_neg (Ne.symm u4), find_cons, if_neg (Ne.symm u6)]; rfl)) rfl ?_
        first | refine WpB.row (by decide) (by decide) (evh ?_) | refine WpB.seq (WpB.row (by decide) (by decide) (evh ?_)) | refine WpB.seq (WpB.seq (WpB.row (by decide) (by decide) (evh ?_))) | refine WpB.seq (WpB.seq (WpB.seq (WpB.row (by decide) (by decide) (evh ?_))))
        exact ⟨y.f4.length - (i + 1), by omega, i + 1, M2, rfl, rfl, hM24, f2, f3, f5, by rw [← d7]; rfl, hlt, rfl⟩
    have g1 : ¬ ((i : Int) < (y.f4.length : Int)) := by omega
    first | refine WpB.row (by decide) (by decide) (evh ?_) | refine WpB.seq (WpB.row (by decide) (by decide) (evh ?_)) | refine WpB.seq (WpB.seq (WpB.row (by decide) (by decide) (evh ?_))) | refine WpB.seq (WpB.seq (WpB.seq (WpB.row (by decide) (by decide) (evh ?_))))
    first | refine WpB.cond (by decide) rfl (fun e => by first | (cases e; done) | exact absurd (of_decide_eq_true e) g1) (fun _ => WpB.exit ?_) | refine WpB.seq (WpB.cond (by decide) rfl (fun e => by first | (cases e; done) | exact absurd (of_decide_eq_true e) g1) (fun _ => WpB.exit ?_)) | refine WpB.seq (WpB.seq (WpB.cond (by decide) rfl (fun e => by first | (cases e; done) | exact absurd (of_decide_eq_true e) g1) (fun _ => WpB.exit ?_))) | refine WpB.seq (WpB.seq (WpB.seq (WpB.cond (by decide) rfl (fun e => by first | (cases e; done) | exact absurd (of_decide_eq_true e) g1) (fun _ => WpB.exit ?_))))
    first | refine WpB.row (by decide) (by decide) (evh ?_) | refine WpB.seq (WpB.row (by decide) (by decide) (evh ?_)) | refine WpB.seq (WpB.seq (WpB.row (by decide) (by decide) (evh ?_))) | refine WpB.seq (WpB.seq (WpB.seq (WpB.row (by decide) (by decide) (evh ?_))))
    first | refine WpB.block ?_ | refine WpB.seq (WpB.block ?_) | refine WpB.seq (WpB.seq (WpB.block ?_)) | refine WpB.seq (WpB.seq (WpB.seq (WpB.block ?_)))
    refine WpB.loop (fun mm b' F S => ∃ (i N : Nat), b' = ⟨b.w, v1⟩ ∧ S = ⟨[(3, .row [.s (.bool false), .s (.int .i64 0), .s (.float .f64 0), .s (.string (⟨#[]⟩ : ByteArray)), .s (.slice none 0 0), .s (.slice none 0 0)] 31 none .no), (2, .row [.s (.int .i64 m.f0), .s (.float .f64 m.f1), .s (.string m.f2), .s (.slice Q3 m.f3.length q3), .s (.slice Q4 m.f4.length q4)] 27 none .no), (1, .row [.s (.int .i64 y.f0), .s (.float .f64 y.f1), .s (.string y.f2), .s (.slice B3 y.f3.length d3), .s (.slice B4 y.f4.length d4)] 27 none .no), (0, .row [.s (.int .i64 x.f0), .s (.float .f64 x.f1), .s (.string x.f2), .s (.slice A3 x.f3.length c3), .s (.slice A4 x.f4.length c4)] 27 none .no)], N, 0⟩ ∧ 4 ≤ N ∧ F 2 = .ptr 0 0 ∧ F 3 = .ptr 1 0 ∧ F 5 = .ptr 2 0 ∧ F 12 = .s (.int .i64 (i : Int)) ∧ i ≤ x.f4.length ∧ mm = x.f4.length - i) x.f4.length ⟨0, N, rfl, rfl, hN, f2, f3, f5, rfl, Nat.zero_le _, rfl⟩ ?_
    rintro mm b' F S ⟨i, N, rfl, rfl, hN, f2, f3, f5, f12, hi, rfl⟩
    have hmy : x.f4.length ≤ 9223372036854775807 := h4.1.2.1
    by_cases hlt : i < x.f4.length
    · have hlt3 : i < x.f3.length := by rw [← LX.out]; exact hlt
      obtain ⟨kk, off, hB4, x1⟩ := (h4.up hk1).get hlt
      obtain ⟨k2, off2, cs2, S3, s3, S4, s4, hB3, hw2, hx2, w3, w4⟩ := (h3.up hk1).get hlt3
      subst hB4 hB3
      have hk0 := cell_head hw2 hx2
      have g0 : (0 : Int) ≤ (i : Int) := by omega
      have g1 : (i : Int) < (x.f4.length : Int) := by omega
      have g2 : (i : Int) < (x.f3.length : Int) := by omega
      have d7 : IntKind.i64.wrap ((i : Int) + 1) = ((i + 1 : Nat) : Int) := by rw [IntKind.wrap_i64]; omega
      obtain ⟨o1, o2⟩ := G2.out i _ _ (List.getElem?_eq_getElem hlt) (List.getElem?_eq_getElem hlt3)
      obtain ⟨ua, hua, hca⟩ := hgm v1 _ hvm x.f4[i]
      obtain ⟨ub, hub, hcb⟩ := hgy v1 hk1 x.f4[i]
      rw [o1] at hca
      have hwi : Hide (Vr v1 x.f3[i] _) := Hide.mk ⟨S3, s3, S4, s4, rfl, w3, w4⟩
      have hua2 := Hide.mk hua
      have O2 := Hide.mk o2
      clear o1 o2
      generalize x.f4[i] = key at *
      generalize x.f3[i] = wi at *
      generalize (getL m key).1 = ma at *
      generalize (getL y key).1 = xa at *
      generalize (getL y key).2 = xb at *
      obtain ⟨P3, p3, P4, p4, rfl, _, _⟩ := hua
      obtain ⟨R3, r3, R4, r4, rfl, _, _⟩ := hub
      have w0 : ¬ N ≤ 3 := by omega
      have w1 : ¬ N = 3 := by omega
      have w2 : ¬ 3 = N := by omega
      have w3 : ¬ N ≤ 2 := by omega
      have w4 : ¬ N = 2 := by omega
      have w5 : ¬ 2 = N := by omega
      have w6 : ¬ N ≤ 1 := by omega
      have w7 : ¬ N = 1 := by omega
      have w8 : ¬ 1 = N := by omega
      have w9 : ¬ N ≤ 0 := by omega
      have w10 : ¬ N = 0 := by omega
      have w11 : ¬ 0 = N := by omega
      have w12 : 0 ≤ N := by omega
      first | refine WpB.row (by decide) (by decide) (evh ?_) | refine WpB.seq (WpB.row (by decide) (by decide) (evh ?_)) | refine WpB.seq (WpB.seq (WpB.row (by decide) (by decide) (evh ?_))) | refine WpB.seq (WpB.seq (WpB.seq (WpB.row (by decide) (by decide) (evh ?_))))
      first | refine WpB.cond (by decide) rfl (fun _ => WpB.skip ?_) (fun e => by first | (cases e; done) | exact absurd g1 (of_decide_eq_false e)) | refine WpB.seq (WpB.cond (by decide) rfl (fun _ => WpB.skip ?_) (fun e => by first | (cases e; done) | exact absurd g1 (of_decide_eq_false e))) | refine WpB.seq (WpB.seq (WpB.cond (by decide) rfl (fun _ => WpB.skip ?_) (fun e => by first | (cases e; done) | exact absurd g1 (of_decide_eq_false e)))) | refine WpB.seq (WpB.seq (WpB.seq (WpB.cond (by decide) rfl (fun _ => WpB.skip ?_) (fun e => by first | (cases e; done) | exact absurd g1 (of_decide_eq_false e)))))
      first | refine WpB.block ?_ | refine WpB.seq (WpB.block ?_) | refine WpB.seq (WpB.seq (WpB.block ?_)) | refine WpB.seq (WpB.seq (WpB.seq (WpB.block ?_)))
      refine WpB.seq (WpB.ofF (WpF.drawE (whole_tab _) (by kernel_rfl) (by decide) (callOne_ok (b := ⟨b.w, v1⟩) hca) (ks := [(3, 12), (0, 1)])
        (ds := [[], [], [1], [], [2, 3], [4], [0, 5], [6], [7], [7], [], [10, 8, 6, 0, 1, 2, 3, 4, 5, 6, 7, 8, 10], [9, 11, 0, 1, 2, 3, 4, 5, 6, 7, 8, 9, 10, 11]])
        (ancs := [0, 0, 2, 0, 14, 30, 63, 127, 255, 255, 0, 1535, 4095]) (by kernel_rfl) fun hnew => evh ?_))
      generalize hN1 : N + 8 + 2 = N1
      generalize hM1 : N + 11 + 2 = M1
      refine WpB.forget (S2 := ⟨[(N1, .row [.s (.int .i64 ma.f0), .s (.float .f64 ma.f1), .s (.string ma.f2), .s (.slice P3 ma.f3.length p3), .s (.slice P4 ma.f4.length p4)] 27 none .no), (3, .row [.s (.bool false), .s (.int .i64 0), .s (.float .f64 0), .s (.string (⟨#[]⟩ : ByteArray)), .s (.slice none 0 0), .s (.slice none 0 0)] 31 none .no), (2, .row [.s (.int .i64 m.f0), .s (.float .f64 m.f1), .s (.string m.f2), .s (.slice Q3 m.f3.length q3), .s (.slice Q4 m.f4.length q4)] 27 none .no), (1, .row [.s (.int .i64 y.f0), .s (.float .f64 y.f1), .s (.string y.f2), .s (.slice B3 y.f3.length d3), .s (.slice B4 y.f4.length d4)] 27 none .no), (0, .row [.s (.int .i64 x.f0), .s (.float .f64 x.f1), .s (.string x.f2), .s (.slice (some ⟨k2, off2, none⟩) x.f3.length c3), .s (.slice (some ⟨kk, off, none⟩) x.f4.length c4)] 27 none .no)], M1, 0⟩) (find_both (find_skip find_same (by
        have z1 : ¬ 3 = N1 := by omega
        have z2 : ¬ 2 = N1 := by omega
        have z3 : ¬ 1 = N1 := by omega
        have z4 : ¬ 0 = N1 := by omega
        rw [find_cons, if_neg z1, find_cons, if_neg z2, find_cons, if_neg z3, find_cons, if_neg z4]
        rfl))) rfl ?_
      clear w0 w1 w2 w3 w4 w5 w6 w7 w8 w9 w10 w11 w12
      have hNM : N1 < M1 := by omega
      have hN4 : 4 ≤ N1 := by omega
      clear hN1 hM1 hN
      have w0 : ¬ M1 ≤ N1 := by omega
      have w1 : ¬ M1 = N1 := by omega
      have w2 : ¬ N1 = M1 := by omega
      have w3 : ¬ M1 ≤ 3 := by omega
      have w4 : ¬ M1 = 3 := by omega
      have w5 : ¬ 3 = M1 := by omega
      have w6 : ¬ M1 ≤ 2 := by omega
      have w7 : ¬ M1 = 2 := by omega
      have w8 : ¬ 2 = M1 := by omega
      have w9 : ¬ M1 ≤ 1 := by omega
      have w10 : ¬ M1 = 1 := by omega
      have w11 : ¬ 1 = M1 := by omega
      have w12 : ¬ M1 ≤ 0 := by omega
      have w13 : ¬ M1 = 0 := by omega
      have w14 : ¬ 0 = M1 := by omega
      have w15 : 0 ≤ M1 := by omega
      have y0 : ¬ N1 = 3 := by omega
      have y1 : ¬ 3 = N1 := by omega
      have y2 : ¬ N1 = 2 := by omega
      have y3 : ¬ 2 = N1 := by omega
      have y4 : ¬ N1 = 1 := by omega
      have y5 : ¬ 1 = N1 := by omega
      have y6 : ¬ N1 = 0 := by omega
      have y7 : ¬ 0 = N1 := by omega
      refine WpB.seq (WpB.ofF (WpF.drawE (whole_tab _) (by kernel_rfl) (by decide) (callOne_ok (b := ⟨b.w, v1⟩) hcb) (ks := [(3, 12), (0, 1)])
        (ds := [[], [], [1], [], [2, 3], [4], [0, 5], [6], [7], [7], [], [10, 8, 6, 0, 1, 2, 3, 4, 5, 6, 7, 8, 10], [9, 11, 0, 1, 2, 3, 4, 5, 6, 7, 8, 9, 10, 11]])
        (ancs := [0, 0, 2, 0, 14, 30, 63, 127, 255, 255, 0, 1535, 4095]) (by kernel_rfl) fun hnew => evh ?_))
      generalize hN2 : M1 + 8 + 2 = N2
      generalize hM2 : M1 + 11 + 2 = M2
      refine WpB.forget (S2 := ⟨[(N2, .row [.s (.int .i64 xa.f0), .s (.float .f64 xa.f1), .s (.string xa.f2), .s (.slice R3 xa.f3.length r3), .s (.slice R4 xa.f4.length r4)] 27 none .no), (N1, .row [.s (.int .i64 ma.f0), .s (.float .f64 ma.f1), .s (.string ma.f2), .s (.slice P3 ma.f3.length p3), .s (.slice P4 ma.f4.length p4)] 27 none .no), (3, .row [.s (.bool false), .s (.int .i64 0), .s (.float .f64 0), .s (.string (⟨#[]⟩ : ByteArray)), .s (.slice none 0 0), .s (.slice none 0 0)] 31 none .no), (2, .row [.s (.int .i64 m.f0), .s (.float .f64 m.f1), .s (.string m.f2), .s (.slice Q3 m.f3.length q3), .s (.slice Q4 m.f4.length q4)] 27 none .no), (1, .row [.s (.int .i64 y.f0), .s (.float .f64 y.f1), .s (.string y.f2), .s (.slice B3 y.f3.length d3), .s (.slice B4 y.f4.length d4)] 27 none .no), (0, .row [.s (.int .i64 x.f0), .s (.float .f64 x.f1), .s (.string x.f2), .s (.slice (some ⟨k2, off2, none⟩) x.f3.length c3), .s (.slice (some ⟨kk, off, none⟩) x.f4.length c4)] 27 none .no)], M2, 0⟩) (find_both (find_skip find_same (by
        have z0 : ¬ N1 = N2 := by omega
        have z1 : ¬ 3 = N2 := by omega
        have z2 : ¬ 2 = N2 := by omega
        have z3 : ¬ 1 = N2 := by omega
        have z4 : ¬ 0 = N2 := by omega
        rw [find_cons, if_neg z0, find_cons, if_neg z1, find_cons, if_neg z2, find_cons, if_neg z3, find_cons, if_neg z4]
        rfl))) rfl ?_
      clear w0 w1 w2 w3 w4 w5 w6 w7 w8 w9 w10 w11 w12 w13 w14 w15
      have hM24 : 4 ≤ M2 := by omega
      have hN24 : 4 ≤ N2 := by omega
      have y20 : ¬ N1 = N2 := by omega
      have y21 : ¬ N2 = N1 := by omega
      clear hN2 hM2 hNM
      have u0 : ¬ N2 = 3 := by omega
      have u1 : ¬ 3 = N2 := by omega
      have u2 : ¬ N2 = 2 := by omega
      have u3 : ¬ 2 = N2 := by omega
      have u4 : ¬ N2 = 1 := by omega
      have u5 : ¬ 1 = N2 := by omega
      have u6 : ¬ N2 = 0 := by omega
      have u7 : ¬ 0 = N2 := by omega
      cases xb with
      | true =>
        (first | refine WpB.draw (by kernel_rfl) (by decide) [0, 1, 2, 3, 4, 5, 6, 7, 8, 9, 10, 11, 12, 13, 14, 15] (by kernel_rfl) (by kernel_rfl) (by kernel_rfl) (by kernel_rfl) (by kernel_rfl) rfl ?_ | refine WpB.seq (WpB.draw (by kernel_rfl) (by decide) [0, 1, 2, 3, 4, 5, 6, 7, 8, 9, 10, 11, 12, 13, 14, 15] (by kernel_rfl) (by kernel_rfl) (by kernel_rfl) (by kernel_rfl) (by kernel_rfl) rfl ?_) | refine WpB.seq (WpB.seq (WpB.draw (by kernel_rfl) (by decide) [0, 1, 2, 3, 4, 5, 6, 7, 8, 9, 10, 11, 12, 13, 14, 15] (by kernel_rfl) (by kernel_rfl) (by kernel_rfl) (by kernel_rfl) (by kernel_rfl) rfl ?_)) | refine WpB.seq (WpB.seq (WpB.seq (WpB.draw (by kernel_rfl) (by decide) [0, 1, 2, 3, 4, 5, 6, 7, 8, 9, 10, 11, 12, 13, 14, 15] (by kernel_rfl) (by kernel_rfl) (by kernel_rfl) (by kernel_rfl) (by kernel_rfl) rfl ?_)))); simp (config := {maxSteps := 10000000}) only [opAt, List.map_cons, List.map_nil, List.getElem?_toArray, List.getElem?_cons_succ, List.getElem?_cons_zero, Option.getD_some]; refine evhL ?_
        first | refine WpB.cond (by decide) rfl (fun e => by cases e) (fun _ => WpB.skip ?_) | refine WpB.seq (WpB.cond (by decide) rfl (fun e => by cases e) (fun _ => WpB.skip ?_)) | refine WpB.seq (WpB.seq (WpB.cond (by decide) rfl (fun e => by cases e) (fun _ => WpB.skip ?_))) | refine WpB.seq (WpB.seq (WpB.seq (WpB.cond (by decide) rfl (fun e => by cases e) (fun _ => WpB.skip ?_))))
        refine WpB.forget (S2 := ⟨[(3, .row [.s (.bool false), .s (.int .i64 0), .s (.float .f64 0), .s (.string (⟨#[]⟩ : ByteArray)), .s (.slice none 0 0), .s (.slice none 0 0)] 31 none .no), (2, .row [.s (.int .i64 m.f0), .s (.float .f64 m.f1), .s (.string m.f2), .s (.slice Q3 m.f3.length q3), .s (.slice Q4 m.f4.length q4)] 27 none .no), (1, .row [.s (.int .i64 y.f0), .s (.float .f64 y.f1), .s (.string y.f2), .s (.slice B3 y.f3.length d3), .s (.slice B4 y.f4.length d4)] 27 none .no), (0, .row [.s (.int .i64 x.f0), .s (.float .f64 x.f1), .s (.string x.f2), .s (.slice (some ⟨k2, off2, none⟩) x.f3.length c3), .s (.slice (some ⟨kk, off, none⟩) x.f4.length c4)] 27 none .no)], _, 0⟩) (find_skip (find_skip find_same (by rw [find_cons, if_neg (Ne.symm y0), find_cons, if_neg (Ne.symm y2), find_cons, if_neg (Ne.symm y4), find_cons, if_neg (Ne.symm y6)]; rfl)) (by rw [find_cons, if_neg (Ne.symm u0), find_cons, if_neg (Ne.symm u2), find_cons, if_neg (Ne.symm u4), find_cons, if_neg (Ne.symm u6)]; rfl)) rfl ?_
        first | refine WpB.row (by decide) (by decide) (evh ?_) | refine WpB.seq (WpB.row (by decide) (by decide) (evh ?_)) | refine WpB.seq (WpB.seq (WpB.row (by decide) (by decide) (evh ?_))) | refine WpB.seq (WpB.seq (WpB.seq (WpB.row (by decide) (by decide) (evh ?_))))
        exact ⟨x.f4.length - (i + 1), by omega, i + 1, M2, rfl, rfl, hM24, f2, f3, f5, by rw [← d7]; rfl, hlt, rfl⟩
      | false =>
        have em := O2.out rfl
        subst em
        have s1 := same_gv _ ma (Nat.le_refl _) v1 _ _ hua2.out hwi.out
        (first | refine WpB.draw (by kernel_rfl) (by decide) [0, 1, 2, 3, 4, 5, 6, 7, 8, 9, 10, 11, 12, 13, 14, 15] (by kernel_rfl) (by kernel_rfl) (by kernel_rfl) (by kernel_rfl) (by kernel_rfl) rfl ?_ | refine WpB.seq (WpB.draw (by kernel_rfl) (by decide) [0, 1, 2, 3, 4, 5, 6, 7, 8, 9, 10, 11, 12, 13, 14, 15] (by kernel_rfl) (by kernel_rfl) (by kernel_rfl) (by kernel_rfl) (by kernel_rfl) rfl ?_) | refine WpB.seq (WpB.seq (WpB.draw (by kernel_rfl) (by decide) [0, 1, 2, 3, 4, 5, 6, 7, 8, 9, 10, 11, 12, 13, 14, 15] (by kernel_rfl) (by kernel_rfl) (by kernel_rfl) (by kernel_rfl) (by kernel_rfl) rfl ?_)) | refine WpB.seq (WpB.seq (WpB.seq (WpB.draw (by kernel_rfl) (by decide) [0, 1, 2, 3, 4, 5, 6, 7, 8, 9, 10, 11, 12, 13, 14, 15] (by kernel_rfl) (by kernel_rfl) (by kernel_rfl) (by kernel_rfl) (by kernel_rfl) rfl ?_)))); simp (config := {maxSteps := 10000000}) only [opAt, List.map_cons, List.map_nil, List.getElem?_toArray, List.getElem?_cons_succ, List.getElem?_cons_zero, Option.getD_some]; refine evhL ?_
        refine EvOC.call rfl rfl rfl (CallB.of_ok (Gv.okx (b := ⟨b.w, v1⟩) s1 _)) ?_
        rintro b2 u ⟨rfl, rfl⟩
        refine evhL ?_
        first | refine WpB.cond (by decide) rfl (fun e => by cases e) (fun _ => WpB.skip ?_) | refine WpB.seq (WpB.cond (by decide) rfl (fun e => by cases e) (fun _ => WpB.skip ?_)) | refine WpB.seq (WpB.seq (WpB.cond (by decide) rfl (fun e => by cases e) (fun _ => WpB.skip ?_))) | refine WpB.seq (WpB.seq (WpB.seq (WpB.cond (by decide) rfl (fun e => by cases e) (fun _ => WpB.skip ?_))))
        refine WpB.forget (S2 := ⟨[(3, .row [.s (.bool false), .s (.int .i64 0), .s (.float .f64 0), .s (.string (⟨#[]⟩ : ByteArray)), .s (.slice none 0 0), .s (.slice none 0 0)] 31 none .no), (2, .row [.s (.int .i64 m.f0), .s (.float .f64 m.f1), .s (.string m.f2), .s (.slice Q3 m.f3.length q3), .s (.slice Q4 m.f4.length q4)] 27 none .no), (1, .row [.s (.int .i64 y.f0), .s (.float .f64 y.f1), .s (.string y.f2), .s (.slice B3 y.f3.length d3), .s (.slice B4 y.f4.length d4)] 27 none .no), (0, .row [.s (.int .i64 x.f0), .s (.float .f64 x.f1), .s (.string x.f2), .s (.slice (some ⟨k2, off2, none⟩) x.f3.length c3), .s (.slice (some ⟨kk, off, none⟩) x.f4.length c4)] 27 none .no)], _, 0⟩) (find_skip (find_skip find_same (by rw [find_cons, if_neg (Ne.symm y0), find_cons, if_neg (Ne.symm y2), find_cons, if_neg (Ne.symm y4), find_cons, if_neg (Ne.symm y6)]; rfl)) (by rw [find_cons, if_neg (Ne.symm u0), find_cons, if_neg (Ne.symm u2), find_cons, if_neg (Ne.symm u4), find_cons, if_neg (Ne.symm u6)]; rfl)) rfl ?_
        first | refine WpB.row (by decide) (by decide) (evh ?_) | refine WpB.seq (WpB.row (by decide) (by decide) (evh ?_)) | refine WpB.seq (WpB.seq (WpB.row (by decide) (by decide) (evh ?_))) | refine WpB.seq (WpB.seq (WpB.seq (WpB.row (by decide) (by decide) (evh ?_))))
        exact ⟨x.f4.length - (i + 1), by omega, i + 1, M2, rfl, rfl, hM24, f2, f3, f5, by rw [← d7]; rfl, hlt, rfl⟩
    have g1 : ¬ ((i : Int) < (x.f4.length : Int)) := by omega
    first | refine WpB.row (by decide) (by decide) (evh ?_) | refine WpB.seq (WpB.row (by decide) (by decide) (evh ?_)) | refine WpB.seq (WpB.seq (WpB.row (by decide) (by decide) (evh ?_))) | refine WpB.seq (WpB.seq (WpB.seq (WpB.row (by decide) (by decide) (evh ?_))))
    first | refine WpB.cond (by decide) rfl (fun e => by first | (cases e; done) | exact absurd (of_decide_eq_true e) g1) (fun _ => WpB.exit ?_) | refine WpB.seq (WpB.cond (by decide) rfl (fun e => by first | (cases e; done) | exact absurd (of_decide_eq_true e) g1) (fun _ => WpB.exit ?_)) | refine WpB.seq (WpB.seq (WpB.cond (by decide) rfl (fun e => by first | (cases e; done) | exact absurd (of_decide_eq_true e) g1) (fun _ => WpB.exit ?_))) | refine WpB.seq (WpB.seq (WpB.seq (WpB.cond (by decide) rfl (fun e => by first | (cases e; done) | exact absurd (of_decide_eq_true e) g1) (fun _ => WpB.exit ?_))))
    first | refine WpB.row (by decide) (by decide) (evh ?_) | refine WpB.seq (WpB.row (by decide) (by decide) (evh ?_)) | refine WpB.seq (WpB.seq (WpB.row (by decide) (by decide) (evh ?_))) | refine WpB.seq (WpB.seq (WpB.seq (WpB.row (by decide) (by decide) (evh ?_))))
    have hN3 : 3 < N := by omega
    refine SeqB.callV (by decide) (ht2 _ _ hvm hk1) (by decide) rfl rfl rfl rfl ?_
    rintro u v2 hu hk2
    rw [if_neg (by simp)] at hu
    obtain ⟨un, hun, rfl⟩ := hu
    have hvn := hun
    obtain ⟨E3, e3, E4, e4, rfl, m5, m6⟩ := hun
    unfold noErr
    have w0 : ¬ N ≤ 3 := by omega
    have w1 : ¬ N = 3 := by omega
    have w2 : ¬ 3 = N := by omega
    have w3 : ¬ N ≤ 2 := by omega
    have w4 : ¬ N = 2 := by omega
    have w5 : ¬ 2 = N := by omega
    have w6 : ¬ N ≤ 1 := by omega
    have w7 : ¬ N = 1 := by omega
    have w8 : ¬ 1 = N := by omega
    have w9 : ¬ N ≤ 0 := by omega
    have w10 : ¬ N = 0 := by omega
    have w11 : ¬ 0 = N := by omega
    have w12 : 0 ≤ N := by omega
    refine evh ?_
    have sm := same_gv _ m (Nat.le_refl _) v2 _ _ hvn (hvm.up hk2)
    first | refine WpB.row (by decide) (by decide) (evh ?_) | refine WpB.seq (WpB.row (by decide) (by decide) (evh ?_)) | refine WpB.seq (WpB.seq (WpB.row (by decide) (by decide) (evh ?_))) | refine WpB.seq (WpB.seq (WpB.seq (WpB.row (by decide) (by decide) (evh ?_))))
    refine SeqB.callQ (by decide) (sm.okx _) (by decide) rfl rfl rfl rfl ?_
    rintro u S' ⟨rfl, rfl⟩ _
    refine evh ?_
    refine SeqB.callQ (by decide) ((hh2 _ (hk1.trans hk2)).okx _) (by decide) rfl rfl rfl rfl ?_
    rintro u S' ⟨rfl, rfl⟩ _
    refine evh ?_
    refine WpB.ret ⟨.inr rfl, evr ?_⟩
    trivial
/-- .. as a call of the world. -/
theorem merges_calls {w : World} {x y : S27} {ux uy : Value} (hx : Vr w x ux) (hy : Vr w y uy) (gx : GS 1048576 x) (gy : GS 1048576 y) (hT : Tabs w) : Calls Tryz.prog 3 #[ux, uy] w fun e w' => e = .returned (.bool true) ∧ Below w.heap.size w w' :=
  ((merges_gv hx hy gx gy hT.tb).calls Tryz.func3 (by kernel_rfl) rfl).mono fun e w' ⟨u, v', he, hb, _, _, hu⟩ => ⟨by rw [he, hu], hb⟩
end Go.Proofs.YtmpmbnmldmpmiaaGreatDoor.Sim
