/- The law ValueObjects: both Gets, Keys, Puts, Drops do the same, and what is handed in stays. -/
import Derived.Test.YtmpmbnmldmpmiaaGreatDoorKeep
import Derived.Test.YtmpmbnmldmpmiaaGreatDoorOrderL
set_option linter.unusedVariables false
set_option linter.unusedSimpArgs false
set_option maxRecDepth 100000
namespace Go.Proofs.YtmpmbnmldmpmiaaGreatDoor.Sim
open Go Go.RowKit Go.Lib Go.Proofs.YtmpmbnmldmpmiaaGreatDoor.A Go.Proofs.YtmpmbnmldmpmiaaGreatDoorW.PrintWords Go.Proofs.YtmpmbnmldmpmiaaGreatDoorW.PrintLast Go.Proofs.YtmpmbnmldmpmiaaGreatDoorW.PrintMore
theorem right_open {x : S27} (h : rightV 10000 x = true) : RightF 9999 x := rightV_open (d := 9999) h
set_option maxHeartbeats 4000000 in
theorem objects_gv {v : World} {x y : S27} {ux uy : Value} (hx : Vr v x ux) (hy : Vr v y uy) (key : ByteArray) (hk : key.size ≤ 140737488351232) (gx : G27 x) (gy : G27 y) (hT : Tab T (Bs.of v)) : Gv Tryz.prog 9 [ux, .string key, uy] v fun u _ => u = .bool true := by
  have rx := right_gv hx gx
  have ry := right_gv hy gy
  have rv := valid_gv (v := v) key hk
  have hh := heads_gv hT
  have hh2 := fun v' (k : Known v v') => heads_gv (Tab_known hT k)
  have h3l : x.f3.length ≤ 1759218604390 := by cases gx; assumption
  cases hrx : rightV 10000 x with
  | false =>
    rw [hrx] at rx
    clear ry rv
    obtain ⟨A3, c3, A4, c4, rfl, h3, h4⟩ := hx
    obtain ⟨B3, d3, B4, d4, rfl, k3, k4⟩ := hy
    refine Gv.run Tryz.func9 (by kernel_rfl) rfl rfl rfl rfl fun b hb => ?_
    subst hb
    clear h3 h4 k3 k4 hT hh2
    first | refine WpB.row (by decide) (by decide) (ev ?_) | refine WpB.seq (WpB.row (by decide) (by decide) (ev ?_)) | refine WpB.seq (WpB.seq (WpB.row (by decide) (by decide) (ev ?_))) | refine WpB.seq (WpB.seq (WpB.seq (WpB.row (by decide) (by decide) (ev ?_))))
    first | refine WpB.row (by decide) (by decide) (evh ?_) | refine WpB.seq (WpB.row (by decide) (by decide) (evh ?_)) | refine WpB.seq (WpB.seq (WpB.row (by decide) (by decide) (evh ?_))) | refine WpB.seq (WpB.seq (WpB.seq (WpB.row (by decide) (by decide) (evh ?_))))
    refine SeqB.callQ (by decide) (rx.okx _) (by decide) rfl rfl rfl rfl ?_
    rintro u S' ⟨rfl, rfl⟩ _
    refine evh ?_
    first | refine WpB.cond (by decide) rfl (fun _ => ?_) (fun e => by cases e) | refine WpB.seq (WpB.cond (by decide) rfl (fun _ => ?_) (fun e => by cases e)) | refine WpB.seq (WpB.seq (WpB.cond (by decide) rfl (fun _ => ?_) (fun e => by cases e))) | refine WpB.seq (WpB.seq (WpB.seq (WpB.cond (by decide) rfl (fun _ => ?_) (fun e => by cases e))))
    first | refine WpB.row (by decide) (by decide) (evh ?_) | refine WpB.seq (WpB.row (by decide) (by decide) (evh ?_)) | refine WpB.seq (WpB.seq (WpB.row (by decide) (by decide) (evh ?_))) | refine WpB.seq (WpB.seq (WpB.seq (WpB.row (by decide) (by decide) (evh ?_))))
    refine SeqB.callQ (by decide) (hh.okx _) (by decide) rfl rfl rfl rfl ?_
    rintro u S' ⟨rfl, rfl⟩ _
    refine evh ?_
    refine WpB.ret ⟨.inr rfl, evr ?_⟩
    trivial
  | true =>
  rw [hrx] at rx
  have rf := right_open hrx
  have hl := rf.keys
  have hle : x.f4.length ≤ x.f3.length := by
    by_cases e : x.f0 = 6
    · rw [hl e]; exact Nat.le_refl _
    · rw [rf.none e]; exact Nat.zero_le _
  cases hry : rightV 10000 y with
  | false =>
    rw [hry] at ry
    clear rv
    obtain ⟨A3, c3, A4, c4, rfl, h3, h4⟩ := hx
    obtain ⟨B3, d3, B4, d4, rfl, k3, k4⟩ := hy
    refine Gv.run Tryz.func9 (by kernel_rfl) rfl rfl rfl rfl fun b hb => ?_
    subst hb
    clear h3 h4 k3 k4 hT hh2 rf hl hle
    first | refine WpB.row (by decide) (by decide) (ev ?_) | refine WpB.seq (WpB.row (by decide) (by decide) (ev ?_)) | refine WpB.seq (WpB.seq (WpB.row (by decide) (by decide) (ev ?_))) | refine WpB.seq (WpB.seq (WpB.seq (WpB.row (by decide) (by decide) (ev ?_))))
    first | refine WpB.row (by decide) (by decide) (evh ?_) | refine WpB.seq (WpB.row (by decide) (by decide) (evh ?_)) | refine WpB.seq (WpB.seq (WpB.row (by decide) (by decide) (evh ?_))) | refine WpB.seq (WpB.seq (WpB.seq (WpB.row (by decide) (by decide) (evh ?_))))
    refine SeqB.callQ (by decide) (rx.okx _) (by decide) rfl rfl rfl rfl ?_
    rintro u S' ⟨rfl, rfl⟩ _
    refine evh ?_
    refine SeqB.callQ (by decide) (ry.okx _) (by decide) rfl rfl rfl rfl ?_
    rintro u S' ⟨rfl, rfl⟩ _
    refine evh ?_
    first | refine WpB.cond (by decide) rfl (fun _ => ?_) (fun e => by cases e) | refine WpB.seq (WpB.cond (by decide) rfl (fun _ => ?_) (fun e => by cases e)) | refine WpB.seq (WpB.seq (WpB.cond (by decide) rfl (fun _ => ?_) (fun e => by cases e))) | refine WpB.seq (WpB.seq (WpB.seq (WpB.cond (by decide) rfl (fun _ => ?_) (fun e => by cases e))))
    first | refine WpB.row (by decide) (by decide) (evh ?_) | refine WpB.seq (WpB.row (by decide) (by decide) (evh ?_)) | refine WpB.seq (WpB.seq (WpB.row (by decide) (by decide) (evh ?_))) | refine WpB.seq (WpB.seq (WpB.seq (WpB.row (by decide) (by decide) (evh ?_))))
    refine SeqB.callQ (by decide) (hh.okx _) (by decide) rfl rfl rfl rfl ?_
    rintro u S' ⟨rfl, rfl⟩ _
    refine evh ?_
    refine WpB.ret ⟨.inr rfl, evr ?_⟩
    trivial
  | true =>
  rw [hry] at ry
  cases hrv : validD (kd_ key) with
  | false =>
    rw [hrv] at rv
    obtain ⟨A3, c3, A4, c4, rfl, h3, h4⟩ := hx
    obtain ⟨B3, d3, B4, d4, rfl, k3, k4⟩ := hy
    refine Gv.run Tryz.func9 (by kernel_rfl) rfl rfl rfl rfl fun b hb => ?_
    subst hb
    clear h3 h4 k3 k4 hT hh2 rf hl hle
    first | refine WpB.row (by decide) (by decide) (ev ?_) | refine WpB.seq (WpB.row (by decide) (by decide) (ev ?_)) | refine WpB.seq (WpB.seq (WpB.row (by decide) (by decide) (ev ?_))) | refine WpB.seq (WpB.seq (WpB.seq (WpB.row (by decide) (by decide) (ev ?_))))
    first | refine WpB.row (by decide) (by decide) (evh ?_) | refine WpB.seq (WpB.row (by decide) (by decide) (evh ?_)) | refine WpB.seq (WpB.seq (WpB.row (by decide) (by decide) (evh ?_))) | refine WpB.seq (WpB.seq (WpB.seq (WpB.row (by decide) (by decide) (evh ?_))))
    refine SeqB.callQ (by decide) (rx.okx _) (by decide) rfl rfl rfl rfl ?_
    rintro u S' ⟨rfl, rfl⟩ _
    refine evh ?_
    refine SeqB.callQ (by decide) (ry.okx _) (by decide) rfl rfl rfl rfl ?_
    rintro u S' ⟨rfl, rfl⟩ _
    refine evh ?_
    refine SeqB.callQ (by decide) (rv.okx _) (by decide) rfl rfl rfl rfl ?_
    rintro u S' ⟨rfl, rfl⟩ _
    refine evh ?_
    first | refine WpB.cond (by decide) rfl (fun _ => ?_) (fun e => by cases e) | refine WpB.seq (WpB.cond (by decide) rfl (fun _ => ?_) (fun e => by cases e)) | refine WpB.seq (WpB.seq (WpB.cond (by decide) rfl (fun _ => ?_) (fun e => by cases e))) | refine WpB.seq (WpB.seq (WpB.seq (WpB.cond (by decide) rfl (fun _ => ?_) (fun e => by cases e))))
    first | refine WpB.row (by decide) (by decide) (evh ?_) | refine WpB.seq (WpB.row (by decide) (by decide) (evh ?_)) | refine WpB.seq (WpB.seq (WpB.row (by decide) (by decide) (evh ?_))) | refine WpB.seq (WpB.seq (WpB.seq (WpB.row (by decide) (by decide) (evh ?_))))
    refine SeqB.callQ (by decide) (hh.okx _) (by decide) rfl rfl rfl rfl ?_
    rintro u S' ⟨rfl, rfl⟩ _
    refine evh ?_
    refine WpB.ret ⟨.inr rfl, evr ?_⟩
    trivial
  | true =>
  rw [hrv] at rv
  have hput := putR_gv hx hy key hl (by omega)
  have hgw := Gw.put gx hk gy hl (key := key)
  have rp := fun v' u (h : Vr v' (putL x key y) u) => rightW_gv h hgw
  cases hrp : rightV 10000 (putL x key y) with
  | false =>
    rw [hrp] at rp
    obtain ⟨A3, c3, A4, c4, rfl, h3, h4⟩ := hx
    obtain ⟨B3, d3, B4, d4, rfl, k3, k4⟩ := hy
    refine Gv.run Tryz.func9 (by kernel_rfl) rfl rfl rfl rfl fun b hb => ?_
    subst hb
    clear h3 h4 k3 k4 hT hh rf hl hle
    first | refine WpB.row (by decide) (by decide) (ev ?_) | refine WpB.seq (WpB.row (by decide) (by decide) (ev ?_)) | refine WpB.seq (WpB.seq (WpB.row (by decide) (by decide) (ev ?_))) | refine WpB.seq (WpB.seq (WpB.seq (WpB.row (by decide) (by decide) (ev ?_))))
    first | refine WpB.row (by decide) (by decide) (evh ?_) | refine WpB.seq (WpB.row (by decide) (by decide) (evh ?_)) | refine WpB.seq (WpB.seq (WpB.row (by decide) (by decide) (evh ?_))) | refine WpB.seq (WpB.seq (WpB.seq (WpB.row (by decide) (by decide) (evh ?_))))
    refine SeqB.callQ (by decide) (rx.okx _) (by decide) rfl rfl rfl rfl ?_
    rintro u S' ⟨rfl, rfl⟩ _
    refine evh ?_
    refine SeqB.callQ (by decide) (ry.okx _) (by decide) rfl rfl rfl rfl ?_
    rintro u S' ⟨rfl, rfl⟩ _
    refine evh ?_
    refine SeqB.callQ (by decide) (rv.okx _) (by decide) rfl rfl rfl rfl ?_
    rintro u S' ⟨rfl, rfl⟩ _
    refine evh ?_
    refine SeqB.callV (by decide) (hput) (by decide) rfl rfl rfl rfl ?_
    rintro u v1 hu hk1
    refine evh ?_
    refine SeqB.callQ (by decide) ((rp _ _ hu).okx _) (by decide) rfl rfl rfl rfl ?_
    rintro u S' ⟨rfl, rfl⟩ _
    refine evh ?_
    first | refine WpB.cond (by decide) rfl (fun _ => ?_) (fun e => by cases e) | refine WpB.seq (WpB.cond (by decide) rfl (fun _ => ?_) (fun e => by cases e)) | refine WpB.seq (WpB.seq (WpB.cond (by decide) rfl (fun _ => ?_) (fun e => by cases e))) | refine WpB.seq (WpB.seq (WpB.seq (WpB.cond (by decide) rfl (fun _ => ?_) (fun e => by cases e))))
    first | refine WpB.row (by decide) (by decide) (evh ?_) | refine WpB.seq (WpB.row (by decide) (by decide) (evh ?_)) | refine WpB.seq (WpB.seq (WpB.row (by decide) (by decide) (evh ?_))) | refine WpB.seq (WpB.seq (WpB.seq (WpB.row (by decide) (by decide) (evh ?_))))
    refine SeqB.callQ (by decide) ((hh2 _ hk1).okx _) (by decide) rfl rfl rfl rfl ?_
    rintro u S' ⟨rfl, rfl⟩ _
    refine evh ?_
    refine WpB.ret ⟨.inr rfl, evr ?_⟩
    trivial
  | true =>
  rw [hrp] at rp
  have cx := fun v' (k : Known v v') => copy_gv (hx.up k) gx
  have cy := fun v' (k : Known v v') => copy_gv (hy.up k) gy
  have ga := fun v' u (h : Vr v' x u) => get_ex h hle key
  have gb := fun v' (k : Known v v') => getRef_ex (hx.up k) hle key
  have hks := fun v' u (h : Vr v' x u) => keys_gv h (by omega)
  have hp1 := fun v' u u' (h : Vr v' x u) (h' : Vr v' y u') => put_gv h h' key hl (by omega)
  have hd1 := fun v' u (h : Vr v' x u) => drop_gv h key hl (by omega)
  have kr := fun v' (k : Known v v') => keysRef_gv (hx.up k) (by omega)
  have pr := fun v' (k : Known v v') => putR_gv (hx.up k) (hy.up k) key hl (by omega)
  have dr := fun v' (k : Known v v') => dropR_gv (hx.up k) key hl (by omega)
  rw [drop_same (fun e => ⟨hl e, rf.num (by omega), rf.str (by omega)⟩) rf.apart] at dr
  have HX := Hide.mk hx
  have HY := Hide.mk hy
  generalize putL x key y = p at *
  generalize dropL x key = dd at *
  generalize getL x key = gg at *
  generalize srt x.f4 = M at *
  obtain ⟨A3, c3, A4, c4, rfl, h3, h4⟩ := hx
  obtain ⟨B3, d3, B4, d4, rfl, k3, k4⟩ := hy
  have qb : (gg.2 == gg.2) = true := by simp
  refine Gv.run Tryz.func9 (by kernel_rfl) rfl rfl rfl rfl fun b hb => ?_
  subst hb
  clear h3 h4 k3 k4 hT hh rf hl hle hrp hrv hrx hry
  first | refine WpB.row (by decide) (by decide) (ev ?_) | refine WpB.seq (WpB.row (by decide) (by decide) (ev ?_)) | refine WpB.seq (WpB.seq (WpB.row (by decide) (by decide) (ev ?_))) | refine WpB.seq (WpB.seq (WpB.seq (WpB.row (by decide) (by decide) (ev ?_))))
  first | refine WpB.row (by decide) (by decide) (evh ?_) | refine WpB.seq (WpB.row (by decide) (by decide) (evh ?_)) | refine WpB.seq (WpB.seq (WpB.row (by decide) (by decide) (evh ?_))) | refine WpB.seq (WpB.seq (WpB.seq (WpB.row (by decide) (by decide) (evh ?_))))
  refine SeqB.callQ (by decide) (rx.okx _) (by decide) rfl rfl rfl rfl ?_
  rintro u S' ⟨rfl, rfl⟩ _
  refine evh ?_
  refine SeqB.callQ (by decide) (ry.okx _) (by decide) rfl rfl rfl rfl ?_
  rintro u S' ⟨rfl, rfl⟩ _
  refine evh ?_
  refine SeqB.callQ (by decide) (rv.okx _) (by decide) rfl rfl rfl rfl ?_
  rintro u S' ⟨rfl, rfl⟩ _
  refine evh ?_
  refine SeqB.callV (by decide) (hput) (by decide) rfl rfl rfl rfl ?_
  rintro u v1 hu hk1
  refine evh ?_
  refine SeqB.callQ (by decide) ((rp _ _ hu).okx _) (by decide) rfl rfl rfl rfl ?_
  rintro u S' ⟨rfl, rfl⟩ _
  refine evh ?_
  first | refine WpB.cond (by decide) rfl (fun e => by cases e) (fun _ => WpB.skip ?_) | refine WpB.seq (WpB.cond (by decide) rfl (fun e => by cases e) (fun _ => WpB.skip ?_)) | refine WpB.seq (WpB.seq (WpB.cond (by decide) rfl (fun e => by cases e) (fun _ => WpB.skip ?_))) | refine WpB.seq (WpB.seq (WpB.seq (WpB.cond (by decide) rfl (fun e => by cases e) (fun _ => WpB.skip ?_))))
  first | refine WpB.row (by decide) (by decide) (evh ?_) | refine WpB.seq (WpB.row (by decide) (by decide) (evh ?_)) | refine WpB.seq (WpB.seq (WpB.row (by decide) (by decide) (evh ?_))) | refine WpB.seq (WpB.seq (WpB.seq (WpB.row (by decide) (by decide) (evh ?_))))
  refine SeqB.callV (by decide) (cx _ hk1) (by decide) rfl rfl rfl rfl ?_
  rintro u v2 hu2 hk2
  have hx2 := hu2
  obtain ⟨P3, p3, P4, p4, rfl, _, _⟩ := hu2
  refine evh ?_
  first | refine WpB.row (by decide) (by decide) (evh ?_) | refine WpB.seq (WpB.row (by decide) (by decide) (evh ?_)) | refine WpB.seq (WpB.seq (WpB.row (by decide) (by decide) (evh ?_))) | refine WpB.seq (WpB.seq (WpB.seq (WpB.row (by decide) (by decide) (evh ?_))))
  refine SeqB.callV (by decide) (cy _ (hk1.trans hk2)) (by decide) rfl rfl rfl rfl ?_
  rintro u v3 hu3 hk3
  have hy3 := hu3
  obtain ⟨Q3, q3, Q4, q4, rfl, _, _⟩ := hu3
  refine evh ?_
  have hx3 := hx2.up hk3
  have kk3 := hk1.trans (hk2.trans hk3)
  obtain ⟨ua, hua, hca⟩ := ga _ _ hx3
  have hua2 := hua
  obtain ⟨R3, r3, R4, r4, rfl, _, _⟩ := hua
  first | refine WpB.row (by decide) (by decide) (evh ?_) | refine WpB.seq (WpB.row (by decide) (by decide) (evh ?_)) | refine WpB.seq (WpB.seq (WpB.row (by decide) (by decide) (evh ?_))) | refine WpB.seq (WpB.seq (WpB.seq (WpB.row (by decide) (by decide) (evh ?_))))
  refine SeqB.callQ (by decide) (hca.okx _) (by decide) rfl rfl rfl rfl ?_
  rintro u S' ⟨rfl, rfl⟩ _
  refine evh ?_
  obtain ⟨ub, hub, hcb⟩ := gb _ kk3
  have hub2 := hub
  obtain ⟨T3, t3, T4, t4, rfl, _, _⟩ := hub
  first | refine WpB.row (by decide) (by decide) (evh ?_) | refine WpB.seq (WpB.row (by decide) (by decide) (evh ?_)) | refine WpB.seq (WpB.seq (WpB.row (by decide) (by decide) (evh ?_))) | refine WpB.seq (WpB.seq (WpB.seq (WpB.row (by decide) (by decide) (evh ?_))))
  refine SeqB.callQ (by decide) (hcb.okx _) (by decide) rfl rfl rfl rfl ?_
  rintro u S' ⟨rfl, rfl⟩ _
  refine evh ?_
  first | refine WpB.row (by decide) (by decide) (evh ?_) | refine WpB.seq (WpB.row (by decide) (by decide) (evh ?_)) | refine WpB.seq (WpB.seq (WpB.row (by decide) (by decide) (evh ?_))) | refine WpB.seq (WpB.seq (WpB.seq (WpB.row (by decide) (by decide) (evh ?_))))
  refine SeqB.callV (by decide) (hks _ _ hx3) (by decide) rfl rfl rfl rfl ?_
  rintro u v4 ⟨K', c', rfl, hs⟩ hk4
  refine evh ?_
  first | refine WpB.row (by decide) (by decide) (evh ?_) | refine WpB.seq (WpB.row (by decide) (by decide) (evh ?_)) | refine WpB.seq (WpB.seq (WpB.row (by decide) (by decide) (evh ?_))) | refine WpB.seq (WpB.seq (WpB.seq (WpB.row (by decide) (by decide) (evh ?_))))
  refine SeqB.callV (by decide) (hp1 _ _ _ (hx3.up hk4) (hy3.up hk4)) (by decide) rfl rfl rfl rfl ?_
  rintro u v5 hu5 hk5
  have hp5 := hu5
  obtain ⟨W3, w3, W4, w4, rfl, _, _⟩ := hu5
  refine evh ?_
  first | refine WpB.row (by decide) (by decide) (evh ?_) | refine WpB.seq (WpB.row (by decide) (by decide) (evh ?_)) | refine WpB.seq (WpB.seq (WpB.row (by decide) (by decide) (evh ?_))) | refine WpB.seq (WpB.seq (WpB.seq (WpB.row (by decide) (by decide) (evh ?_))))
  refine SeqB.callV (by decide) (hd1 _ _ (hx3.up (hk4.trans hk5))) (by decide) rfl rfl rfl rfl ?_
  rintro u v6 hu6 hk6
  have hd6 := hu6
  obtain ⟨Y3, y3, Y4, y4, rfl, _, _⟩ := hu6
  refine evh ?_
  have k36 := hk4.trans (hk5.trans hk6)
  have kk6 := kk3.trans k36
  have s1 := same_gv _ gg.1 (Nat.le_refl _) v6 _ _ (hua2.up k36) (hub2.up k36)
  have hs6 := hs.up (hk5.trans hk6)
  have hp6 := hp5.up hk6
  have hx6 := hx3.up k36
  have hy6 := hy3.up k36
  (first | refine WpB.draw (by kernel_rfl) (by decide) [0, 1, 2, 3, 4, 5, 6, 7, 8, 9, 10, 11, 12, 13, 14, 15, 16, 17, 18, 19, 20, 21, 22, 23, 24, 25, 26, 27, 28, 29, 30, 31, 32, 33, 34, 35, 36, 37, 38, 39, 40, 41, 42] (by kernel_rfl) (by kernel_rfl) (by kernel_rfl) (by kernel_rfl) (by kernel_rfl) rfl ?_ | refine WpB.seq (WpB.draw (by kernel_rfl) (by decide) [0, 1, 2, 3, 4, 5, 6, 7, 8, 9, 10, 11, 12, 13, 14, 15, 16, 17, 18, 19, 20, 21, 22, 23, 24, 25, 26, 27, 28, 29, 30, 31, 32, 33, 34, 35, 36, 37, 38, 39, 40, 41, 42] (by kernel_rfl) (by kernel_rfl) (by kernel_rfl) (by kernel_rfl) (by kernel_rfl) rfl ?_) | refine WpB.seq (WpB.seq (WpB.draw (by kernel_rfl) (by decide) [0, 1, 2, 3, 4, 5, 6, 7, 8, 9, 10, 11, 12, 13, 14, 15, 16, 17, 18, 19, 20, 21, 22, 23, 24, 25, 26, 27, 28, 29, 30, 31, 32, 33, 34, 35, 36, 37, 38, 39, 40, 41, 42] (by kernel_rfl) (by kernel_rfl) (by kernel_rfl) (by kernel_rfl) (by kernel_rfl) rfl ?_)) | refine WpB.seq (WpB.seq (WpB.seq (WpB.draw (by kernel_rfl) (by decide) [0, 1, 2, 3, 4, 5, 6, 7, 8, 9, 10, 11, 12, 13, 14, 15, 16, 17, 18, 19, 20, 21, 22, 23, 24, 25, 26, 27, 28, 29, 30, 31, 32, 33, 34, 35, 36, 37, 38, 39, 40, 41, 42] (by kernel_rfl) (by kernel_rfl) (by kernel_rfl) (by kernel_rfl) (by kernel_rfl) rfl ?_)))); simp (config := {maxSteps := 10000000}) only [opAt, List.map_cons, List.map_nil, List.getElem?_toArray, List.getElem?_cons_succ, List.getElem?_cons_zero, Option.getD_some]; refine evhL ?_
  refine EvOC.call rfl rfl rfl (CallB.of_ok (Gv.okx (b := ⟨b.w, v6⟩) (s1) _)) ?_
  rintro b1 u ⟨rfl, rfl⟩
  refine evhL ?_
  refine EvOC.call rfl rfl rfl (CallB.of_gv (kr _ kk6)) ?_
  rintro g1 u ⟨q7, rfl, hw7, hk7, G', g', rfl, hs7⟩
  have hk7 : Known v6 g1.v := hk7
  refine evhL ?_
  refine EvOC.call rfl rfl rfl (CallB.of_ok (Gv.okx (texts_gv (hs6.up hk7) hs7) _)) ?_
  rintro b1' u ⟨rfl, rfl⟩
  refine evhL ?_
  refine EvOC.call rfl rfl rfl (CallB.of_gv (pr _ (kk6.trans hk7))) ?_
  rintro g2 u ⟨q8, rfl, hw8, hk8, hR8⟩
  refine evhL ?_
  refine EvOC.call rfl rfl rfl (CallB.of_ok (Gv.okx (same_gv _ p (Nat.le_refl _) _ _ _ (hp6.up (hk7.trans hk8)) hR8) _)) ?_
  rintro b1' u ⟨rfl, rfl⟩
  refine evhL ?_
  refine EvOC.call rfl rfl rfl (CallB.of_gv (dr _ (kk6.trans (hk7.trans hk8)))) ?_
  rintro g3 u ⟨q9, rfl, hw9, hk9, hR9⟩
  refine evhL ?_
  have k69 := hk7.trans (hk8.trans hk9)
  refine EvOC.call rfl rfl rfl (CallB.of_ok (Gv.okx (same_gv _ dd (Nat.le_refl _) _ _ _ (hd6.up k69) hR9) _)) ?_
  rintro b1' u ⟨rfl, rfl⟩
  refine evhL ?_
  refine EvOC.call rfl rfl rfl (CallB.of_ok (Gv.okx (same_gv _ x (Nat.le_refl _) _ _ _ (hx6.up k69) (HX.out.up (kk6.trans k69))) _)) ?_
  rintro b1' u ⟨rfl, rfl⟩
  refine evhL ?_
  refine EvOC.call rfl rfl rfl (CallB.of_ok (Gv.okx (same_gv _ y (Nat.le_refl _) _ _ _ (hy6.up k69) (HY.out.up (kk6.trans k69))) _)) ?_
  rintro b1' u ⟨rfl, rfl⟩
  refine evhL ?_
  refine EvOC.call rfl rfl rfl (CallB.of_ok (Gv.okx (hh2 _ (kk6.trans k69)) _)) ?_
  rintro b1' u ⟨rfl, rfl⟩
  refine evhL ?_
  refine WpB.ret ⟨.inr rfl, evr ?_⟩
  trivial
/-- .. as a call of the world. -/
theorem objects_calls {w : World} {x y : S27} {ux uy : Value} (hx : Vr w x ux) (key : ByteArray) (hy : Vr w y uy) (gx : G27 x) (hk : key.size ≤ 140737488351232) (gy : G27 y) (hT : Tabs w) : Calls Tryz.prog 9 #[ux, .string key, uy] w fun e w' => e = .returned (.bool true) ∧ Below w.heap.size w w' :=
  ((objects_gv hx hy key hk gx gy hT.tb).calls Tryz.func9 (by kernel_rfl) rfl).mono fun e w' ⟨u, v', he, hb, _, _, hu⟩ => ⟨by rw [he, hu], hb⟩
end Go.Proofs.YtmpmbnmldmpmiaaGreatDoor.Sim
