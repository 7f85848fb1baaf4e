/- The law ValueKeeps: what is put is got, and what was put anew can be dropped. -/
import Derived.Test.YtmpmbnmldmpmiaaGreatDoorKeep
import Derived.Test.YtmpmbnmldmpmiaaGreatDoorOrderL
set_option linter.unusedVariables false
set_option linter.unusedSimpArgs false
set_option maxRecDepth 100000
namespace Go.Proofs.YtmpmbnmldmpmiaaGreatDoor.Sim
open Go Go.RowKit Go.Lib Go.Proofs.YtmpmbnmldmpmiaaGreatDoor.A Go.Proofs.YtmpmbnmldmpmiaaGreatDoorW.PrintWords Go.Proofs.YtmpmbnmldmpmiaaGreatDoorW.PrintLast Go.Proofs.YtmpmbnmldmpmiaaGreatDoorW.PrintMore
theorem right_open {x : S27} (h : rightV 10000 x = true) : RightF 9999 x := rightV_open (d := 9999) h
set_option maxHeartbeats 4000000 in
theorem keeps_gv {v : World} {x y : S27} {ux uy : Value} (hx : Vr v x ux) (hy : Vr v y uy) (key : ByteArray) (hk : key.size ≤ 140737488351232) (gx : G27 x) (gy : G27 y) (hT : Tab T (Bs.of v)) : Gv Tryz.prog 10 [ux, .string key, uy] v fun u _ => u = .bool true := by
  have rx := right_gv hx gx
  have ry := right_gv hy gy
  have rv := valid_gv (v := v) key hk
  have hh := heads_gv hT
  have hh2 := fun v' (k : Known v v') => heads_gv (Tab_known hT k)
  have h3l : x.f3.length ≤ 1759218604390 := by cases gx; assumption
  cases hrx : rightV 10000 x with
  | false =>
    rw [hrx] at rx
    clear ry rv
    obtain ⟨A3, c3, A4, c4, rfl, h3, h4⟩ := hx
    obtain ⟨B3, d3, B4, d4, rfl, k3, k4⟩ := hy
    refine Gv.run Tryz.func10 (by kernel_rfl) rfl rfl rfl rfl fun b hb => ?_
    subst hb
    clear h3 h4 k3 k4 hT hh2
    first | refine WpB.row (by decide) (by decide) (ev ?_) | refine WpB.seq (WpB.row (by decide) (by decide) (ev ?_)) | refine WpB.seq (WpB.seq (WpB.row (by decide) (by decide) (ev ?_))) | refine WpB.seq (WpB.seq (WpB.seq (WpB.row (by decide) (by decide) (ev ?_))))
    first | refine WpB.row (by decide) (by decide) (evh ?_) | refine WpB.seq (WpB.row (by decide) (by decide) (evh ?_)) | refine WpB.seq (WpB.seq (WpB.row (by decide) (by decide) (evh ?_))) | refine WpB.seq (WpB.seq (WpB.seq (WpB.row (by decide) (by decide) (evh ?_))))
    refine SeqB.callQ (by decide) (rx.okx _) (by decide) rfl rfl rfl rfl ?_
    rintro u S' ⟨rfl, rfl⟩ _
    refine evh ?_
    first | refine WpB.cond (by decide) rfl (fun _ => ?_) (fun e => by cases e) | refine WpB.seq (WpB.cond (by decide) rfl (fun _ => ?_) (fun e => by cases e)) | refine WpB.seq (WpB.seq (WpB.cond (by decide) rfl (fun _ => ?_) (fun e => by cases e))) | refine WpB.seq (WpB.seq (WpB.seq (WpB.cond (by decide) rfl (fun _ => ?_) (fun e => by cases e))))
    first | refine WpB.row (by decide) (by decide) (evh ?_) | refine WpB.seq (WpB.row (by decide) (by decide) (evh ?_)) | refine WpB.seq (WpB.seq (WpB.row (by decide) (by decide) (evh ?_))) | refine WpB.seq (WpB.seq (WpB.seq (WpB.row (by decide) (by decide) (evh ?_))))
    refine SeqB.callQ (by decide) (hh.okx _) (by decide) rfl rfl rfl rfl ?_
    rintro u S' ⟨rfl, rfl⟩ _
    refine evh ?_
    refine WpB.ret ⟨.inr rfl, evr ?_⟩
    trivial
  | true =>
  rw [hrx] at rx
  have rf := right_open hrx
  have hl := rf.keys
  cases hry : rightV 10000 y with
  | false =>
    rw [hry] at ry
    clear rv
    obtain ⟨A3, c3, A4, c4, rfl, h3, h4⟩ := hx
    obtain ⟨B3, d3, B4, d4, rfl, k3, k4⟩ := hy
    refine Gv.run Tryz.func10 (by kernel_rfl) rfl rfl rfl rfl fun b hb => ?_
    subst hb
    clear h3 h4 k3 k4 hT hh2 rf hl
    first | refine WpB.row (by decide) (by decide) (ev ?_) | refine WpB.seq (WpB.row (by decide) (by decide) (ev ?_)) | refine WpB.seq (WpB.seq (WpB.row (by decide) (by decide) (ev ?_))) | refine WpB.seq (WpB.seq (WpB.seq (WpB.row (by decide) (by decide) (ev ?_))))
    first | refine WpB.row (by decide) (by decide) (evh ?_) | refine WpB.seq (WpB.row (by decide) (by decide) (evh ?_)) | refine WpB.seq (WpB.seq (WpB.row (by decide) (by decide) (evh ?_))) | refine WpB.seq (WpB.seq (WpB.seq (WpB.row (by decide) (by decide) (evh ?_))))
    refine SeqB.callQ (by decide) (rx.okx _) (by decide) rfl rfl rfl rfl ?_
    rintro u S' ⟨rfl, rfl⟩ _
    refine evh ?_
    refine SeqB.callQ (by decide) (ry.okx _) (by decide) rfl rfl rfl rfl ?_
    rintro u S' ⟨rfl, rfl⟩ _
    refine evh ?_
    first | refine WpB.cond (by decide) rfl (fun _ => ?_) (fun e => by cases e) | refine WpB.seq (WpB.cond (by decide) rfl (fun _ => ?_) (fun e => by cases e)) | refine WpB.seq (WpB.seq (WpB.cond (by decide) rfl (fun _ => ?_) (fun e => by cases e))) | refine WpB.seq (WpB.seq (WpB.seq (WpB.cond (by decide) rfl (fun _ => ?_) (fun e => by cases e))))
    first | refine WpB.row (by decide) (by decide) (evh ?_) | refine WpB.seq (WpB.row (by decide) (by decide) (evh ?_)) | refine WpB.seq (WpB.seq (WpB.row (by decide) (by decide) (evh ?_))) | refine WpB.seq (WpB.seq (WpB.seq (WpB.row (by decide) (by decide) (evh ?_))))
    refine SeqB.callQ (by decide) (hh.okx _) (by decide) rfl rfl rfl rfl ?_
    rintro u S' ⟨rfl, rfl⟩ _
    refine evh ?_
    refine WpB.ret ⟨.inr rfl, evr ?_⟩
    trivial
  | true =>
  rw [hry] at ry
  cases hrv : validD (kd_ key) with
  | false =>
    rw [hrv] at rv
    obtain ⟨A3, c3, A4, c4, rfl, h3, h4⟩ := hx
    obtain ⟨B3, d3, B4, d4, rfl, k3, k4⟩ := hy
    refine Gv.run Tryz.func10 (by kernel_rfl) rfl rfl rfl rfl fun b hb => ?_
    subst hb
    clear h3 h4 k3 k4 hT hh2 rf hl
    first | refine WpB.row (by decide) (by decide) (ev ?_) | refine WpB.seq (WpB.row (by decide) (by decide) (ev ?_)) | refine WpB.seq (WpB.seq (WpB.row (by decide) (by decide) (ev ?_))) | refine WpB.seq (WpB.seq (WpB.seq (WpB.row (by decide) (by decide) (ev ?_))))
    first | refine WpB.row (by decide) (by decide) (evh ?_) | refine WpB.seq (WpB.row (by decide) (by decide) (evh ?_)) | refine WpB.seq (WpB.seq (WpB.row (by decide) (by decide) (evh ?_))) | refine WpB.seq (WpB.seq (WpB.seq (WpB.row (by decide) (by decide) (evh ?_))))
    refine SeqB.callQ (by decide) (rx.okx _) (by decide) rfl rfl rfl rfl ?_
    rintro u S' ⟨rfl, rfl⟩ _
    refine evh ?_
    refine SeqB.callQ (by decide) (ry.okx _) (by decide) rfl rfl rfl rfl ?_
    rintro u S' ⟨rfl, rfl⟩ _
    refine evh ?_
    refine SeqB.callQ (by decide) (rv.okx _) (by decide) rfl rfl rfl rfl ?_
    rintro u S' ⟨rfl, rfl⟩ _
    refine evh ?_
    first | refine WpB.cond (by decide) rfl (fun _ => ?_) (fun e => by cases e) | refine WpB.seq (WpB.cond (by decide) rfl (fun _ => ?_) (fun e => by cases e)) | refine WpB.seq (WpB.seq (WpB.cond (by decide) rfl (fun _ => ?_) (fun e => by cases e))) | refine WpB.seq (WpB.seq (WpB.seq (WpB.cond (by decide) rfl (fun _ => ?_) (fun e => by cases e))))
    first | refine WpB.row (by decide) (by decide) (evh ?_) | refine WpB.seq (WpB.row (by decide) (by decide) (evh ?_)) | refine WpB.seq (WpB.seq (WpB.row (by decide) (by decide) (evh ?_))) | refine WpB.seq (WpB.seq (WpB.seq (WpB.row (by decide) (by decide) (evh ?_))))
    refine SeqB.callQ (by decide) (hh.okx _) (by decide) rfl rfl rfl rfl ?_
    rintro u S' ⟨rfl, rfl⟩ _
    refine evh ?_
    refine WpB.ret ⟨.inr rfl, evr ?_⟩
    trivial
  | true =>
  rw [hrv] at rv
  by_cases e6 : x.f0 = 6
  rotate_left
  · have q1 : (x.f0 != 6) = true := by simpa using e6
    obtain ⟨A3, c3, A4, c4, rfl, h3, h4⟩ := hx
    obtain ⟨B3, d3, B4, d4, rfl, k3, k4⟩ := hy
    refine Gv.run Tryz.func10 (by kernel_rfl) rfl rfl rfl rfl fun b hb => ?_
    subst hb
    clear h3 h4 k3 k4 hT hh2 rf hl e6
    first | refine WpB.row (by decide) (by decide) (ev ?_) | refine WpB.seq (WpB.row (by decide) (by decide) (ev ?_)) | refine WpB.seq (WpB.seq (WpB.row (by decide) (by decide) (ev ?_))) | refine WpB.seq (WpB.seq (WpB.seq (WpB.row (by decide) (by decide) (ev ?_))))
    first | refine WpB.row (by decide) (by decide) (evh ?_) | refine WpB.seq (WpB.row (by decide) (by decide) (evh ?_)) | refine WpB.seq (WpB.seq (WpB.row (by decide) (by decide) (evh ?_))) | refine WpB.seq (WpB.seq (WpB.seq (WpB.row (by decide) (by decide) (evh ?_))))
    refine SeqB.callQ (by decide) (rx.okx _) (by decide) rfl rfl rfl rfl ?_
    rintro u S' ⟨rfl, rfl⟩ _
    refine evh ?_
    refine SeqB.callQ (by decide) (ry.okx _) (by decide) rfl rfl rfl rfl ?_
    rintro u S' ⟨rfl, rfl⟩ _
    refine evh ?_
    refine SeqB.callQ (by decide) (rv.okx _) (by decide) rfl rfl rfl rfl ?_
    rintro u S' ⟨rfl, rfl⟩ _
    refine evh ?_
    first | refine WpB.cond (by decide) rfl (fun _ => ?_) (fun e => by cases e) | refine WpB.seq (WpB.cond (by decide) rfl (fun _ => ?_) (fun e => by cases e)) | refine WpB.seq (WpB.seq (WpB.cond (by decide) rfl (fun _ => ?_) (fun e => by cases e))) | refine WpB.seq (WpB.seq (WpB.seq (WpB.cond (by decide) rfl (fun _ => ?_) (fun e => by cases e))))
    first | refine WpB.row (by decide) (by decide) (evh ?_) | refine WpB.seq (WpB.row (by decide) (by decide) (evh ?_)) | refine WpB.seq (WpB.seq (WpB.row (by decide) (by decide) (evh ?_))) | refine WpB.seq (WpB.seq (WpB.seq (WpB.row (by decide) (by decide) (evh ?_))))
    refine SeqB.callQ (by decide) (hh.okx _) (by decide) rfl rfl rfl rfl ?_
    rintro u S' ⟨rfl, rfl⟩ _
    refine evh ?_
    refine WpB.ret ⟨.inr rfl, evr ?_⟩
    trivial
  have q1 : (x.f0 != 6) = false := by simpa using e6
  have hput := putR_gv hx hy key hl (by omega)
  have hgw := Gw.put gx hk gy hl (key := key)
  have rp := fun v' u (h : Vr v' (putL x key y) u) => rightW_gv h hgw
  cases hrp : rightV 10000 (putL x key y) with
  | false =>
    rw [hrp] at rp
    obtain ⟨A3, c3, A4, c4, rfl, h3, h4⟩ := hx
    obtain ⟨B3, d3, B4, d4, rfl, k3, k4⟩ := hy
    refine Gv.run Tryz.func10 (by kernel_rfl) rfl rfl rfl rfl fun b hb => ?_
    subst hb
    clear h3 h4 k3 k4 hT hh rf hl e6
    first | refine WpB.row (by decide) (by decide) (ev ?_) | refine WpB.seq (WpB.row (by decide) (by decide) (ev ?_)) | refine WpB.seq (WpB.seq (WpB.row (by decide) (by decide) (ev ?_))) | refine WpB.seq (WpB.seq (WpB.seq (WpB.row (by decide) (by decide) (ev ?_))))
    first | refine WpB.row (by decide) (by decide) (evh ?_) | refine WpB.seq (WpB.row (by decide) (by decide) (evh ?_)) | refine WpB.seq (WpB.seq (WpB.row (by decide) (by decide) (evh ?_))) | refine WpB.seq (WpB.seq (WpB.seq (WpB.row (by decide) (by decide) (evh ?_))))
    refine SeqB.callQ (by decide) (rx.okx _) (by decide) rfl rfl rfl rfl ?_
    rintro u S' ⟨rfl, rfl⟩ _
    refine evh ?_
    refine SeqB.callQ (by decide) (ry.okx _) (by decide) rfl rfl rfl rfl ?_
    rintro u S' ⟨rfl, rfl⟩ _
    refine evh ?_
    refine SeqB.callQ (by decide) (rv.okx _) (by decide) rfl rfl rfl rfl ?_
    rintro u S' ⟨rfl, rfl⟩ _
    refine evh ?_
    refine SeqB.callV (by decide) (hput) (by decide) rfl rfl rfl rfl ?_
    rintro u v1 hu hk1
    refine evh ?_
    refine SeqB.callQ (by decide) ((rp _ _ hu).okx _) (by decide) rfl rfl rfl rfl ?_
    rintro u S' ⟨rfl, rfl⟩ _
    refine evh ?_
    first | refine WpB.cond (by decide) rfl (fun _ => ?_) (fun e => by cases e) | refine WpB.seq (WpB.cond (by decide) rfl (fun _ => ?_) (fun e => by cases e)) | refine WpB.seq (WpB.seq (WpB.cond (by decide) rfl (fun _ => ?_) (fun e => by cases e))) | refine WpB.seq (WpB.seq (WpB.seq (WpB.cond (by decide) rfl (fun _ => ?_) (fun e => by cases e))))
    first | refine WpB.row (by decide) (by decide) (evh ?_) | refine WpB.seq (WpB.row (by decide) (by decide) (evh ?_)) | refine WpB.seq (WpB.seq (WpB.row (by decide) (by decide) (evh ?_))) | refine WpB.seq (WpB.seq (WpB.seq (WpB.row (by decide) (by decide) (evh ?_))))
    refine SeqB.callQ (by decide) ((hh2 _ hk1).okx _) (by decide) rfl rfl rfl rfl ?_
    rintro u S' ⟨rfl, rfl⟩ _
    refine evh ?_
    refine WpB.ret ⟨.inr rfl, evr ?_⟩
    trivial
  | true =>
  rw [hrp] at rp
  obtain ⟨pn, pl, p6⟩ := put_right (d := 9999) e6 hrp
  have plen := put_len (x := x) (key := key) (y := y)
  have hg1 := fun v' (k : Known v v') => get_ex (hx.up k) (by rw [hl e6]; exact Nat.le_refl _) key
  have hg2 := fun v' u (h : Vr v' (putL x key y) u) => get_ex h (by rw [pl]; exact Nat.le_refl _) key
  rw [get_put e6 (hl e6)] at hg2
  have hp2 := fun v' (k : Known v v') => put_gv (hx.up k) (hy.up k) key hl (by omega)
  have hks := fun v' u (h : Vr v' (putL x key y) u) => keys_gv h (by omega)
  have hd := fun v' u (h : Vr v' (putL x key y) u) => drop_gv h key (fun _ => pl) (by omega)
  have gd := get_drop p6 pn (key := key)
  have hdl : (dropL (putL x key y) key).f4.length ≤ (dropL (putL x key y) key).f3.length := by
    unfold dropL
    rw [if_pos p6]
    split
    · omega
    · simp [objV, pl]
  have hg3 := fun v' u (h : Vr v' (dropL (putL x key y) key) u) => get_ex h hdl key
  have dp := drop_put (x := x) (key := key) (y := y) e6 (hl e6) (rf.num (by omega)) (rf.str (by omega))
  have hrise := fun i (hi : i + 1 < (srt (putL x key y).f4).length) => srt_rise pn hi
  have hslen : (srt (putL x key y).f4).length = (putL x key y).f3.length := by rw [(srt_perm _).length_eq, pl]
  have hplen : (putL x key y).f3.length ≤ 1759218604391 := by omega
  have HX := Hide.mk hx
  have HY := Hide.mk hy
  generalize putL x key y = p at *
  generalize dropL p key = dd at *
  generalize (getL x key).2 = had at hg1 dp
  dsimp only at hg2
  have hM : ∃ M : List ByteArray, (∀ (v' : World) (u : Value), Vr v' p u → Gv Tryz.prog 38 [u] v' fun u' v' => ∃ A' c', u' = .slice A' M.length c' ∧ Sw v' M A' c') ∧ (∀ i (hi : i + 1 < M.length), (Op.bytesLess M[i + 1].toList M[i].toList || M[i + 1].toList == M[i].toList) = false) ∧ M.length = p.f3.length := ⟨_, hks, hrise, hslen⟩
  clear hks hrise hslen
  obtain ⟨M, hks, hrise, hslen⟩ := hM
  obtain ⟨A3, c3, A4, c4, rfl, h3, h4⟩ := hx
  obtain ⟨B3, d3, B4, d4, rfl, k3, k4⟩ := hy
  have PL := Hide.mk pl
  have DP := Hide.mk dp
  have HR := Hide.mk hrise
  have SL := Hide.mk hslen
  refine Gv.run Tryz.func10 (by kernel_rfl) rfl rfl rfl rfl fun b hb => ?_
  subst hb
  clear h3 h4 k3 k4 hT hh rf hl e6 pl dp hrise hslen pn p6 plen hdl hrp hrv hrx hry
  first | refine WpB.row (by decide) (by decide) (ev ?_) | refine WpB.seq (WpB.row (by decide) (by decide) (ev ?_)) | refine WpB.seq (WpB.seq (WpB.row (by decide) (by decide) (ev ?_))) | refine WpB.seq (WpB.seq (WpB.seq (WpB.row (by decide) (by decide) (ev ?_))))
  first | refine WpB.row (by decide) (by decide) (evh ?_) | refine WpB.seq (WpB.row (by decide) (by decide) (evh ?_)) | refine WpB.seq (WpB.seq (WpB.row (by decide) (by decide) (evh ?_))) | refine WpB.seq (WpB.seq (WpB.seq (WpB.row (by decide) (by decide) (evh ?_))))
  refine SeqB.callQ (by decide) (rx.okx _) (by decide) rfl rfl rfl rfl ?_
  rintro u S' ⟨rfl, rfl⟩ _
  refine evh ?_
  refine SeqB.callQ (by decide) (ry.okx _) (by decide) rfl rfl rfl rfl ?_
  rintro u S' ⟨rfl, rfl⟩ _
  refine evh ?_
  refine SeqB.callQ (by decide) (rv.okx _) (by decide) rfl rfl rfl rfl ?_
  rintro u S' ⟨rfl, rfl⟩ _
  refine evh ?_
  refine SeqB.callV (by decide) (hput) (by decide) rfl rfl rfl rfl ?_
  rintro u v1 hu hk1
  refine evh ?_
  refine SeqB.callQ (by decide) ((rp _ _ hu).okx _) (by decide) rfl rfl rfl rfl ?_
  rintro u S' ⟨rfl, rfl⟩ _
  refine evh ?_
  first | refine WpB.cond (by decide) rfl (fun e => by cases e) (fun _ => WpB.skip ?_) | refine WpB.seq (WpB.cond (by decide) rfl (fun e => by cases e) (fun _ => WpB.skip ?_)) | refine WpB.seq (WpB.seq (WpB.cond (by decide) rfl (fun e => by cases e) (fun _ => WpB.skip ?_))) | refine WpB.seq (WpB.seq (WpB.seq (WpB.cond (by decide) rfl (fun e => by cases e) (fun _ => WpB.skip ?_))))
  obtain ⟨ug, hgv, hgc⟩ := hg1 _ hk1
  obtain ⟨P3, p3, P4, p4, rfl, _, _⟩ := hgv
  first | refine WpB.row (by decide) (by decide) (evh ?_) | refine WpB.seq (WpB.row (by decide) (by decide) (evh ?_)) | refine WpB.seq (WpB.seq (WpB.row (by decide) (by decide) (evh ?_))) | refine WpB.seq (WpB.seq (WpB.seq (WpB.row (by decide) (by decide) (evh ?_))))
  refine SeqB.callQ (by decide) (hgc.okx _) (by decide) rfl rfl rfl rfl ?_
  rintro u S' ⟨rfl, rfl⟩ _
  refine evh ?_
  first | refine WpB.row (by decide) (by decide) (evh ?_) | refine WpB.seq (WpB.row (by decide) (by decide) (evh ?_)) | refine WpB.seq (WpB.seq (WpB.row (by decide) (by decide) (evh ?_))) | refine WpB.seq (WpB.seq (WpB.seq (WpB.row (by decide) (by decide) (evh ?_))))
  refine SeqB.callV (by decide) (hp2 _ hk1) (by decide) rfl rfl rfl rfl ?_
  rintro u v2 hu2 hk2
  have hv2 := hu2
  obtain ⟨Q3, q3, Q4, q4, rfl, _, _⟩ := hu2
  refine evh ?_
  obtain ⟨uz, hz, hzc⟩ := hg2 _ _ hv2
  have hz2 := hz
  obtain ⟨R3, r3, R4, r4, rfl, _, _⟩ := hz
  first | refine WpB.row (by decide) (by decide) (evh ?_) | refine WpB.seq (WpB.row (by decide) (by decide) (evh ?_)) | refine WpB.seq (WpB.seq (WpB.row (by decide) (by decide) (evh ?_))) | refine WpB.seq (WpB.seq (WpB.seq (WpB.row (by decide) (by decide) (evh ?_))))
  refine SeqB.callQ (by decide) (hzc.okx _) (by decide) rfl rfl rfl rfl ?_
  rintro u S' ⟨rfl, rfl⟩ _
  refine evh ?_
  first | refine WpB.row (by decide) (by decide) (evh ?_) | refine WpB.seq (WpB.row (by decide) (by decide) (evh ?_)) | refine WpB.seq (WpB.seq (WpB.row (by decide) (by decide) (evh ?_))) | refine WpB.seq (WpB.seq (WpB.seq (WpB.row (by decide) (by decide) (evh ?_))))
  refine SeqB.callV (by decide) (hks _ _ hv2) (by decide) rfl rfl rfl rfl ?_
  rintro u v3 ⟨K', c', rfl, hs⟩ hk3
  refine evh ?_
  first | refine WpB.row (by decide) (by decide) (evh ?_) | refine WpB.seq (WpB.row (by decide) (by decide) (evh ?_)) | refine WpB.seq (WpB.seq (WpB.row (by decide) (by decide) (evh ?_))) | refine WpB.seq (WpB.seq (WpB.seq (WpB.row (by decide) (by decide) (evh ?_))))
  first | refine WpB.block ?_ | refine WpB.seq (WpB.block ?_) | refine WpB.seq (WpB.seq (WpB.block ?_)) | refine WpB.seq (WpB.seq (WpB.seq (WpB.block ?_)))
  refine WpB.forget (S2 := ⟨[(4, _), (3, _), (1, _), (0, _)], _, 0⟩) (find_both (find_both (find_skip find_same rfl))) rfl ?_
  refine WpB.loop (fun m b' F S => ∃ (i : Nat), b' = ⟨b.w, v3⟩ ∧ S = ⟨[(4, .row [.s (.int .i64 y.f0), .s (.float .f64 y.f1), .s (.string y.f2), .s (.slice R3 y.f3.length r3), .s (.slice R4 y.f4.length r4)] 27 none .no), (3, .row [.s (.int .i64 p.f0), .s (.float .f64 p.f1), .s (.string p.f2), .s (.slice Q3 p.f3.length q3), .s (.slice Q4 p.f4.length q4)] 27 none .no), (1, .row [.s (.int .i64 y.f0), .s (.float .f64 y.f1), .s (.string y.f2), .s (.slice B3 y.f3.length d3), .s (.slice B4 y.f4.length d4)] 27 none .no), (0, .row [.s (.int .i64 x.f0), .s (.float .f64 x.f1), .s (.string x.f2), .s (.slice A3 x.f3.length c3), .s (.slice A4 x.f4.length c4)] 27 none .no)], 5, 0⟩ ∧ F 1 = .s (.string key) ∧ F 3 = .ptr 0 0 ∧ F 5 = .ptr 1 0 ∧ F 8 = .s (.bool had) ∧ F 9 = .ptr 3 0 ∧ F 10 = .ptr 4 0 ∧ F 11 = .s (.bool true) ∧ F 12 = .s (.slice K' M.length c') ∧ F 13 = .s (.int .i64 (i : Int)) ∧ 1 ≤ i ∧ m = M.length + 1 - i) M.length ⟨1, rfl, rfl, rfl, rfl, rfl, rfl, rfl, rfl, rfl, rfl, rfl, Nat.le_refl _, rfl⟩ ?_
  rintro m b' F S ⟨i, rfl, rfl, f1, f3, f5, f8, f9, f10, f11, f12, f13, hi, rfl⟩
  have hmax := hs.1.2.1
  by_cases hlt : i < M.length
  · obtain ⟨i0, hi0⟩ : ∃ i0, i = i0 + 1 := ⟨i - 1, by omega⟩
    have hlt0 : i0 < M.length := by omega
    obtain ⟨k', off, rfl, x1⟩ := hs.get hlt
    obtain ⟨k2, off2, e, x2⟩ := hs.get hlt0
    cases e
    have hr : (Op.bytesLess M[i].toList M[i0].toList || M[i].toList == M[i0].toList) = false := by
      subst hi0
      exact HR.out i0 hlt
    have g0 : (0 : Int) ≤ (i : Int) := by omega
    have g1 : (i : Int) < (M.length : Int) := by omega
    have g2 : (0 : Int) ≤ (i0 : Int) := by omega
    have g3 : (i0 : Int) < (M.length : Int) := by omega
    have d6 : IntKind.i64.wrap ((i : Int) - 1) = (i0 : Int) := by rw [IntKind.wrap_i64]; omega
    have d7 : IntKind.i64.wrap ((i : Int) + 1) = ((i + 1 : Nat) : Int) := by rw [IntKind.wrap_i64]; omega
    have HI0 := Hide.mk hi0
    clear hi0
    first | refine WpB.row (by decide) (by decide) (evh ?_) | refine WpB.seq (WpB.row (by decide) (by decide) (evh ?_)) | refine WpB.seq (WpB.seq (WpB.row (by decide) (by decide) (evh ?_))) | refine WpB.seq (WpB.seq (WpB.seq (WpB.row (by decide) (by decide) (evh ?_))))
    first | refine WpB.cond (by decide) rfl (fun _ => WpB.skip ?_) (fun e => by first | (cases e; done) | exact absurd g1 (of_decide_eq_false e)) | refine WpB.seq (WpB.cond (by decide) rfl (fun _ => WpB.skip ?_) (fun e => by first | (cases e; done) | exact absurd g1 (of_decide_eq_false e))) | refine WpB.seq (WpB.seq (WpB.cond (by decide) rfl (fun _ => WpB.skip ?_) (fun e => by first | (cases e; done) | exact absurd g1 (of_decide_eq_false e)))) | refine WpB.seq (WpB.seq (WpB.seq (WpB.cond (by decide) rfl (fun _ => WpB.skip ?_) (fun e => by first | (cases e; done) | exact absurd g1 (of_decide_eq_false e)))))
    first | refine WpB.block ?_ | refine WpB.seq (WpB.block ?_) | refine WpB.seq (WpB.seq (WpB.block ?_)) | refine WpB.seq (WpB.seq (WpB.seq (WpB.block ?_)))
    first | refine WpB.draw (by kernel_rfl) (by decide) [0, 1, 2, 3, 4, 5, 6, 7, 8, 9] (by kernel_rfl) (by kernel_rfl) (by kernel_rfl) (by kernel_rfl) (by kernel_rfl) rfl (evh ?_) | refine WpB.seq (WpB.draw (by kernel_rfl) (by decide) [0, 1, 2, 3, 4, 5, 6, 7, 8, 9] (by kernel_rfl) (by kernel_rfl) (by kernel_rfl) (by kernel_rfl) (by kernel_rfl) rfl (evh ?_)) | refine WpB.seq (WpB.seq (WpB.draw (by kernel_rfl) (by decide) [0, 1, 2, 3, 4, 5, 6, 7, 8, 9] (by kernel_rfl) (by kernel_rfl) (by kernel_rfl) (by kernel_rfl) (by kernel_rfl) rfl (evh ?_))) | refine WpB.seq (WpB.seq (WpB.seq (WpB.draw (by kernel_rfl) (by decide) [0, 1, 2, 3, 4, 5, 6, 7, 8, 9] (by kernel_rfl) (by kernel_rfl) (by kernel_rfl) (by kernel_rfl) (by kernel_rfl) rfl (evh ?_))))
    first | refine WpB.cond (by decide) rfl (fun e => by cases e) (fun _ => WpB.skip ?_) | refine WpB.seq (WpB.cond (by decide) rfl (fun e => by cases e) (fun _ => WpB.skip ?_)) | refine WpB.seq (WpB.seq (WpB.cond (by decide) rfl (fun e => by cases e) (fun _ => WpB.skip ?_))) | refine WpB.seq (WpB.seq (WpB.seq (WpB.cond (by decide) rfl (fun e => by cases e) (fun _ => WpB.skip ?_))))
    first | refine WpB.row (by decide) (by decide) (evh ?_) | refine WpB.seq (WpB.row (by decide) (by decide) (evh ?_)) | refine WpB.seq (WpB.seq (WpB.row (by decide) (by decide) (evh ?_))) | refine WpB.seq (WpB.seq (WpB.seq (WpB.row (by decide) (by decide) (evh ?_))))
    exact ⟨M.length + 1 - (i + 1), by omega, i + 1, rfl, rfl, f1, f3, f5, f8, f9, f10, f11, f12, by rw [← d7]; rfl, by omega, rfl⟩
  · have g1 : ¬ ((i : Int) < (M.length : Int)) := by omega
    first | refine WpB.row (by decide) (by decide) (evh ?_) | refine WpB.seq (WpB.row (by decide) (by decide) (evh ?_)) | refine WpB.seq (WpB.seq (WpB.row (by decide) (by decide) (evh ?_))) | refine WpB.seq (WpB.seq (WpB.seq (WpB.row (by decide) (by decide) (evh ?_))))
    first | refine WpB.cond (by decide) rfl (fun e => by first | (cases e; done) | exact absurd (of_decide_eq_true e) g1) (fun _ => WpB.exit ?_) | refine WpB.seq (WpB.cond (by decide) rfl (fun e => by first | (cases e; done) | exact absurd (of_decide_eq_true e) g1) (fun _ => WpB.exit ?_)) | refine WpB.seq (WpB.seq (WpB.cond (by decide) rfl (fun e => by first | (cases e; done) | exact absurd (of_decide_eq_true e) g1) (fun _ => WpB.exit ?_))) | refine WpB.seq (WpB.seq (WpB.seq (WpB.cond (by decide) rfl (fun e => by first | (cases e; done) | exact absurd (of_decide_eq_true e) g1) (fun _ => WpB.exit ?_))))
    first | refine WpB.row (by decide) (by decide) (evh ?_) | refine WpB.seq (WpB.row (by decide) (by decide) (evh ?_)) | refine WpB.seq (WpB.seq (WpB.row (by decide) (by decide) (evh ?_))) | refine WpB.seq (WpB.seq (WpB.seq (WpB.row (by decide) (by decide) (evh ?_))))
    refine SeqB.callV (by decide) (hd _ _ (hv2.up hk3)) (by decide) rfl rfl rfl rfl ?_
    rintro u v4 hu4 hk4
    have hv4 := hu4
    obtain ⟨W3, w3, W4, w4, rfl, _, _⟩ := hu4
    refine evh ?_
    obtain ⟨ut, ht, htc⟩ := hg3 _ _ hv4
    rw [gd] at htc
    obtain ⟨T3, t3, T4, t4, rfl, _, _⟩ := ht
    first | refine WpB.row (by decide) (by decide) (evh ?_) | refine WpB.seq (WpB.row (by decide) (by decide) (evh ?_)) | refine WpB.seq (WpB.seq (WpB.row (by decide) (by decide) (evh ?_))) | refine WpB.seq (WpB.seq (WpB.seq (WpB.row (by decide) (by decide) (evh ?_))))
    refine SeqB.callQ (by decide) (htc.okx _) (by decide) rfl rfl rfl rfl ?_
    rintro u S' ⟨rfl, rfl⟩ _
    refine evh ?_
    have kk := hk1.trans (hk2.trans (hk3.trans hk4))
    have q5 : ((M.length : Int) == (p.f3.length : Int)) = true := by rw [SL.out]; simp
    have s1 := same_gv _ y (Nat.le_refl _) v4 _ _ (hz2.up (hk3.trans hk4)) (HY.out.up kk)
    cases had with
    | true =>
      first | refine WpB.row (by decide) (by decide) (evh ?_) | refine WpB.seq (WpB.row (by decide) (by decide) (evh ?_)) | refine WpB.seq (WpB.seq (WpB.row (by decide) (by decide) (evh ?_))) | refine WpB.seq (WpB.seq (WpB.seq (WpB.row (by decide) (by decide) (evh ?_))))
      refine SeqB.callQ (by decide) (s1.okx _) (by decide) rfl rfl rfl rfl ?_
      rintro u S' ⟨rfl, rfl⟩ _
      refine evh ?_
      refine SeqB.callQ (by decide) ((hh2 _ kk).okx _) (by decide) rfl rfl rfl rfl ?_
      rintro u S' ⟨rfl, rfl⟩ _
      refine evh ?_
      refine WpB.ret ⟨.inr rfl, evr ?_⟩
      trivial
    | false =>
      have hdx := DP.out rfl
      subst hdx
      have s2 := same_gv _ dd (Nat.le_refl _) v4 _ _ hv4 (HX.out.up kk)
      first | refine WpB.row (by decide) (by decide) (evh ?_) | refine WpB.seq (WpB.row (by decide) (by decide) (evh ?_)) | refine WpB.seq (WpB.seq (WpB.row (by decide) (by decide) (evh ?_))) | refine WpB.seq (WpB.seq (WpB.seq (WpB.row (by decide) (by decide) (evh ?_))))
      refine SeqB.callQ (by decide) (s1.okx _) (by decide) rfl rfl rfl rfl ?_
      rintro u S' ⟨rfl, rfl⟩ _
      refine evh ?_
      refine SeqB.callQ (by decide) (s2.okx _) (by decide) rfl rfl rfl rfl ?_
      rintro u S' ⟨rfl, rfl⟩ _
      refine evh ?_
      refine SeqB.callQ (by decide) ((hh2 _ kk).okx _) (by decide) rfl rfl rfl rfl ?_
      rintro u S' ⟨rfl, rfl⟩ _
      refine evh ?_
      refine WpB.ret ⟨.inr rfl, evr ?_⟩
      trivial
/-- .. as a call of the world. -/
theorem keeps_calls {w : World} {x y : S27} {ux uy : Value} (hx : Vr w x ux) (key : ByteArray) (hy : Vr w y uy) (gx : G27 x) (hk : key.size ≤ 140737488351232) (gy : G27 y) (hT : Tabs w) : Calls Tryz.prog 10 #[ux, .string key, uy] w fun e w' => e = .returned (.bool true) ∧ Below w.heap.size w w' :=
  ((keeps_gv hx hy key hk gx gy hT.tb).calls Tryz.func10 (by kernel_rfl) rfl).mono fun e w' ⟨u, v', he, hb, _, _, hu⟩ => ⟨by rw [he, hu], hb⟩
end Go.Proofs.YtmpmbnmldmpmiaaGreatDoor.Sim
