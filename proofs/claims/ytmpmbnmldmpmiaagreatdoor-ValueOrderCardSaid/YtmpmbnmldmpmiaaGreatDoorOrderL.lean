/- The law ValueOrder: both Compares, both Equals, both Names, both Truths say the same. -/
import Derived.Test.YtmpmbnmldmpmiaaGreatDoorCmpE
import Derived.Test.YtmpmbnmldmpmiaaGreatDoorHandEval
import Derived.Test.YtmpmbnmldmpmiaaGreatDoorSimBig
set_option linter.unusedVariables false
set_option linter.unusedSimpArgs false
set_option maxRecDepth 100000
namespace Go.Proofs.YtmpmbnmldmpmiaaGreatDoor.Sim
open Go Go.RowKit Go.Proofs.YtmpmbnmldmpmiaaGreatDoor.A Go.Proofs.YtmpmbnmldmpmiaaGreatDoorW.PrintWords Go.Proofs.YtmpmbnmldmpmiaaGreatDoorW.PrintLast Go.Proofs.YtmpmbnmldmpmiaaGreatDoorW.PrintMore
theorem Tab_known {T : Nat → Option (List Value)} {v w : World} (h : Tab T (Bs.of v)) (k : Known v w) : Tab T (Bs.of w) := by
  intro j cs hj
  obtain ⟨h1, e, fr, h2⟩ := h j cs hj
  refine ⟨h1, e, fr, k j _ e fr h2 ?_⟩
  intro h0
  exact h1 (List.eq_nil_of_length_eq_zero (by simpa using h0))
theorem heads_gv {v : World} (hT : Tab T (Bs.of v)) : Gv Tryz.prog 12 [] v fun u _ => u = .bool true :=
  (Gv.of_calls Tryz.func12 (by kernel_rfl) rfl fun w hk => head_calls (Tab_known hT hk)).mono fun u v' h _ => h.1
theorem rightV_kinds {x : S27} (h : rightV 10000 x = true) : x.f0 = 0 ∨ x.f0 = 1 ∨ x.f0 = 2 ∨ x.f0 = 3 ∨ x.f0 = 4 ∨ x.f0 = 5 ∨ x.f0 = 6 := by
  rw [show 10000 = 9999 + 1 from rfl, rightV] at h
  split at h
  · cases h
  · omega
theorem truths {k : Int} (h : k = 0 ∨ k = 1 ∨ k = 2 ∨ k = 3 ∨ k = 4 ∨ k = 5 ∨ k = 6) : (!(k == 0) && !(k == 1)) = decide (k > 1) := by
  rcases h with rfl | rfl | rfl | rfl | rfl | rfl | rfl <;> rfl
set_option maxHeartbeats 4000000 in
theorem order_gv {v : World} {x y : S27} {ux uy : Value} (hx : Vr v x ux) (hy : Vr v y uy) (gx : G27 x) (gy : G27 y) (hT : Tab T (Bs.of v)) : Gv Tryz.prog 5 [ux, uy] v fun u _ => u = .bool true := by
  have rx := right_gv hx gx
  have ry := right_gv hy gy
  have hh := heads_gv hT
  cases hrx : rightV 10000 x with
  | false =>
    rw [hrx] at rx
    clear ry
    obtain ⟨A3, c3, A4, c4, rfl, h3, h4⟩ := hx
    obtain ⟨B3, d3, B4, d4, rfl, k3, k4⟩ := hy
    refine Gv.run Tryz.func5 (by kernel_rfl) rfl rfl rfl rfl fun b hb => ?_
    subst hb
    clear h3 h4 k3 k4 hT
    first | refine WpB.row (by decide) (by decide) (ev ?_) | refine WpB.seq (WpB.row (by decide) (by decide) (ev ?_)) | refine WpB.seq (WpB.seq (WpB.row (by decide) (by decide) (ev ?_))) | refine WpB.seq (WpB.seq (WpB.seq (WpB.row (by decide) (by decide) (ev ?_))))
    first | refine WpB.row (by decide) (by decide) (evh ?_) | refine WpB.seq (WpB.row (by decide) (by decide) (evh ?_)) | refine WpB.seq (WpB.seq (WpB.row (by decide) (by decide) (evh ?_))) | refine WpB.seq (WpB.seq (WpB.seq (WpB.row (by decide) (by decide) (evh ?_))))
    refine SeqB.callQ (by decide) (rx.okx _) (by decide) rfl rfl rfl rfl ?_
    rintro u S' ⟨rfl, rfl⟩ _
    refine evh ?_
    first | refine WpB.cond (by decide) rfl (fun _ => ?_) (fun e => by cases e) | refine WpB.seq (WpB.cond (by decide) rfl (fun _ => ?_) (fun e => by cases e)) | refine WpB.seq (WpB.seq (WpB.cond (by decide) rfl (fun _ => ?_) (fun e => by cases e))) | refine WpB.seq (WpB.seq (WpB.seq (WpB.cond (by decide) rfl (fun _ => ?_) (fun e => by cases e))))
    first | refine WpB.row (by decide) (by decide) (evh ?_) | refine WpB.seq (WpB.row (by decide) (by decide) (evh ?_)) | refine WpB.seq (WpB.seq (WpB.row (by decide) (by decide) (evh ?_))) | refine WpB.seq (WpB.seq (WpB.seq (WpB.row (by decide) (by decide) (evh ?_))))
    refine SeqB.callQ (by decide) (hh.okx _) (by decide) rfl rfl rfl rfl ?_
    rintro u S' ⟨rfl, rfl⟩ _
    refine evh ?_
    refine WpB.ret ⟨.inr rfl, evr ?_⟩
    trivial
  | true =>
    rw [hrx] at rx
    cases hry : rightV 10000 y with
    | false =>
      rw [hry] at ry
      obtain ⟨A3, c3, A4, c4, rfl, h3, h4⟩ := hx
      obtain ⟨B3, d3, B4, d4, rfl, k3, k4⟩ := hy
      refine Gv.run Tryz.func5 (by kernel_rfl) rfl rfl rfl rfl fun b hb => ?_
      subst hb
      clear h3 h4 k3 k4 hT
      first | refine WpB.row (by decide) (by decide) (ev ?_) | refine WpB.seq (WpB.row (by decide) (by decide) (ev ?_)) | refine WpB.seq (WpB.seq (WpB.row (by decide) (by decide) (ev ?_))) | refine WpB.seq (WpB.seq (WpB.seq (WpB.row (by decide) (by decide) (ev ?_))))
      first | refine WpB.row (by decide) (by decide) (evh ?_) | refine WpB.seq (WpB.row (by decide) (by decide) (evh ?_)) | refine WpB.seq (WpB.seq (WpB.row (by decide) (by decide) (evh ?_))) | refine WpB.seq (WpB.seq (WpB.seq (WpB.row (by decide) (by decide) (evh ?_))))
      refine SeqB.callQ (by decide) (rx.okx _) (by decide) rfl rfl rfl rfl ?_
      rintro u S' ⟨rfl, rfl⟩ _
      refine evh ?_
      refine SeqB.callQ (by decide) (ry.okx _) (by decide) rfl rfl rfl rfl ?_
      rintro u S' ⟨rfl, rfl⟩ _
      refine evh ?_
      first | refine WpB.cond (by decide) rfl (fun _ => ?_) (fun e => by cases e) | refine WpB.seq (WpB.cond (by decide) rfl (fun _ => ?_) (fun e => by cases e)) | refine WpB.seq (WpB.seq (WpB.cond (by decide) rfl (fun _ => ?_) (fun e => by cases e))) | refine WpB.seq (WpB.seq (WpB.seq (WpB.cond (by decide) rfl (fun _ => ?_) (fun e => by cases e))))
      first | refine WpB.row (by decide) (by decide) (evh ?_) | refine WpB.seq (WpB.row (by decide) (by decide) (evh ?_)) | refine WpB.seq (WpB.seq (WpB.row (by decide) (by decide) (evh ?_))) | refine WpB.seq (WpB.seq (WpB.seq (WpB.row (by decide) (by decide) (evh ?_))))
      refine SeqB.callQ (by decide) (hh.okx _) (by decide) rfl rfl rfl rfl ?_
      rintro u S' ⟨rfl, rfl⟩ _
      refine evh ?_
      refine WpB.ret ⟨.inr rfl, evr ?_⟩
      trivial
    | true =>
      rw [hry] at ry
      obtain ⟨r, c1, c2⟩ := cmp_ref 10000 x y gx gy hrx hry
      have kx := rightV_kinds hrx
      have g1 := cmp_gv _ _ _ _ c1 v ux uy hx hy
      have g2 := ref_gv _ _ _ _ c2 v ux uy hx hy
      have g3 := equal_gv c1 hx hy
      have g4 := equalRef_gv c2 hx hy
      have g5 := name_gv hx kx
      have g6 := nameRef_gv hx kx
      have g7 := truth_gv hx
      have g8 := truthRef_gv hx
      rw [truths kx] at g7
      generalize decide (x.f0 > 1) = tb at g7 g8
      generalize nameL x.f0 = nm at g5 g6
      generalize (r == 0) = r0 at g3 g4
      clear c1 c2 kx hrx hry gx gy
      obtain ⟨A3, c3, A4, c4, rfl, h3, h4⟩ := hx
      obtain ⟨B3, d3, B4, d4, rfl, k3, k4⟩ := hy
      refine Gv.run Tryz.func5 (by kernel_rfl) rfl rfl rfl rfl fun b hb => ?_
      subst hb
      clear h3 h4 k3 k4 hT
      first | refine WpB.row (by decide) (by decide) (ev ?_) | refine WpB.seq (WpB.row (by decide) (by decide) (ev ?_)) | refine WpB.seq (WpB.seq (WpB.row (by decide) (by decide) (ev ?_))) | refine WpB.seq (WpB.seq (WpB.seq (WpB.row (by decide) (by decide) (ev ?_))))
      first | refine WpB.row (by decide) (by decide) (evh ?_) | refine WpB.seq (WpB.row (by decide) (by decide) (evh ?_)) | refine WpB.seq (WpB.seq (WpB.row (by decide) (by decide) (evh ?_))) | refine WpB.seq (WpB.seq (WpB.seq (WpB.row (by decide) (by decide) (evh ?_))))
      refine SeqB.callQ (by decide) (rx.okx _) (by decide) rfl rfl rfl rfl ?_
      rintro u S' ⟨rfl, rfl⟩ _
      refine evh ?_
      refine SeqB.callQ (by decide) (ry.okx _) (by decide) rfl rfl rfl rfl ?_
      rintro u S' ⟨rfl, rfl⟩ _
      refine evh ?_
      first | refine WpB.cond (by decide) rfl (fun e => by cases e) (fun _ => WpB.skip ?_) | refine WpB.seq (WpB.cond (by decide) rfl (fun e => by cases e) (fun _ => WpB.skip ?_)) | refine WpB.seq (WpB.seq (WpB.cond (by decide) rfl (fun e => by cases e) (fun _ => WpB.skip ?_))) | refine WpB.seq (WpB.seq (WpB.seq (WpB.cond (by decide) rfl (fun e => by cases e) (fun _ => WpB.skip ?_))))
      (first | refine WpB.draw (by kernel_rfl) (by decide) [0, 1, 3, 4, 2, 5, 6, 7, 8, 9, 11, 12, 10, 13, 14, 15, 16, 17, 19, 18, 20, 21, 22, 23, 24, 26, 25, 27, 28, 29, 30, 31, 32, 33] (by kernel_rfl) (by kernel_rfl) (by kernel_rfl) (by kernel_rfl) (by kernel_rfl) rfl ?_ | refine WpB.seq (WpB.draw (by kernel_rfl) (by decide) [0, 1, 3, 4, 2, 5, 6, 7, 8, 9, 11, 12, 10, 13, 14, 15, 16, 17, 19, 18, 20, 21, 22, 23, 24, 26, 25, 27, 28, 29, 30, 31, 32, 33] (by kernel_rfl) (by kernel_rfl) (by kernel_rfl) (by kernel_rfl) (by kernel_rfl) rfl ?_) | refine WpB.seq (WpB.seq (WpB.draw (by kernel_rfl) (by decide) [0, 1, 3, 4, 2, 5, 6, 7, 8, 9, 11, 12, 10, 13, 14, 15, 16, 17, 19, 18, 20, 21, 22, 23, 24, 26, 25, 27, 28, 29, 30, 31, 32, 33] (by kernel_rfl) (by kernel_rfl) (by kernel_rfl) (by kernel_rfl) (by kernel_rfl) rfl ?_)) | refine WpB.seq (WpB.seq (WpB.seq (WpB.draw (by kernel_rfl) (by decide) [0, 1, 3, 4, 2, 5, 6, 7, 8, 9, 11, 12, 10, 13, 14, 15, 16, 17, 19, 18, 20, 21, 22, 23, 24, 26, 25, 27, 28, 29, 30, 31, 32, 33] (by kernel_rfl) (by kernel_rfl) (by kernel_rfl) (by kernel_rfl) (by kernel_rfl) rfl ?_)))); simp (config := {maxSteps := 10000000}) only [opAt, List.map_cons, List.map_nil, List.getElem?_toArray, List.getElem?_cons_succ, List.getElem?_cons_zero, Option.getD_some]; refine evhL ?_
      refine EvOC.call rfl rfl rfl (CallB.of_ok (Gv.okx (g1) _)) ?_
      rintro b1 u ⟨rfl, rfl⟩
      refine evhL ?_
      refine EvOC.call rfl rfl rfl (CallB.of_ok (Gv.okx (g2) _)) ?_
      rintro b1 u ⟨rfl, rfl⟩
      refine evhL ?_
      refine EvOC.call rfl rfl rfl (CallB.of_ok (Gv.okx (g3) _)) ?_
      rintro b1 u ⟨rfl, rfl⟩
      refine evhL ?_
      refine EvOC.call rfl rfl rfl (CallB.of_ok (Gv.okx (g4) _)) ?_
      rintro b1 u ⟨rfl, rfl⟩
      refine evhL ?_
      refine EvOC.call rfl rfl rfl (CallB.of_ok (Gv.okx (g5) _)) ?_
      rintro b1 u ⟨rfl, rfl⟩
      refine evhL ?_
      refine EvOC.call rfl rfl rfl (CallB.of_ok (Gv.okx (g6) _)) ?_
      rintro b1 u ⟨rfl, rfl⟩
      refine evhL ?_
      refine EvOC.call rfl rfl rfl (CallB.of_ok (Gv.okx (g7) _)) ?_
      rintro b1 u ⟨rfl, rfl⟩
      refine evhL ?_
      refine EvOC.call rfl rfl rfl (CallB.of_ok (Gv.okx (g8) _)) ?_
      rintro b1 u ⟨rfl, rfl⟩
      refine evhL ?_
      refine EvOC.call rfl rfl rfl (CallB.of_ok (Gv.okx (hh) _)) ?_
      rintro b1 u ⟨rfl, rfl⟩
      refine evhL ?_
      refine WpB.ret ⟨.inr rfl, evr ?_⟩
      trivial
/-- .. as a call of the world. -/
theorem order_calls {w : World} {x y : S27} {ux uy : Value} (hx : Vr w x ux) (hy : Vr w y uy) (gx : G27 x) (gy : G27 y) (hT : Tabs w) : Calls Tryz.prog 5 #[ux, uy] w fun e w' => e = .returned (.bool true) ∧ Below w.heap.size w w' :=
  ((order_gv hx hy gx gy hT.tb).calls Tryz.func5 (by kernel_rfl) rfl).mono fun e w' ⟨u, v', he, hb, _, _, hu⟩ => ⟨by rw [he, hu], hb⟩
end Go.Proofs.YtmpmbnmldmpmiaaGreatDoor.Sim
