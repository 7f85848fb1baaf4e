/- The reference's Split, by hand: each way through it. -/
import Derived.Test.YtomkhipfooafnaaP12
import Derived.Test.YtomkhipfooafnaaHandHeads
set_option linter.unusedVariables false
namespace Go.Proofs.Ytomkhipfooafnaa.P
open Go.RowKit Go.Proofs.YtomkhipfooafnaaW.PrintWords Go.Proofs.YtomkhipfooafnaaW.PrintLast Go.Proofs.YtomkhipfooafnaaW.PrintMore
def Z8 : Array Value := #[.int .i64 0, .int .i64 0, .int .i64 0, .int .i64 0, .int .i64 0, .float .f64 0, .int .i64 0, .int .i64 0]
theorem blk_other {W : World} {g : Nat} {o : Obj} {a : Addr} {v : Value} (h : W.heap[g]? = some o) (hne : g ≠ a.block) : (W.setCell a v).heap[g]? = some o := (Below.heap_setCell W a v g hne).trans h
theorem blk_al {W : World} {g : Nat} {o o' : Obj} (h : W.heap[g]? = some o) : (W.alloc o').heap[g]? = some o := (Below.heap_alloc W o' g (by obtain ⟨h, _⟩ := Array.getElem?_eq_some_iff.1 h; exact h)).trans h
set_option maxHeartbeats 8000000 in
set_option maxRecDepth 100000 in
theorem rsplit_ok (k : Nat) (a0 fl : Nat) (hF : math_Floor.f a0 = some fl) (hge : (FloatKind.f64.format.order fl 14054727237768577024 == some Ordering.gt || FloatKind.f64.format.order fl 14054727237768577024 == some Ordering.eq) = true)
    (hle : (FloatKind.f64.format.order fl 4831355200913801216 == some Ordering.lt || FloatKind.f64.format.order fl 4831355200913801216 == some Ordering.eq) = true) (hf2 : f2iok .i64 fl = true)
    (n r : Int) (hd : colanderref11_floor.f (f2i .i64 fl) 86400 = some (n, r)) (y m d : Int) (hdate : colanderref11_Date.f k n = some (y, m, d, 0)) (wd : Int) (hwd : colanderref11_wday.f n = some wd)
    (b : Int) (hb : colanderref11_begin.f k y 0 = some b) (sd : Nat) (hs : fok .sub a0 fl = true) (hsd : fval .sub a0 fl = sd) (ha : fok .add (floatOfInt .f64 (Int.tmod r 60)) sd = true) (w : World) :
    Calls Try.prog 19 #[.float .f64 a0] w fun e w' => e = .returned (.tuple #[.agg #[.int .i64 y, .int .i64 m, .int .i64 d, .int .i64 (wrap64 (Int.tdiv r 3600)), .int .i64 (Int.tmod (wrap64 (Int.tdiv r 60)) 60),
      .float .f64 (fval .add (floatOfInt .f64 (Int.tmod r 60)) sd), .int .i64 wd, .int .i64 (wrap64 (n - b))], .int .i64 0]) ∧ Below w.heap.size w w' := by
  have HSub : ∀ (t_ : TypeId) (w_ : World), (binOp .sub t_ (.float .f64 a0) (.float .f64 fl)).run Try.prog w_ = .ok (.float .f64 sd) w_ := fun t_ w_ => by rw [← hsd]; exact run_fok t_ w_ hs
  have HAdd : ∀ (t_ : TypeId) (w_ : World), (binOp .add t_ (.float .f64 (floatOfInt .f64 (Int.tmod r 60))) (.float .f64 sd)).run Try.prog w_ = .ok (.float .f64 (fval .add (floatOfInt .f64 (Int.tmod r 60)) sd)) w_ := fun t_ w_ => run_fok t_ w_ ha
  have HCv : ∀ (w_ : World), (convert 35 3 (.float .f64 fl)).run Try.prog w_ = .ok (.int .i64 (f2i .i64 fl)) w_ := fun w_ => run_f2iok (by kernel_rfl) Try.underlying3 hf2
  have CF := Aside0.mk hF
  have CD := Aside0.mk hd
  have CT := Aside0.mk hdate
  have CW := Aside0.mk hwd
  have CB := Aside0.mk hb
  clear hF hd hdate hwd hb hsd hs ha hf2
  go_enter Try.func19, Try.ntmps19
  go_wp2_with fail
  obtain ⟨W0, hW0⟩ : ∃ W0, W0 = w.alloc (.cells #[.int .i64 0, .int .i64 0, .int .i64 0, .int .i64 0, .int .i64 0, .float .f64 0, .int .i64 0, .int .i64 0] 37) := ⟨_, rfl⟩
  have HBW0 := Aside0.mk (show Below w.heap.size w W0 from by rw [hW0]; exact (Below.refl _ _).alloc (Nat.le_refl _) _)
  have K0 := Aside0.mk (show W0.heap[w.heap.size]? = some (.cells #[.int .i64 0, .int .i64 0, .int .i64 0, .int .i64 0, .int .i64 0, .float .f64 0, .int .i64 0, .int .i64 0] 37) from by rw [hW0]; exact Array.getElem?_push_size)
  have GE := Aside0.mk (Nat.le_refl w.heap.size)
  rw [← hW0]
  clear hW0
  generalize hgb : w.heap.size = gb at K0 ⊢
  rw [hgb] at GE
  have GE' := Aside0.mk (show w.heap.size ≤ gb from by omega)
  clear GE
  refine (math_Floor.calls a0 fl _ CF.out).mono ?_
  rintro e w1 ⟨rfl, hb_⟩
  have K1 := Aside0.mk (keep_blk hb_.below K0.out)
  have HBw1 := Aside0.mk (HBW0.out.trans (hb_.below.mono HBW0.out.size))
  clear K0 hb_
  go_wp2_with fail
  refine (colanderref11_floor.calls (f2i .i64 fl) 86400 n r _ CD.out).mono ?_
  rintro e w2 ⟨rfl, hb_⟩
  have K2 := Aside0.mk (keep_blk hb_.below K1.out)
  have HBw2 := Aside0.mk (HBw1.out.trans (hb_.below.mono HBw1.out.size))
  clear K1 hb_
  go_wp2_with fail
  refine (colanderref11_Date.calls k n y m d 0 _ CT.out).mono ?_
  rintro e w3 ⟨rfl, hb_⟩
  have K3 := Aside0.mk (keep_blk hb_.below K2.out)
  have HBw3 := Aside0.mk (HBw2.out.trans (hb_.below.mono HBw2.out.size))
  clear K2 hb_
  go_wp2_with fail
  refine (colanderref11_wday.calls n wd _ CW.out).mono ?_
  rintro e w4 ⟨rfl, hb_⟩
  have K4 := Aside0.mk (keep_blk hb_.below K3.out)
  have HBw4 := Aside0.mk (HBw3.out.trans (hb_.below.mono HBw3.out.size))
  clear K3 hb_
  go_wp2_with fail
  refine (colanderref11_begin.calls k y 0 b _ CB.out).mono ?_
  rintro e w5 ⟨rfl, hb_⟩
  have K5 := Aside0.mk (keep_blk hb_.below K4.out)
  have HBw5 := Aside0.mk (HBw4.out.trans (hb_.below.mono HBw4.out.size))
  clear K4 hb_
  have gz : gb < w5.heap.size := by obtain ⟨h, _⟩ := Array.getElem?_eq_some_iff.1 K5.out; exact h
  have hcz0 : w5.cell? ⟨gb, 0, none⟩ = some (.int .i64 0) := (blk_cell K5.out 0).trans rfl
  have hfz0 := blk_frozen K5.out 0
  have hcz1 : w5.cell? ⟨gb, 1, none⟩ = some (.int .i64 0) := (blk_cell K5.out 1).trans rfl
  have hfz1 := blk_frozen K5.out 1
  have hcz2 : w5.cell? ⟨gb, 2, none⟩ = some (.int .i64 0) := (blk_cell K5.out 2).trans rfl
  have hfz2 := blk_frozen K5.out 2
  have hcz3 : w5.cell? ⟨gb, 3, none⟩ = some (.int .i64 0) := (blk_cell K5.out 3).trans rfl
  have hfz3 := blk_frozen K5.out 3
  have hcz4 : w5.cell? ⟨gb, 4, none⟩ = some (.int .i64 0) := (blk_cell K5.out 4).trans rfl
  have hfz4 := blk_frozen K5.out 4
  have hcz5 : w5.cell? ⟨gb, 5, none⟩ = some (.float .f64 0) := (blk_cell K5.out 5).trans rfl
  have hfz5 := blk_frozen K5.out 5
  have hcz6 : w5.cell? ⟨gb, 6, none⟩ = some (.int .i64 0) := (blk_cell K5.out 6).trans rfl
  have hfz6 := blk_frozen K5.out 6
  have hcz7 : w5.cell? ⟨gb, 7, none⟩ = some (.int .i64 0) := (blk_cell K5.out 7).trans rfl
  have hfz7 := blk_frozen K5.out 7
  go_wp2_with fail
  have B0 := blk_put (cs := #[.int .i64 0, .int .i64 0, .int .i64 0, .int .i64 0, .int .i64 0, .float .f64 0, .int .i64 0, .int .i64 0]) (cs' := #[.int .i64 y, .int .i64 0, .int .i64 0, .int .i64 0, .int .i64 0, .float .f64 0, .int .i64 0, .int .i64 0]) K5.out 0 (.int .i64 y) rfl
  have B1 := blk_put (cs := #[.int .i64 y, .int .i64 0, .int .i64 0, .int .i64 0, .int .i64 0, .float .f64 0, .int .i64 0, .int .i64 0]) (cs' := #[.int .i64 y, .int .i64 m, .int .i64 0, .int .i64 0, .int .i64 0, .float .f64 0, .int .i64 0, .int .i64 0]) B0 1 (.int .i64 m) rfl
  have B2 := blk_put (cs := #[.int .i64 y, .int .i64 m, .int .i64 0, .int .i64 0, .int .i64 0, .float .f64 0, .int .i64 0, .int .i64 0]) (cs' := #[.int .i64 y, .int .i64 m, .int .i64 d, .int .i64 0, .int .i64 0, .float .f64 0, .int .i64 0, .int .i64 0]) B1 2 (.int .i64 d) rfl
  have B3 := blk_put (cs := #[.int .i64 y, .int .i64 m, .int .i64 d, .int .i64 0, .int .i64 0, .float .f64 0, .int .i64 0, .int .i64 0]) (cs' := #[.int .i64 y, .int .i64 m, .int .i64 d, .int .i64 (wrap64 (Int.tdiv r 3600)), .int .i64 0, .float .f64 0, .int .i64 0, .int .i64 0]) B2 3 (.int .i64 (wrap64 (Int.tdiv r 3600))) rfl
  have B4 := blk_put (cs := #[.int .i64 y, .int .i64 m, .int .i64 d, .int .i64 (wrap64 (Int.tdiv r 3600)), .int .i64 0, .float .f64 0, .int .i64 0, .int .i64 0]) (cs' := #[.int .i64 y, .int .i64 m, .int .i64 d, .int .i64 (wrap64 (Int.tdiv r 3600)), .int .i64 (Int.tmod (wrap64 (Int.tdiv r 60)) 60), .float .f64 0, .int .i64 0, .int .i64 0]) B3 4 (.int .i64 (Int.tmod (wrap64 (Int.tdiv r 60)) 60)) rfl
  have B5 := blk_put (cs := #[.int .i64 y, .int .i64 m, .int .i64 d, .int .i64 (wrap64 (Int.tdiv r 3600)), .int .i64 (Int.tmod (wrap64 (Int.tdiv r 60)) 60), .float .f64 0, .int .i64 0, .int .i64 0]) (cs' := #[.int .i64 y, .int .i64 m, .int .i64 d, .int .i64 (wrap64 (Int.tdiv r 3600)), .int .i64 (Int.tmod (wrap64 (Int.tdiv r 60)) 60), .float .f64 (fval .add (floatOfInt .f64 (Int.tmod r 60)) sd), .int .i64 0, .int .i64 0]) B4 5 (.float .f64 (fval .add (floatOfInt .f64 (Int.tmod r 60)) sd)) rfl
  have B6 := blk_put (cs := #[.int .i64 y, .int .i64 m, .int .i64 d, .int .i64 (wrap64 (Int.tdiv r 3600)), .int .i64 (Int.tmod (wrap64 (Int.tdiv r 60)) 60), .float .f64 (fval .add (floatOfInt .f64 (Int.tmod r 60)) sd), .int .i64 0, .int .i64 0]) (cs' := #[.int .i64 y, .int .i64 m, .int .i64 d, .int .i64 (wrap64 (Int.tdiv r 3600)), .int .i64 (Int.tmod (wrap64 (Int.tdiv r 60)) 60), .float .f64 (fval .add (floatOfInt .f64 (Int.tmod r 60)) sd), .int .i64 wd, .int .i64 0]) B5 6 (.int .i64 wd) rfl
  have B7 := blk_put (cs := #[.int .i64 y, .int .i64 m, .int .i64 d, .int .i64 (wrap64 (Int.tdiv r 3600)), .int .i64 (Int.tmod (wrap64 (Int.tdiv r 60)) 60), .float .f64 (fval .add (floatOfInt .f64 (Int.tmod r 60)) sd), .int .i64 wd, .int .i64 0]) (cs' := #[.int .i64 y, .int .i64 m, .int .i64 d, .int .i64 (wrap64 (Int.tdiv r 3600)), .int .i64 (Int.tmod (wrap64 (Int.tdiv r 60)) 60), .float .f64 (fval .add (floatOfInt .f64 (Int.tmod r 60)) sd), .int .i64 wd, .int .i64 (wrap64 (n - b))]) B6 7 (.int .i64 (wrap64 (n - b))) rfl
  refine bodyPost_ret (results_ct rfl _ _ gb 37 #[.int .i64 y, .int .i64 m, .int .i64 d, .int .i64 (wrap64 (Int.tdiv r 3600)), .int .i64 (Int.tmod (wrap64 (Int.tdiv r 60)) 60), .float .f64 (fval .add (floatOfInt .f64 (Int.tmod r 60)) sd), .int .i64 wd, .int .i64 (wrap64 (n - b))] (0, 0) _ rfl (blk_al B7) Try.underlying37 rfl (by kernel_rfl)) rfl ⟨rfl, ?_⟩
  repeat (first | (with_reducible first | exact HBw5.out | apply below_alloc | refine below_set ?_ GE'.out) | exact HBw5.out)
set_option maxHeartbeats 8000000 in
set_option maxRecDepth 100000 in
theorem rsplit_lo (k : Nat) (a0 fl : Nat) (hF : math_Floor.f a0 = some fl) (hge : (FloatKind.f64.format.order fl 14054727237768577024 == some Ordering.gt || FloatKind.f64.format.order fl 14054727237768577024 == some Ordering.eq) = false) (w : World) :
    Calls Try.prog 19 #[.float .f64 a0] w fun e w' => e = .returned (.tuple #[.agg #[.int .i64 0, .int .i64 0, .int .i64 0, .int .i64 0, .int .i64 0, .float .f64 0, .int .i64 0, .int .i64 0], .int .i64 110]) ∧ Below w.heap.size w w' := by
  have CF := Aside0.mk hF
  clear hF
  go_enter Try.func19, Try.ntmps19
  go_wp2_with fail
  obtain ⟨W0, hW0⟩ : ∃ W0, W0 = w.alloc (.cells #[.int .i64 0, .int .i64 0, .int .i64 0, .int .i64 0, .int .i64 0, .float .f64 0, .int .i64 0, .int .i64 0] 37) := ⟨_, rfl⟩
  have HBW0 := Aside0.mk (show Below w.heap.size w W0 from by rw [hW0]; exact (Below.refl _ _).alloc (Nat.le_refl _) _)
  have K0 := Aside0.mk (show W0.heap[w.heap.size]? = some (.cells #[.int .i64 0, .int .i64 0, .int .i64 0, .int .i64 0, .int .i64 0, .float .f64 0, .int .i64 0, .int .i64 0] 37) from by rw [hW0]; exact Array.getElem?_push_size)
  have GE := Aside0.mk (Nat.le_refl w.heap.size)
  rw [← hW0]
  clear hW0
  generalize hgb : w.heap.size = gb at K0 ⊢
  rw [hgb] at GE
  have GE' := Aside0.mk (show w.heap.size ≤ gb from by omega)
  clear GE
  refine (math_Floor.calls a0 fl _ CF.out).mono ?_
  rintro e w1 ⟨rfl, hb_⟩
  have K1 := Aside0.mk (keep_blk hb_.below K0.out)
  have HBw1 := Aside0.mk (HBW0.out.trans (hb_.below.mono HBW0.out.size))
  clear K0 hb_
  have gz : gb < w1.heap.size := by obtain ⟨h, _⟩ := Array.getElem?_eq_some_iff.1 K1.out; exact h
  have hcz0 : w1.cell? ⟨gb, 0, none⟩ = some (.int .i64 0) := (blk_cell K1.out 0).trans rfl
  have hfz0 := blk_frozen K1.out 0
  have hcz1 : w1.cell? ⟨gb, 1, none⟩ = some (.int .i64 0) := (blk_cell K1.out 1).trans rfl
  have hfz1 := blk_frozen K1.out 1
  have hcz2 : w1.cell? ⟨gb, 2, none⟩ = some (.int .i64 0) := (blk_cell K1.out 2).trans rfl
  have hfz2 := blk_frozen K1.out 2
  have hcz3 : w1.cell? ⟨gb, 3, none⟩ = some (.int .i64 0) := (blk_cell K1.out 3).trans rfl
  have hfz3 := blk_frozen K1.out 3
  have hcz4 : w1.cell? ⟨gb, 4, none⟩ = some (.int .i64 0) := (blk_cell K1.out 4).trans rfl
  have hfz4 := blk_frozen K1.out 4
  have hcz5 : w1.cell? ⟨gb, 5, none⟩ = some (.float .f64 0) := (blk_cell K1.out 5).trans rfl
  have hfz5 := blk_frozen K1.out 5
  have hcz6 : w1.cell? ⟨gb, 6, none⟩ = some (.int .i64 0) := (blk_cell K1.out 6).trans rfl
  have hfz6 := blk_frozen K1.out 6
  have hcz7 : w1.cell? ⟨gb, 7, none⟩ = some (.int .i64 0) := (blk_cell K1.out 7).trans rfl
  have hfz7 := blk_frozen K1.out 7
  go_wp2_with fail
  have B0 := blk_put (cs := #[.int .i64 0, .int .i64 0, .int .i64 0, .int .i64 0, .int .i64 0, .float .f64 0, .int .i64 0, .int .i64 0]) (cs' := #[.int .i64 0, .int .i64 0, .int .i64 0, .int .i64 0, .int .i64 0, .float .f64 0, .int .i64 0, .int .i64 0]) K1.out 0 (.int .i64 0) rfl
  have B1 := blk_put (cs := #[.int .i64 0, .int .i64 0, .int .i64 0, .int .i64 0, .int .i64 0, .float .f64 0, .int .i64 0, .int .i64 0]) (cs' := #[.int .i64 0, .int .i64 0, .int .i64 0, .int .i64 0, .int .i64 0, .float .f64 0, .int .i64 0, .int .i64 0]) B0 1 (.int .i64 0) rfl
  have B2 := blk_put (cs := #[.int .i64 0, .int .i64 0, .int .i64 0, .int .i64 0, .int .i64 0, .float .f64 0, .int .i64 0, .int .i64 0]) (cs' := #[.int .i64 0, .int .i64 0, .int .i64 0, .int .i64 0, .int .i64 0, .float .f64 0, .int .i64 0, .int .i64 0]) B1 2 (.int .i64 0) rfl
  have B3 := blk_put (cs := #[.int .i64 0, .int .i64 0, .int .i64 0, .int .i64 0, .int .i64 0, .float .f64 0, .int .i64 0, .int .i64 0]) (cs' := #[.int .i64 0, .int .i64 0, .int .i64 0, .int .i64 0, .int .i64 0, .float .f64 0, .int .i64 0, .int .i64 0]) B2 3 (.int .i64 0) rfl
  have B4 := blk_put (cs := #[.int .i64 0, .int .i64 0, .int .i64 0, .int .i64 0, .int .i64 0, .float .f64 0, .int .i64 0, .int .i64 0]) (cs' := #[.int .i64 0, .int .i64 0, .int .i64 0, .int .i64 0, .int .i64 0, .float .f64 0, .int .i64 0, .int .i64 0]) B3 4 (.int .i64 0) rfl
  have B5 := blk_put (cs := #[.int .i64 0, .int .i64 0, .int .i64 0, .int .i64 0, .int .i64 0, .float .f64 0, .int .i64 0, .int .i64 0]) (cs' := #[.int .i64 0, .int .i64 0, .int .i64 0, .int .i64 0, .int .i64 0, .float .f64 0, .int .i64 0, .int .i64 0]) B4 5 (.float .f64 0) rfl
  have B6 := blk_put (cs := #[.int .i64 0, .int .i64 0, .int .i64 0, .int .i64 0, .int .i64 0, .float .f64 0, .int .i64 0, .int .i64 0]) (cs' := #[.int .i64 0, .int .i64 0, .int .i64 0, .int .i64 0, .int .i64 0, .float .f64 0, .int .i64 0, .int .i64 0]) B5 6 (.int .i64 0) rfl
  have B7 := blk_put (cs := #[.int .i64 0, .int .i64 0, .int .i64 0, .int .i64 0, .int .i64 0, .float .f64 0, .int .i64 0, .int .i64 0]) (cs' := #[.int .i64 0, .int .i64 0, .int .i64 0, .int .i64 0, .int .i64 0, .float .f64 0, .int .i64 0, .int .i64 0]) B6 7 (.int .i64 0) rfl
  refine bodyPost_ret (results_ct rfl _ _ gb 37 #[.int .i64 0, .int .i64 0, .int .i64 0, .int .i64 0, .int .i64 0, .float .f64 0, .int .i64 0, .int .i64 0] (0, 0) _ rfl B7 Try.underlying37 rfl (by kernel_rfl)) rfl ⟨rfl, ?_⟩
  repeat (first | (with_reducible first | exact HBw1.out | refine below_set ?_ GE'.out) | exact HBw1.out)
set_option maxHeartbeats 8000000 in
set_option maxRecDepth 100000 in
theorem rsplit_hi (k : Nat) (a0 fl : Nat) (hF : math_Floor.f a0 = some fl) (hge : (FloatKind.f64.format.order fl 14054727237768577024 == some Ordering.gt || FloatKind.f64.format.order fl 14054727237768577024 == some Ordering.eq) = true) (hle : (FloatKind.f64.format.order fl 4831355200913801216 == some Ordering.lt || FloatKind.f64.format.order fl 4831355200913801216 == some Ordering.eq) = false) (w : World) :
    Calls Try.prog 19 #[.float .f64 a0] w fun e w' => e = .returned (.tuple #[.agg #[.int .i64 0, .int .i64 0, .int .i64 0, .int .i64 0, .int .i64 0, .float .f64 0, .int .i64 0, .int .i64 0], .int .i64 110]) ∧ Below w.heap.size w w' := by
  have CF := Aside0.mk hF
  clear hF
  go_enter Try.func19, Try.ntmps19
  go_wp2_with fail
  obtain ⟨W0, hW0⟩ : ∃ W0, W0 = w.alloc (.cells #[.int .i64 0, .int .i64 0, .int .i64 0, .int .i64 0, .int .i64 0, .float .f64 0, .int .i64 0, .int .i64 0] 37) := ⟨_, rfl⟩
  have HBW0 := Aside0.mk (show Below w.heap.size w W0 from by rw [hW0]; exact (Below.refl _ _).alloc (Nat.le_refl _) _)
  have K0 := Aside0.mk (show W0.heap[w.heap.size]? = some (.cells #[.int .i64 0, .int .i64 0, .int .i64 0, .int .i64 0, .int .i64 0, .float .f64 0, .int .i64 0, .int .i64 0] 37) from by rw [hW0]; exact Array.getElem?_push_size)
  have GE := Aside0.mk (Nat.le_refl w.heap.size)
  rw [← hW0]
  clear hW0
  generalize hgb : w.heap.size = gb at K0 ⊢
  rw [hgb] at GE
  have GE' := Aside0.mk (show w.heap.size ≤ gb from by omega)
  clear GE
  refine (math_Floor.calls a0 fl _ CF.out).mono ?_
  rintro e w1 ⟨rfl, hb_⟩
  have K1 := Aside0.mk (keep_blk hb_.below K0.out)
  have HBw1 := Aside0.mk (HBW0.out.trans (hb_.below.mono HBW0.out.size))
  clear K0 hb_
  have gz : gb < w1.heap.size := by obtain ⟨h, _⟩ := Array.getElem?_eq_some_iff.1 K1.out; exact h
  have hcz0 : w1.cell? ⟨gb, 0, none⟩ = some (.int .i64 0) := (blk_cell K1.out 0).trans rfl
  have hfz0 := blk_frozen K1.out 0
  have hcz1 : w1.cell? ⟨gb, 1, none⟩ = some (.int .i64 0) := (blk_cell K1.out 1).trans rfl
  have hfz1 := blk_frozen K1.out 1
  have hcz2 : w1.cell? ⟨gb, 2, none⟩ = some (.int .i64 0) := (blk_cell K1.out 2).trans rfl
  have hfz2 := blk_frozen K1.out 2
  have hcz3 : w1.cell? ⟨gb, 3, none⟩ = some (.int .i64 0) := (blk_cell K1.out 3).trans rfl
  have hfz3 := blk_frozen K1.out 3
  have hcz4 : w1.cell? ⟨gb, 4, none⟩ = some (.int .i64 0) := (blk_cell K1.out 4).trans rfl
  have hfz4 := blk_frozen K1.out 4
  have hcz5 : w1.cell? ⟨gb, 5, none⟩ = some (.float .f64 0) := (blk_cell K1.out 5).trans rfl
  have hfz5 := blk_frozen K1.out 5
  have hcz6 : w1.cell? ⟨gb, 6, none⟩ = some (.int .i64 0) := (blk_cell K1.out 6).trans rfl
  have hfz6 := blk_frozen K1.out 6
  have hcz7 : w1.cell? ⟨gb, 7, none⟩ = some (.int .i64 0) := (blk_cell K1.out 7).trans rfl
  have hfz7 := blk_frozen K1.out 7
  go_wp2_with fail
  have B0 := blk_put (cs := #[.int .i64 0, .int .i64 0, .int .i64 0, .int .i64 0, .int .i64 0, .float .f64 0, .int .i64 0, .int .i64 0]) (cs' := #[.int .i64 0, .int .i64 0, .int .i64 0, .int .i64 0, .int .i64 0, .float .f64 0, .int .i64 0, .int .i64 0]) K1.out 0 (.int .i64 0) rfl
  have B1 := blk_put (cs := #[.int .i64 0, .int .i64 0, .int .i64 0, .int .i64 0, .int .i64 0, .float .f64 0, .int .i64 0, .int .i64 0]) (cs' := #[.int .i64 0, .int .i64 0, .int .i64 0, .int .i64 0, .int .i64 0, .float .f64 0, .int .i64 0, .int .i64 0]) B0 1 (.int .i64 0) rfl
  have B2 := blk_put (cs := #[.int .i64 0, .int .i64 0, .int .i64 0, .int .i64 0, .int .i64 0, .float .f64 0, .int .i64 0, .int .i64 0]) (cs' := #[.int .i64 0, .int .i64 0, .int .i64 0, .int .i64 0, .int .i64 0, .float .f64 0, .int .i64 0, .int .i64 0]) B1 2 (.int .i64 0) rfl
  have B3 := blk_put (cs := #[.int .i64 0, .int .i64 0, .int .i64 0, .int .i64 0, .int .i64 0, .float .f64 0, .int .i64 0, .int .i64 0]) (cs' := #[.int .i64 0, .int .i64 0, .int .i64 0, .int .i64 0, .int .i64 0, .float .f64 0, .int .i64 0, .int .i64 0]) B2 3 (.int .i64 0) rfl
  have B4 := blk_put (cs := #[.int .i64 0, .int .i64 0, .int .i64 0, .int .i64 0, .int .i64 0, .float .f64 0, .int .i64 0, .int .i64 0]) (cs' := #[.int .i64 0, .int .i64 0, .int .i64 0, .int .i64 0, .int .i64 0, .float .f64 0, .int .i64 0, .int .i64 0]) B3 4 (.int .i64 0) rfl
  have B5 := blk_put (cs := #[.int .i64 0, .int .i64 0, .int .i64 0, .int .i64 0, .int .i64 0, .float .f64 0, .int .i64 0, .int .i64 0]) (cs' := #[.int .i64 0, .int .i64 0, .int .i64 0, .int .i64 0, .int .i64 0, .float .f64 0, .int .i64 0, .int .i64 0]) B4 5 (.float .f64 0) rfl
  have B6 := blk_put (cs := #[.int .i64 0, .int .i64 0, .int .i64 0, .int .i64 0, .int .i64 0, .float .f64 0, .int .i64 0, .int .i64 0]) (cs' := #[.int .i64 0, .int .i64 0, .int .i64 0, .int .i64 0, .int .i64 0, .float .f64 0, .int .i64 0, .int .i64 0]) B5 6 (.int .i64 0) rfl
  have B7 := blk_put (cs := #[.int .i64 0, .int .i64 0, .int .i64 0, .int .i64 0, .int .i64 0, .float .f64 0, .int .i64 0, .int .i64 0]) (cs' := #[.int .i64 0, .int .i64 0, .int .i64 0, .int .i64 0, .int .i64 0, .float .f64 0, .int .i64 0, .int .i64 0]) B6 7 (.int .i64 0) rfl
  refine bodyPost_ret (results_ct rfl _ _ gb 37 #[.int .i64 0, .int .i64 0, .int .i64 0, .int .i64 0, .int .i64 0, .float .f64 0, .int .i64 0, .int .i64 0] (0, 0) _ rfl B7 Try.underlying37 rfl (by kernel_rfl)) rfl ⟨rfl, ?_⟩
  repeat (first | (with_reducible first | exact HBw1.out | refine below_set ?_ GE'.out) | exact HBw1.out)
set_option maxHeartbeats 8000000 in
set_option maxRecDepth 100000 in
theorem rsplit_out (k : Nat) (a0 fl : Nat) (hF : math_Floor.f a0 = some fl) (hge : (FloatKind.f64.format.order fl 14054727237768577024 == some Ordering.gt || FloatKind.f64.format.order fl 14054727237768577024 == some Ordering.eq) = true) (hle : (FloatKind.f64.format.order fl 4831355200913801216 == some Ordering.lt || FloatKind.f64.format.order fl 4831355200913801216 == some Ordering.eq) = true) (hf2 : f2iok .i64 fl = true)
    (n r : Int) (hd : colanderref11_floor.f (f2i .i64 fl) 86400 = some (n, r)) (hdate : colanderref11_Date.f k n = some (0, 0, 0, 110)) (w : World) :
    Calls Try.prog 19 #[.float .f64 a0] w fun e w' => e = .returned (.tuple #[.agg #[.int .i64 0, .int .i64 0, .int .i64 0, .int .i64 0, .int .i64 0, .float .f64 0, .int .i64 0, .int .i64 0], .int .i64 110]) ∧ Below w.heap.size w w' := by
  have HCv : ∀ (w_ : World), (convert 35 3 (.float .f64 fl)).run Try.prog w_ = .ok (.int .i64 (f2i .i64 fl)) w_ := fun w_ => run_f2iok (by kernel_rfl) Try.underlying3 hf2
  have CF := Aside0.mk hF
  have CD := Aside0.mk hd
  have CT := Aside0.mk hdate
  clear hF hd hdate hf2
  go_enter Try.func19, Try.ntmps19
  go_wp2_with fail
  obtain ⟨W0, hW0⟩ : ∃ W0, W0 = w.alloc (.cells #[.int .i64 0, .int .i64 0, .int .i64 0, .int .i64 0, .int .i64 0, .float .f64 0, .int .i64 0, .int .i64 0] 37) := ⟨_, rfl⟩
  have HBW0 := Aside0.mk (show Below w.heap.size w W0 from by rw [hW0]; exact (Below.refl _ _).alloc (Nat.le_refl _) _)
  have K0 := Aside0.mk (show W0.heap[w.heap.size]? = some (.cells #[.int .i64 0, .int .i64 0, .int .i64 0, .int .i64 0, .int .i64 0, .float .f64 0, .int .i64 0, .int .i64 0] 37) from by rw [hW0]; exact Array.getElem?_push_size)
  have GE := Aside0.mk (Nat.le_refl w.heap.size)
  rw [← hW0]
  clear hW0
  generalize hgb : w.heap.size = gb at K0 ⊢
  rw [hgb] at GE
  have GE' := Aside0.mk (show w.heap.size ≤ gb from by omega)
  clear GE
  refine (math_Floor.calls a0 fl _ CF.out).mono ?_
  rintro e w1 ⟨rfl, hb_⟩
  have K1 := Aside0.mk (keep_blk hb_.below K0.out)
  have HBw1 := Aside0.mk (HBW0.out.trans (hb_.below.mono HBW0.out.size))
  clear K0 hb_
  go_wp2_with fail
  refine (colanderref11_floor.calls (f2i .i64 fl) 86400 n r _ CD.out).mono ?_
  rintro e w2 ⟨rfl, hb_⟩
  have K2 := Aside0.mk (keep_blk hb_.below K1.out)
  have HBw2 := Aside0.mk (HBw1.out.trans (hb_.below.mono HBw1.out.size))
  clear K1 hb_
  go_wp2_with fail
  refine (colanderref11_Date.calls k n 0 0 0 110 _ CT.out).mono ?_
  rintro e w3 ⟨rfl, hb_⟩
  have K3 := Aside0.mk (keep_blk hb_.below K2.out)
  have HBw3 := Aside0.mk (HBw2.out.trans (hb_.below.mono HBw2.out.size))
  clear K2 hb_
  have gz : gb < w3.heap.size := by obtain ⟨h, _⟩ := Array.getElem?_eq_some_iff.1 K3.out; exact h
  have hcz0 : w3.cell? ⟨gb, 0, none⟩ = some (.int .i64 0) := (blk_cell K3.out 0).trans rfl
  have hfz0 := blk_frozen K3.out 0
  have hcz1 : w3.cell? ⟨gb, 1, none⟩ = some (.int .i64 0) := (blk_cell K3.out 1).trans rfl
  have hfz1 := blk_frozen K3.out 1
  have hcz2 : w3.cell? ⟨gb, 2, none⟩ = some (.int .i64 0) := (blk_cell K3.out 2).trans rfl
  have hfz2 := blk_frozen K3.out 2
  have hcz3 : w3.cell? ⟨gb, 3, none⟩ = some (.int .i64 0) := (blk_cell K3.out 3).trans rfl
  have hfz3 := blk_frozen K3.out 3
  have hcz4 : w3.cell? ⟨gb, 4, none⟩ = some (.int .i64 0) := (blk_cell K3.out 4).trans rfl
  have hfz4 := blk_frozen K3.out 4
  have hcz5 : w3.cell? ⟨gb, 5, none⟩ = some (.float .f64 0) := (blk_cell K3.out 5).trans rfl
  have hfz5 := blk_frozen K3.out 5
  have hcz6 : w3.cell? ⟨gb, 6, none⟩ = some (.int .i64 0) := (blk_cell K3.out 6).trans rfl
  have hfz6 := blk_frozen K3.out 6
  have hcz7 : w3.cell? ⟨gb, 7, none⟩ = some (.int .i64 0) := (blk_cell K3.out 7).trans rfl
  have hfz7 := blk_frozen K3.out 7
  go_wp2_with fail
  have B0 := blk_put (cs := #[.int .i64 0, .int .i64 0, .int .i64 0, .int .i64 0, .int .i64 0, .float .f64 0, .int .i64 0, .int .i64 0]) (cs' := #[.int .i64 0, .int .i64 0, .int .i64 0, .int .i64 0, .int .i64 0, .float .f64 0, .int .i64 0, .int .i64 0]) K3.out 0 (.int .i64 0) rfl
  have B1 := blk_put (cs := #[.int .i64 0, .int .i64 0, .int .i64 0, .int .i64 0, .int .i64 0, .float .f64 0, .int .i64 0, .int .i64 0]) (cs' := #[.int .i64 0, .int .i64 0, .int .i64 0, .int .i64 0, .int .i64 0, .float .f64 0, .int .i64 0, .int .i64 0]) B0 1 (.int .i64 0) rfl
  have B2 := blk_put (cs := #[.int .i64 0, .int .i64 0, .int .i64 0, .int .i64 0, .int .i64 0, .float .f64 0, .int .i64 0, .int .i64 0]) (cs' := #[.int .i64 0, .int .i64 0, .int .i64 0, .int .i64 0, .int .i64 0, .float .f64 0, .int .i64 0, .int .i64 0]) B1 2 (.int .i64 0) rfl
  have B3 := blk_put (cs := #[.int .i64 0, .int .i64 0, .int .i64 0, .int .i64 0, .int .i64 0, .float .f64 0, .int .i64 0, .int .i64 0]) (cs' := #[.int .i64 0, .int .i64 0, .int .i64 0, .int .i64 0, .int .i64 0, .float .f64 0, .int .i64 0, .int .i64 0]) B2 3 (.int .i64 0) rfl
  have B4 := blk_put (cs := #[.int .i64 0, .int .i64 0, .int .i64 0, .int .i64 0, .int .i64 0, .float .f64 0, .int .i64 0, .int .i64 0]) (cs' := #[.int .i64 0, .int .i64 0, .int .i64 0, .int .i64 0, .int .i64 0, .float .f64 0, .int .i64 0, .int .i64 0]) B3 4 (.int .i64 0) rfl
  have B5 := blk_put (cs := #[.int .i64 0, .int .i64 0, .int .i64 0, .int .i64 0, .int .i64 0, .float .f64 0, .int .i64 0, .int .i64 0]) (cs' := #[.int .i64 0, .int .i64 0, .int .i64 0, .int .i64 0, .int .i64 0, .float .f64 0, .int .i64 0, .int .i64 0]) B4 5 (.float .f64 0) rfl
  have B6 := blk_put (cs := #[.int .i64 0, .int .i64 0, .int .i64 0, .int .i64 0, .int .i64 0, .float .f64 0, .int .i64 0, .int .i64 0]) (cs' := #[.int .i64 0, .int .i64 0, .int .i64 0, .int .i64 0, .int .i64 0, .float .f64 0, .int .i64 0, .int .i64 0]) B5 6 (.int .i64 0) rfl
  have B7 := blk_put (cs := #[.int .i64 0, .int .i64 0, .int .i64 0, .int .i64 0, .int .i64 0, .float .f64 0, .int .i64 0, .int .i64 0]) (cs' := #[.int .i64 0, .int .i64 0, .int .i64 0, .int .i64 0, .int .i64 0, .float .f64 0, .int .i64 0, .int .i64 0]) B6 7 (.int .i64 0) rfl
  refine bodyPost_ret (results_ct rfl _ _ gb 37 #[.int .i64 0, .int .i64 0, .int .i64 0, .int .i64 0, .int .i64 0, .float .f64 0, .int .i64 0, .int .i64 0] (0, 0) _ rfl B7 Try.underlying37 rfl (by kernel_rfl)) rfl ⟨rfl, ?_⟩
  repeat (first | (with_reducible first | exact HBw3.out | refine below_set ?_ GE'.out) | exact HBw3.out)
end Go.Proofs.Ytomkhipfooafnaa.P
