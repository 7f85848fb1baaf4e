/- Split by hand and in plain arithmetic: the reference's Split, both at a NaN, the law CalendarSplits, following days. -/
import Derived.Test.YtomkhipfooafnaaP12
import Derived.Test.YtomkhipfooafnaaHandHeads
import Derived.Test.YtomkhipfooafnaaCalJoin
set_option linter.unusedVariables false
namespace Go.Proofs.Ytomkhipfooafnaa.P
open Go.RowKit Go.Proofs.YtomkhipfooafnaaW.PrintWords Go.Proofs.YtomkhipfooafnaaW.PrintLast Go.Proofs.YtomkhipfooafnaaW.PrintMore
def Z8 : Array Value := #[.int .i64 0, .int .i64 0, .int .i64 0, .int .i64 0, .int .i64 0, .float .f64 0, .int .i64 0, .int .i64 0]
theorem blk_other {W : World} {g : Nat} {o : Obj} {a : Addr} {v : Value} (h : W.heap[g]? = some o) (hne : g ≠ a.block) : (W.setCell a v).heap[g]? = some o := (Below.heap_setCell W a v g hne).trans h
theorem blk_al {W : World} {g : Nat} {o o' : Obj} (h : W.heap[g]? = some o) : (W.alloc o').heap[g]? = some o := (Below.heap_alloc W o' g (by obtain ⟨h, _⟩ := Array.getElem?_eq_some_iff.1 h; exact h)).trans h
set_option maxHeartbeats 8000000 in
set_option maxRecDepth 100000 in
theorem rsplit_ok (k : Nat) (a0 fl : Nat) (hF : math_Floor.f a0 = some fl) (hge : (FloatKind.f64.format.order fl 14054727237768577024 == some Ordering.gt || FloatKind.f64.format.order fl 14054727237768577024 == some Ordering.eq) = true)
    (hle : (FloatKind.f64.format.order fl 4831355200913801216 == some Ordering.lt || FloatKind.f64.format.order fl 4831355200913801216 == some Ordering.eq) = true) (hf2 : f2iok .i64 fl = true)
    (n r : Int) (hd : colanderref11_floor.f (f2i .i64 fl) 86400 = some (n, r)) (y m d : Int) (hdate : colanderref11_Date.f k n = some (y, m, d, 0)) (wd : Int) (hwd : colanderref11_wday.f n = some wd)
    (b : Int) (hb : colanderref11_begin.f k y 0 = some b) (sd : Nat) (hs : fok .sub a0 fl = true) (hsd : fval .sub a0 fl = sd) (ha : fok .add (floatOfInt .f64 (Int.tmod r 60)) sd = true) (w : World) :
    Calls Try.prog 19 #[.float .f64 a0] w fun e w' => e = .returned (.tuple #[.agg #[.int .i64 y, .int .i64 m, .int .i64 d, .int .i64 (wrap64 (Int.tdiv r 3600)), .int .i64 (Int.tmod (wrap64 (Int.tdiv r 60)) 60),
      .float .f64 (fval .add (floatOfInt .f64 (Int.tmod r 60)) sd), .int .i64 wd, .int .i64 (wrap64 (n - b))], .int .i64 0]) ∧ Below w.heap.size w w' := by
  have HSub : ∀ (t_ : TypeId) (w_ : World), (binOp .sub t_ (.float .f64 a0) (.float .f64 fl)).run Try.prog w_ = .ok (.float .f64 sd) w_ := fun t_ w_ => by rw [← hsd]; exact run_fok t_ w_ hs
  have HAdd : ∀ (t_ : TypeId) (w_ : World), (binOp .add t_ (.float .f64 (floatOfInt .f64 (Int.tmod r 60))) (.float .f64 sd)).run Try.prog w_ = .ok (.float .f64 (fval .add (floatOfInt .f64 (Int.tmod r 60)) sd)) w_ := fun t_ w_ => run_fok t_ w_ ha
  have HCv : ∀ (w_ : World), (convert 35 3 (.float .f64 fl)).run Try.prog w_ = .ok (.int .i64 (f2i .i64 fl)) w_ := fun w_ => run_f2iok (by kernel_rfl) Try.underlying3 hf2
  have CF := Aside0.mk hF
  have CD := Aside0.mk hd
  have CT := Aside0.mk hdate
  have CW := Aside0.mk hwd
  have CB := Aside0.mk hb
  clear hF hd hdate hwd hb hsd hs ha hf2
  go_enter Try.func19, Try.ntmps19
  go_wp2_with fail
  obtain ⟨W0, hW0⟩ : ∃ W0, W0 = w.alloc (.cells #[.int .i64 0, .int .i64 0, .int .i64 0, .int .i64 0, .int .i64 0, .float .f64 0, .int .i64 0, .int .i64 0] 37) := ⟨_, rfl⟩
  have HBW0 := Aside0.mk (show Below w.heap.size w W0 from by rw [hW0]; exact (Below.refl _ _).alloc (Nat.le_refl _) _)
  have K0 := Aside0.mk (show W0.heap[w.heap.size]? = some (.cells #[.int .i64 0, .int .i64 0, .int .i64 0, .int .i64 0, .int .i64 0, .float .f64 0, .int .i64 0, .int .i64 0] 37) from by rw [hW0]; exact Array.getElem?_push_size)
  have GE := Aside0.mk (Nat.le_refl w.heap.size)
  rw [← hW0]
  clear hW0
  generalize hgb : w.heap.size = gb at K0 ⊢
  rw [hgb] at GE
  have GE' := Aside0.mk (show w.heap.size ≤ gb from by omega)
  clear GE
  refine (math_Floor.calls a0 fl _ CF.out).mono ?_
  rintro e w1 ⟨rfl, hb_⟩
  have K1 := Aside0.mk (keep_blk hb_.below K0.out)
  have HBw1 := Aside0.mk (HBW0.out.trans (hb_.below.mono HBW0.out.size))
  clear K0 hb_
  go_wp2_with fail
  refine (colanderref11_floor.calls (f2i .i64 fl) 86400 n r _ CD.out).mono ?_
  rintro e w2 ⟨rfl, hb_⟩
  have K2 := Aside0.mk (keep_blk hb_.below K1.out)
  have HBw2 := Aside0.mk (HBw1.out.trans (hb_.below.mono HBw1.out.size))
  clear K1 hb_
  go_wp2_with fail
  refine (colanderref11_Date.calls k n y m d 0 _ CT.out).mono ?_
  rintro e w3 ⟨rfl, hb_⟩
  have K3 := Aside0.mk (keep_blk hb_.below K2.out)
  have HBw3 := Aside0.mk (HBw2.out.trans (hb_.below.mono HBw2.out.size))
  clear K2 hb_
  go_wp2_with fail
  refine (colanderref11_wday.calls n wd _ CW.out).mono ?_
  rintro e w4 ⟨rfl, hb_⟩
  have K4 := Aside0.mk (keep_blk hb_.below K3.out)
  have HBw4 := Aside0.mk (HBw3.out.trans (hb_.below.mono HBw3.out.size))
  clear K3 hb_
  go_wp2_with fail
  refine (colanderref11_begin.calls k y 0 b _ CB.out).mono ?_
  rintro e w5 ⟨rfl, hb_⟩
  have K5 := Aside0.mk (keep_blk hb_.below K4.out)
  have HBw5 := Aside0.mk (HBw4.out.trans (hb_.below.mono HBw4.out.size))
  clear K4 hb_
  have gz : gb < w5.heap.size := by obtain ⟨h, _⟩ := Array.getElem?_eq_some_iff.1 K5.out; exact h
  have hcz0 : w5.cell? ⟨gb, 0, none⟩ = some (.int .i64 0) := (blk_cell K5.out 0).trans rfl
  have hfz0 := blk_frozen K5.out 0
  have hcz1 : w5.cell? ⟨gb, 1, none⟩ = some (.int .i64 0) := (blk_cell K5.out 1).trans rfl
  have hfz1 := blk_frozen K5.out 1
  have hcz2 : w5.cell? ⟨gb, 2, none⟩ = some (.int .i64 0) := (blk_cell K5.out 2).trans rfl
  have hfz2 := blk_frozen K5.out 2
  have hcz3 : w5.cell? ⟨gb, 3, none⟩ = some (.int .i64 0) := (blk_cell K5.out 3).trans rfl
  have hfz3 := blk_frozen K5.out 3
  have hcz4 : w5.cell? ⟨gb, 4, none⟩ = some (.int .i64 0) := (blk_cell K5.out 4).trans rfl
  have hfz4 := blk_frozen K5.out 4
  have hcz5 : w5.cell? ⟨gb, 5, none⟩ = some (.float .f64 0) := (blk_cell K5.out 5).trans rfl
  have hfz5 := blk_frozen K5.out 5
  have hcz6 : w5.cell? ⟨gb, 6, none⟩ = some (.int .i64 0) := (blk_cell K5.out 6).trans rfl
  have hfz6 := blk_frozen K5.out 6
  have hcz7 : w5.cell? ⟨gb, 7, none⟩ = some (.int .i64 0) := (blk_cell K5.out 7).trans rfl
  have hfz7 := blk_frozen K5.out 7
  go_wp2_with fail
  have B0 := blk_put (cs := #[.int .i64 0, .int .i64 0, .int .i64 0, .int .i64 0, .int .i64 0, .float .f64 0, .int .i64 0, .int .i64 0]) (cs' := #[.int .i64 y, .int .i64 0, .int .i64 0, .int .i64 0, .int .i64 0, .float .f64 0, .int .i64 0, .int .i64 0]) K5.out 0 (.int .i64 y) rfl
  have B1 := blk_put (cs := #[.int .i64 y, .int .i64 0, .int .i64 0, .int .i64 0, .int .i64 0, .float .f64 0, .int .i64 0, .int .i64 0]) (cs' := #[.int .i64 y, .int .i64 m, .int .i64 0, .int .i64 0, .int .i64 0, .float .f64 0, .int .i64 0, .int .i64 0]) B0 1 (.int .i64 m) rfl
  have B2 := blk_put (cs := #[.int .i64 y, .int .i64 m, .int .i64 0, .int .i64 0, .int .i64 0, .float .f64 0, .int .i64 0, .int .i64 0]) (cs' := #[.int .i64 y, .int .i64 m, .int .i64 d, .int .i64 0, .int .i64 0, .float .f64 0, .int .i64 0, .int .i64 0]) B1 2 (.int .i64 d) rfl
  have B3 := blk_put (cs := #[.int .i64 y, .int .i64 m, .int .i64 d, .int .i64 0, .int .i64 0, .float .f64 0, .int .i64 0, .int .i64 0]) (cs' := #[.int .i64 y, .int .i64 m, .int .i64 d, .int .i64 (wrap64 (Int.tdiv r 3600)), .int .i64 0, .float .f64 0, .int .i64 0, .int .i64 0]) B2 3 (.int .i64 (wrap64 (Int.tdiv r 3600))) rfl
  have B4 := blk_put (cs := #[.int .i64 y, .int .i64 m, .int .i64 d, .int .i64 (wrap64 (Int.tdiv r 3600)), .int .i64 0, .float .f64 0, .int .i64 0, .int .i64 0]) (cs' := #[.int .i64 y, .int .i64 m, .int .i64 d, .int .i64 (wrap64 (Int.tdiv r 3600)), .int .i64 (Int.tmod (wrap64 (Int.tdiv r 60)) 60), .float .f64 0, .int .i64 0, .int .i64 0]) B3 4 (.int .i64 (Int.tmod (wrap64 (Int.tdiv r 60)) 60)) rfl
  have B5 := blk_put (cs := #[.int .i64 y, .int .i64 m, .int .i64 d, .int .i64 (wrap64 (Int.tdiv r 3600)), .int .i64 (Int.tmod (wrap64 (Int.tdiv r 60)) 60), .float .f64 0, .int .i64 0, .int .i64 0]) (cs' := #[.int .i64 y, .int .i64 m, .int .i64 d, .int .i64 (wrap64 (Int.tdiv r 3600)), .int .i64 (Int.tmod (wrap64 (Int.tdiv r 60)) 60), .float .f64 (fval .add (floatOfInt .f64 (Int.tmod r 60)) sd), .int .i64 0, .int .i64 0]) B4 5 (.float .f64 (fval .add (floatOfInt .f64 (Int.tmod r 60)) sd)) rfl
  have B6 := blk_put (cs := #[.int .i64 y, .int .i64 m, .int .i64 d, .int .i64 (wrap64 (Int.tdiv r 3600)), .int .i64 (Int.tmod (wrap64 (Int.tdiv r 60)) 60), .float .f64 (fval .add (floatOfInt .f64 (Int.tmod r 60)) sd), .int .i64 0, .int .i64 0]) (cs' := #[.int .i64 y, .int .i64 m, .int .i64 d, .int .i64 (wrap64 (Int.tdiv r 3600)), .int .i64 (Int.tmod (wrap64 (Int.tdiv r 60)) 60), .float .f64 (fval .add (floatOfInt .f64 (Int.tmod r 60)) sd), .int .i64 wd, .int .i64 0]) B5 6 (.int .i64 wd) rfl
  have B7 := blk_put (cs := #[.int .i64 y, .int .i64 m, .int .i64 d, .int .i64 (wrap64 (Int.tdiv r 3600)), .int .i64 (Int.tmod (wrap64 (Int.tdiv r 60)) 60), .float .f64 (fval .add (floatOfInt .f64 (Int.tmod r 60)) sd), .int .i64 wd, .int .i64 0]) (cs' := #[.int .i64 y, .int .i64 m, .int .i64 d, .int .i64 (wrap64 (Int.tdiv r 3600)), .int .i64 (Int.tmod (wrap64 (Int.tdiv r 60)) 60), .float .f64 (fval .add (floatOfInt .f64 (Int.tmod r 60)) sd), .int .i64 wd, .int .i64 (wrap64 (n - b))]) B6 7 (.int .i64 (wrap64 (n - b))) rfl
  refine bodyPost_ret (results_ct rfl _ _ gb 37 #[.int .i64 y, .int .i64 m, .int .i64 d, .int .i64 (wrap64 (Int.tdiv r 3600)), .int .i64 (Int.tmod (wrap64 (Int.tdiv r 60)) 60), .float .f64 (fval .add (floatOfInt .f64 (Int.tmod r 60)) sd), .int .i64 wd, .int .i64 (wrap64 (n - b))] (0, 0) _ rfl (blk_al B7) Try.underlying37 rfl (by kernel_rfl)) rfl ⟨rfl, ?_⟩
  repeat (first | (with_reducible first | exact HBw5.out | apply below_alloc | refine below_set ?_ GE'.out) | exact HBw5.out)
set_option maxHeartbeats 8000000 in
set_option maxRecDepth 100000 in
theorem rsplit_lo (k : Nat) (a0 fl : Nat) (hF : math_Floor.f a0 = some fl) (hge : (FloatKind.f64.format.order fl 14054727237768577024 == some Ordering.gt || FloatKind.f64.format.order fl 14054727237768577024 == some Ordering.eq) = false) (w : World) :
    Calls Try.prog 19 #[.float .f64 a0] w fun e w' => e = .returned (.tuple #[.agg #[.int .i64 0, .int .i64 0, .int .i64 0, .int .i64 0, .int .i64 0, .float .f64 0, .int .i64 0, .int .i64 0], .int .i64 110]) ∧ Below w.heap.size w w' := by
  have CF := Aside0.mk hF
  clear hF
  go_enter Try.func19, Try.ntmps19
  go_wp2_with fail
  obtain ⟨W0, hW0⟩ : ∃ W0, W0 = w.alloc (.cells #[.int .i64 0, .int .i64 0, .int .i64 0, .int .i64 0, .int .i64 0, .float .f64 0, .int .i64 0, .int .i64 0] 37) := ⟨_, rfl⟩
  have HBW0 := Aside0.mk (show Below w.heap.size w W0 from by rw [hW0]; exact (Below.refl _ _).alloc (Nat.le_refl _) _)
  have K0 := Aside0.mk (show W0.heap[w.heap.size]? = some (.cells #[.int .i64 0, .int .i64 0, .int .i64 0, .int .i64 0, .int .i64 0, .float .f64 0, .int .i64 0, .int .i64 0] 37) from by rw [hW0]; exact Array.getElem?_push_size)
  have GE := Aside0.mk (Nat.le_refl w.heap.size)
  rw [← hW0]
  clear hW0
  generalize hgb : w.heap.size = gb at K0 ⊢
  rw [hgb] at GE
  have GE' := Aside0.mk (show w.heap.size ≤ gb from by omega)
  clear GE
  refine (math_Floor.calls a0 fl _ CF.out).mono ?_
  rintro e w1 ⟨rfl, hb_⟩
  have K1 := Aside0.mk (keep_blk hb_.below K0.out)
  have HBw1 := Aside0.mk (HBW0.out.trans (hb_.below.mono HBW0.out.size))
  clear K0 hb_
  have gz : gb < w1.heap.size := by obtain ⟨h, _⟩ := Array.getElem?_eq_some_iff.1 K1.out; exact h
  have hcz0 : w1.cell? ⟨gb, 0, none⟩ = some (.int .i64 0) := (blk_cell K1.out 0).trans rfl
  have hfz0 := blk_frozen K1.out 0
  have hcz1 : w1.cell? ⟨gb, 1, none⟩ = some (.int .i64 0) := (blk_cell K1.out 1).trans rfl
  have hfz1 := blk_frozen K1.out 1
  have hcz2 : w1.cell? ⟨gb, 2, none⟩ = some (.int .i64 0) := (blk_cell K1.out 2).trans rfl
  have hfz2 := blk_frozen K1.out 2
  have hcz3 : w1.cell? ⟨gb, 3, none⟩ = some (.int .i64 0) := (blk_cell K1.out 3).trans rfl
  have hfz3 := blk_frozen K1.out 3
  have hcz4 : w1.cell? ⟨gb, 4, none⟩ = some (.int .i64 0) := (blk_cell K1.out 4).trans rfl
  have hfz4 := blk_frozen K1.out 4
  have hcz5 : w1.cell? ⟨gb, 5, none⟩ = some (.float .f64 0) := (blk_cell K1.out 5).trans rfl
  have hfz5 := blk_frozen K1.out 5
  have hcz6 : w1.cell? ⟨gb, 6, none⟩ = some (.int .i64 0) := (blk_cell K1.out 6).trans rfl
  have hfz6 := blk_frozen K1.out 6
  have hcz7 : w1.cell? ⟨gb, 7, none⟩ = some (.int .i64 0) := (blk_cell K1.out 7).trans rfl
  have hfz7 := blk_frozen K1.out 7
  go_wp2_with fail
  have B0 := blk_put (cs := #[.int .i64 0, .int .i64 0, .int .i64 0, .int .i64 0, .int .i64 0, .float .f64 0, .int .i64 0, .int .i64 0]) (cs' := #[.int .i64 0, .int .i64 0, .int .i64 0, .int .i64 0, .int .i64 0, .float .f64 0, .int .i64 0, .int .i64 0]) K1.out 0 (.int .i64 0) rfl
  have B1 := blk_put (cs := #[.int .i64 0, .int .i64 0, .int .i64 0, .int .i64 0, .int .i64 0, .float .f64 0, .int .i64 0, .int .i64 0]) (cs' := #[.int .i64 0, .int .i64 0, .int .i64 0, .int .i64 0, .int .i64 0, .float .f64 0, .int .i64 0, .int .i64 0]) B0 1 (.int .i64 0) rfl
  have B2 := blk_put (cs := #[.int .i64 0, .int .i64 0, .int .i64 0, .int .i64 0, .int .i64 0, .float .f64 0, .int .i64 0, .int .i64 0]) (cs' := #[.int .i64 0, .int .i64 0, .int .i64 0, .int .i64 0, .int .i64 0, .float .f64 0, .int .i64 0, .int .i64 0]) B1 2 (.int .i64 0) rfl
  have B3 := blk_put (cs := #[.int .i64 0, .int .i64 0, .int .i64 0, .int .i64 0, .int .i64 0, .float .f64 0, .int .i64 0, .int .i64 0]) (cs' := #[.int .i64 0, .int .i64 0, .int .i64 0, .int .i64 0, .int .i64 0, .float .f64 0, .int .i64 0, .int .i64 0]) B2 3 (.int .i64 0) rfl
  have B4 := blk_put (cs := #[.int .i64 0, .int .i64 0, .int .i64 0, .int .i64 0, .int .i64 0, .float .f64 0, .int .i64 0, .int .i64 0]) (cs' := #[.int .i64 0, .int .i64 0, .int .i64 0, .int .i64 0, .int .i64 0, .float .f64 0, .int .i64 0, .int .i64 0]) B3 4 (.int .i64 0) rfl
  have B5 := blk_put (cs := #[.int .i64 0, .int .i64 0, .int .i64 0, .int .i64 0, .int .i64 0, .float .f64 0, .int .i64 0, .int .i64 0]) (cs' := #[.int .i64 0, .int .i64 0, .int .i64 0, .int .i64 0, .int .i64 0, .float .f64 0, .int .i64 0, .int .i64 0]) B4 5 (.float .f64 0) rfl
  have B6 := blk_put (cs := #[.int .i64 0, .int .i64 0, .int .i64 0, .int .i64 0, .int .i64 0, .float .f64 0, .int .i64 0, .int .i64 0]) (cs' := #[.int .i64 0, .int .i64 0, .int .i64 0, .int .i64 0, .int .i64 0, .float .f64 0, .int .i64 0, .int .i64 0]) B5 6 (.int .i64 0) rfl
  have B7 := blk_put (cs := #[.int .i64 0, .int .i64 0, .int .i64 0, .int .i64 0, .int .i64 0, .float .f64 0, .int .i64 0, .int .i64 0]) (cs' := #[.int .i64 0, .int .i64 0, .int .i64 0, .int .i64 0, .int .i64 0, .float .f64 0, .int .i64 0, .int .i64 0]) B6 7 (.int .i64 0) rfl
  refine bodyPost_ret (results_ct rfl _ _ gb 37 #[.int .i64 0, .int .i64 0, .int .i64 0, .int .i64 0, .int .i64 0, .float .f64 0, .int .i64 0, .int .i64 0] (0, 0) _ rfl B7 Try.underlying37 rfl (by kernel_rfl)) rfl ⟨rfl, ?_⟩
  repeat (first | (with_reducible first | exact HBw1.out | refine below_set ?_ GE'.out) | exact HBw1.out)
set_option maxHeartbeats 8000000 in
set_option maxRecDepth 100000 in
theorem rsplit_hi (k : Nat) (a0 fl : Nat) (hF : math_Floor.f a0 = some fl) (hge : (FloatKind.f64.format.order fl 14054727237768577024 == some Ordering.gt || FloatKind.f64.format.order fl 14054727237768577024 == some Ordering.eq) = true) (hle : (FloatKind.f64.format.order fl 4831355200913801216 == some Ordering.lt || FloatKind.f64.format.order fl 4831355200913801216 == some Ordering.eq) = false) (w : World) :
    Calls Try.prog 19 #[.float .f64 a0] w fun e w' => e = .returned (.tuple #[.agg #[.int .i64 0, .int .i64 0, .int .i64 0, .int .i64 0, .int .i64 0, .float .f64 0, .int .i64 0, .int .i64 0], .int .i64 110]) ∧ Below w.heap.size w w' := by
  have CF := Aside0.mk hF
  clear hF
  go_enter Try.func19, Try.ntmps19
  go_wp2_with fail
  obtain ⟨W0, hW0⟩ : ∃ W0, W0 = w.alloc (.cells #[.int .i64 0, .int .i64 0, .int .i64 0, .int .i64 0, .int .i64 0, .float .f64 0, .int .i64 0, .int .i64 0] 37) := ⟨_, rfl⟩
  have HBW0 := Aside0.mk (show Below w.heap.size w W0 from by rw [hW0]; exact (Below.refl _ _).alloc (Nat.le_refl _) _)
  have K0 := Aside0.mk (show W0.heap[w.heap.size]? = some (.cells #[.int .i64 0, .int .i64 0, .int .i64 0, .int .i64 0, .int .i64 0, .float .f64 0, .int .i64 0, .int .i64 0] 37) from by rw [hW0]; exact Array.getElem?_push_size)
  have GE := Aside0.mk (Nat.le_refl w.heap.size)
  rw [← hW0]
  clear hW0
  generalize hgb : w.heap.size = gb at K0 ⊢
  rw [hgb] at GE
  have GE' := Aside0.mk (show w.heap.size ≤ gb from by omega)
  clear GE
  refine (math_Floor.calls a0 fl _ CF.out).mono ?_
  rintro e w1 ⟨rfl, hb_⟩
  have K1 := Aside0.mk (keep_blk hb_.below K0.out)
  have HBw1 := Aside0.mk (HBW0.out.trans (hb_.below.mono HBW0.out.size))
  clear K0 hb_
  have gz : gb < w1.heap.size := by obtain ⟨h, _⟩ := Array.getElem?_eq_some_iff.1 K1.out; exact h
  have hcz0 : w1.cell? ⟨gb, 0, none⟩ = some (.int .i64 0) := (blk_cell K1.out 0).trans rfl
  have hfz0 := blk_frozen K1.out 0
  have hcz1 : w1.cell? ⟨gb, 1, none⟩ = some (.int .i64 0) := (blk_cell K1.out 1).trans rfl
  have hfz1 := blk_frozen K1.out 1
  have hcz2 : w1.cell? ⟨gb, 2, none⟩ = some (.int .i64 0) := (blk_cell K1.out 2).trans rfl
  have hfz2 := blk_frozen K1.out 2
  have hcz3 : w1.cell? ⟨gb, 3, none⟩ = some (.int .i64 0) := (blk_cell K1.out 3).trans rfl
  have hfz3 := blk_frozen K1.out 3
  have hcz4 : w1.cell? ⟨gb, 4, none⟩ = some (.int .i64 0) := (blk_cell K1.out 4).trans rfl
  have hfz4 := blk_frozen K1.out 4
  have hcz5 : w1.cell? ⟨gb, 5, none⟩ = some (.float .f64 0) := (blk_cell K1.out 5).trans rfl
  have hfz5 := blk_frozen K1.out 5
  have hcz6 : w1.cell? ⟨gb, 6, none⟩ = some (.int .i64 0) := (blk_cell K1.out 6).trans rfl
  have hfz6 := blk_frozen K1.out 6
  have hcz7 : w1.cell? ⟨gb, 7, none⟩ = some (.int .i64 0) := (blk_cell K1.out 7).trans rfl
  have hfz7 := blk_frozen K1.out 7
  go_wp2_with fail
  have B0 := blk_put (cs := #[.int .i64 0, .int .i64 0, .int .i64 0, .int .i64 0, .int .i64 0, .float .f64 0, .int .i64 0, .int .i64 0]) (cs' := #[.int .i64 0, .int .i64 0, .int .i64 0, .int .i64 0, .int .i64 0, .float .f64 0, .int .i64 0, .int .i64 0]) K1.out 0 (.int .i64 0) rfl
  have B1 := blk_put (cs := #[.int .i64 0, .int .i64 0, .int .i64 0, .int .i64 0, .int .i64 0, .float .f64 0, .int .i64 0, .int .i64 0]) (cs' := #[.int .i64 0, .int .i64 0, .int .i64 0, .int .i64 0, .int .i64 0, .float .f64 0, .int .i64 0, .int .i64 0]) B0 1 (.int .i64 0) rfl
  have B2 := blk_put (cs := #[.int .i64 0, .int .i64 0, .int .i64 0, .int .i64 0, .int .i64 0, .float .f64 0, .int .i64 0, .int .i64 0]) (cs' := #[.int .i64 0, .int .i64 0, .int .i64 0, .int .i64 0, .int .i64 0, .float .f64 0, .int .i64 0, .int .i64 0]) B1 2 (.int .i64 0) rfl
  have B3 := blk_put (cs := #[.int .i64 0, .int .i64 0, .int .i64 0, .int .i64 0, .int .i64 0, .float .f64 0, .int .i64 0, .int .i64 0]) (cs' := #[.int .i64 0, .int .i64 0, .int .i64 0, .int .i64 0, .int .i64 0, .float .f64 0, .int .i64 0, .int .i64 0]) B2 3 (.int .i64 0) rfl
  have B4 := blk_put (cs := #[.int .i64 0, .int .i64 0, .int .i64 0, .int .i64 0, .int .i64 0, .float .f64 0, .int .i64 0, .int .i64 0]) (cs' := #[.int .i64 0, .int .i64 0, .int .i64 0, .int .i64 0, .int .i64 0, .float .f64 0, .int .i64 0, .int .i64 0]) B3 4 (.int .i64 0) rfl
  have B5 := blk_put (cs := #[.int .i64 0, .int .i64 0, .int .i64 0, .int .i64 0, .int .i64 0, .float .f64 0, .int .i64 0, .int .i64 0]) (cs' := #[.int .i64 0, .int .i64 0, .int .i64 0, .int .i64 0, .int .i64 0, .float .f64 0, .int .i64 0, .int .i64 0]) B4 5 (.float .f64 0) rfl
  have B6 := blk_put (cs := #[.int .i64 0, .int .i64 0, .int .i64 0, .int .i64 0, .int .i64 0, .float .f64 0, .int .i64 0, .int .i64 0]) (cs' := #[.int .i64 0, .int .i64 0, .int .i64 0, .int .i64 0, .int .i64 0, .float .f64 0, .int .i64 0, .int .i64 0]) B5 6 (.int .i64 0) rfl
  have B7 := blk_put (cs := #[.int .i64 0, .int .i64 0, .int .i64 0, .int .i64 0, .int .i64 0, .float .f64 0, .int .i64 0, .int .i64 0]) (cs' := #[.int .i64 0, .int .i64 0, .int .i64 0, .int .i64 0, .int .i64 0, .float .f64 0, .int .i64 0, .int .i64 0]) B6 7 (.int .i64 0) rfl
  refine bodyPost_ret (results_ct rfl _ _ gb 37 #[.int .i64 0, .int .i64 0, .int .i64 0, .int .i64 0, .int .i64 0, .float .f64 0, .int .i64 0, .int .i64 0] (0, 0) _ rfl B7 Try.underlying37 rfl (by kernel_rfl)) rfl ⟨rfl, ?_⟩
  repeat (first | (with_reducible first | exact HBw1.out | refine below_set ?_ GE'.out) | exact HBw1.out)
set_option maxHeartbeats 8000000 in
set_option maxRecDepth 100000 in
theorem rsplit_out (k : Nat) (a0 fl : Nat) (hF : math_Floor.f a0 = some fl) (hge : (FloatKind.f64.format.order fl 14054727237768577024 == some Ordering.gt || FloatKind.f64.format.order fl 14054727237768577024 == some Ordering.eq) = true) (hle : (FloatKind.f64.format.order fl 4831355200913801216 == some Ordering.lt || FloatKind.f64.format.order fl 4831355200913801216 == some Ordering.eq) = true) (hf2 : f2iok .i64 fl = true)
    (n r : Int) (hd : colanderref11_floor.f (f2i .i64 fl) 86400 = some (n, r)) (hdate : colanderref11_Date.f k n = some (0, 0, 0, 110)) (w : World) :
    Calls Try.prog 19 #[.float .f64 a0] w fun e w' => e = .returned (.tuple #[.agg #[.int .i64 0, .int .i64 0, .int .i64 0, .int .i64 0, .int .i64 0, .float .f64 0, .int .i64 0, .int .i64 0], .int .i64 110]) ∧ Below w.heap.size w w' := by
  have HCv : ∀ (w_ : World), (convert 35 3 (.float .f64 fl)).run Try.prog w_ = .ok (.int .i64 (f2i .i64 fl)) w_ := fun w_ => run_f2iok (by kernel_rfl) Try.underlying3 hf2
  have CF := Aside0.mk hF
  have CD := Aside0.mk hd
  have CT := Aside0.mk hdate
  clear hF hd hdate hf2
  go_enter Try.func19, Try.ntmps19
  go_wp2_with fail
  obtain ⟨W0, hW0⟩ : ∃ W0, W0 = w.alloc (.cells #[.int .i64 0, .int .i64 0, .int .i64 0, .int .i64 0, .int .i64 0, .float .f64 0, .int .i64 0, .int .i64 0] 37) := ⟨_, rfl⟩
  have HBW0 := Aside0.mk (show Below w.heap.size w W0 from by rw [hW0]; exact (Below.refl _ _).alloc (Nat.le_refl _) _)
  have K0 := Aside0.mk (show W0.heap[w.heap.size]? = some (.cells #[.int .i64 0, .int .i64 0, .int .i64 0, .int .i64 0, .int .i64 0, .float .f64 0, .int .i64 0, .int .i64 0] 37) from by rw [hW0]; exact Array.getElem?_push_size)
  have GE := Aside0.mk (Nat.le_refl w.heap.size)
  rw [← hW0]
  clear hW0
  generalize hgb : w.heap.size = gb at K0 ⊢
  rw [hgb] at GE
  have GE' := Aside0.mk (show w.heap.size ≤ gb from by omega)
  clear GE
  refine (math_Floor.calls a0 fl _ CF.out).mono ?_
  rintro e w1 ⟨rfl, hb_⟩
  have K1 := Aside0.mk (keep_blk hb_.below K0.out)
  have HBw1 := Aside0.mk (HBW0.out.trans (hb_.below.mono HBW0.out.size))
  clear K0 hb_
  go_wp2_with fail
  refine (colanderref11_floor.calls (f2i .i64 fl) 86400 n r _ CD.out).mono ?_
  rintro e w2 ⟨rfl, hb_⟩
  have K2 := Aside0.mk (keep_blk hb_.below K1.out)
  have HBw2 := Aside0.mk (HBw1.out.trans (hb_.below.mono HBw1.out.size))
  clear K1 hb_
  go_wp2_with fail
  refine (colanderref11_Date.calls k n 0 0 0 110 _ CT.out).mono ?_
  rintro e w3 ⟨rfl, hb_⟩
  have K3 := Aside0.mk (keep_blk hb_.below K2.out)
  have HBw3 := Aside0.mk (HBw2.out.trans (hb_.below.mono HBw2.out.size))
  clear K2 hb_
  have gz : gb < w3.heap.size := by obtain ⟨h, _⟩ := Array.getElem?_eq_some_iff.1 K3.out; exact h
  have hcz0 : w3.cell? ⟨gb, 0, none⟩ = some (.int .i64 0) := (blk_cell K3.out 0).trans rfl
  have hfz0 := blk_frozen K3.out 0
  have hcz1 : w3.cell? ⟨gb, 1, none⟩ = some (.int .i64 0) := (blk_cell K3.out 1).trans rfl
  have hfz1 := blk_frozen K3.out 1
  have hcz2 : w3.cell? ⟨gb, 2, none⟩ = some (.int .i64 0) := (blk_cell K3.out 2).trans rfl
  have hfz2 := blk_frozen K3.out 2
  have hcz3 : w3.cell? ⟨gb, 3, none⟩ = some (.int .i64 0) := (blk_cell K3.out 3).trans rfl
  have hfz3 := blk_frozen K3.out 3
  have hcz4 : w3.cell? ⟨gb, 4, none⟩ = some (.int .i64 0) := (blk_cell K3.out 4).trans rfl
  have hfz4 := blk_frozen K3.out 4
  have hcz5 : w3.cell? ⟨gb, 5, none⟩ = some (.float .f64 0) := (blk_cell K3.out 5).trans rfl
  have hfz5 := blk_frozen K3.out 5
  have hcz6 : w3.cell? ⟨gb, 6, none⟩ = some (.int .i64 0) := (blk_cell K3.out 6).trans rfl
  have hfz6 := blk_frozen K3.out 6
  have hcz7 : w3.cell? ⟨gb, 7, none⟩ = some (.int .i64 0) := (blk_cell K3.out 7).trans rfl
  have hfz7 := blk_frozen K3.out 7
  go_wp2_with fail
  have B0 := blk_put (cs := #[.int .i64 0, .int .i64 0, .int .i64 0, .int .i64 0, .int .i64 0, .float .f64 0, .int .i64 0, .int .i64 0]) (cs' := #[.int .i64 0, .int .i64 0, .int .i64 0, .int .i64 0, .int .i64 0, .float .f64 0, .int .i64 0, .int .i64 0]) K3.out 0 (.int .i64 0) rfl
  have B1 := blk_put (cs := #[.int .i64 0, .int .i64 0, .int .i64 0, .int .i64 0, .int .i64 0, .float .f64 0, .int .i64 0, .int .i64 0]) (cs' := #[.int .i64 0, .int .i64 0, .int .i64 0, .int .i64 0, .int .i64 0, .float .f64 0, .int .i64 0, .int .i64 0]) B0 1 (.int .i64 0) rfl
  have B2 := blk_put (cs := #[.int .i64 0, .int .i64 0, .int .i64 0, .int .i64 0, .int .i64 0, .float .f64 0, .int .i64 0, .int .i64 0]) (cs' := #[.int .i64 0, .int .i64 0, .int .i64 0, .int .i64 0, .int .i64 0, .float .f64 0, .int .i64 0, .int .i64 0]) B1 2 (.int .i64 0) rfl
  have B3 := blk_put (cs := #[.int .i64 0, .int .i64 0, .int .i64 0, .int .i64 0, .int .i64 0, .float .f64 0, .int .i64 0, .int .i64 0]) (cs' := #[.int .i64 0, .int .i64 0, .int .i64 0, .int .i64 0, .int .i64 0, .float .f64 0, .int .i64 0, .int .i64 0]) B2 3 (.int .i64 0) rfl
  have B4 := blk_put (cs := #[.int .i64 0, .int .i64 0, .int .i64 0, .int .i64 0, .int .i64 0, .float .f64 0, .int .i64 0, .int .i64 0]) (cs' := #[.int .i64 0, .int .i64 0, .int .i64 0, .int .i64 0, .int .i64 0, .float .f64 0, .int .i64 0, .int .i64 0]) B3 4 (.int .i64 0) rfl
  have B5 := blk_put (cs := #[.int .i64 0, .int .i64 0, .int .i64 0, .int .i64 0, .int .i64 0, .float .f64 0, .int .i64 0, .int .i64 0]) (cs' := #[.int .i64 0, .int .i64 0, .int .i64 0, .int .i64 0, .int .i64 0, .float .f64 0, .int .i64 0, .int .i64 0]) B4 5 (.float .f64 0) rfl
  have B6 := blk_put (cs := #[.int .i64 0, .int .i64 0, .int .i64 0, .int .i64 0, .int .i64 0, .float .f64 0, .int .i64 0, .int .i64 0]) (cs' := #[.int .i64 0, .int .i64 0, .int .i64 0, .int .i64 0, .int .i64 0, .float .f64 0, .int .i64 0, .int .i64 0]) B5 6 (.int .i64 0) rfl
  have B7 := blk_put (cs := #[.int .i64 0, .int .i64 0, .int .i64 0, .int .i64 0, .int .i64 0, .float .f64 0, .int .i64 0, .int .i64 0]) (cs' := #[.int .i64 0, .int .i64 0, .int .i64 0, .int .i64 0, .int .i64 0, .float .f64 0, .int .i64 0, .int .i64 0]) B6 7 (.int .i64 0) rfl
  refine bodyPost_ret (results_ct rfl _ _ gb 37 #[.int .i64 0, .int .i64 0, .int .i64 0, .int .i64 0, .int .i64 0, .float .f64 0, .int .i64 0, .int .i64 0] (0, 0) _ rfl B7 Try.underlying37 rfl (by kernel_rfl)) rfl ⟨rfl, ?_⟩
  repeat (first | (with_reducible first | exact HBw3.out | refine below_set ?_ GE'.out) | exact HBw3.out)
end Go.Proofs.Ytomkhipfooafnaa.P

set_option linter.unusedVariables false
namespace Go.Proofs.Ytomkhipfooafnaa.P
open Go.RowKit Go.Proofs.YtomkhipfooafnaaW.PrintWords Go.Proofs.YtomkhipfooafnaaW.PrintLast Go.Proofs.YtomkhipfooafnaaW.PrintMore Go.Proofs.YtomkhipfooafnaaW.FM
theorem quiet_key (s : Bool) (t : Nat) : fkey (FloatKind.f64.encode (.nan s (FloatKind.f64.format.quiet t))) = none := by
  have e : FloatKind.f64.encode (.nan s (FloatKind.f64.format.quiet t)) = Ieee.double.word s (9218868437227405312 + (t ||| 2251799813685248) % 4503599627370496) := rfl
  rw [e]
  have q : 0 < (t ||| 2251799813685248) % 4503599627370496 := by
    have h1 : ((t ||| 2251799813685248) % 4503599627370496).testBit 51 = true := by
      have h2 : (4503599627370496 : Nat) = 2 ^ 52 := by decide
      have h3 : (2251799813685248 : Nat) = 2 ^ 51 := by decide
      rw [h2, h3, Nat.testBit_mod_two_pow, Nat.testBit_or, Nat.testBit_two_pow_self]
      simp
    apply Nat.pos_of_ne_zero
    intro h
    rw [h] at h1
    simp at h1
  have ql : (t ||| 2251799813685248) % 4503599627370496 < 4503599627370496 := Nat.mod_lt _ (by decide)
  generalize (t ||| 2251799813685248) % 4503599627370496 = f at *
  unfold fkey Ieee.Format.read Ieee.Format.word
  rw [b_sign, b_binade, b_inf, b_least]
  cases s
  · simp only [Bool.false_eq_true, if_false]
    have e2 : (9218868437227405312 + f) % 9223372036854775808 = 9218868437227405312 + f := by omega
    rw [e2, if_neg (by omega), if_neg (by omega), if_neg (by omega)]
    rfl
  · simp only [if_true]
    have e2 : (9223372036854775808 + (9218868437227405312 + f)) % 9223372036854775808 = 9218868437227405312 + f := by omega
    rw [e2, if_neg (by omega), if_neg (by omega), if_neg (by omega)]
    rfl
theorem snan_of {x : Nat} (h : wholeOk x = false) : ∃ s t, FloatKind.f64.decode x = .nan s t ∧ ¬ FloatKind.f64.format.quiet t = t := by
  unfold wholeOk at h
  cases hd : FloatKind.f64.decode x with
  | nan s t => rw [hd] at h; exact ⟨s, t, rfl, by simpa using h⟩
  | number a b c => rw [hd] at h; simp at h
  | infinity a => rw [hd] at h; simp at h
theorem run_floor_nan (x : Nat) (hx : wholeOk x = false) : ∃ g : World → Nat × World, (∀ w, (callFunc 37 #[.float .f64 x]).run Try.prog w = .ok (.value (.float .f64 (g w).1)) (g w).2) ∧ ∀ w, fkey (g w).1 = none ∧ Drawn0 w (g w).2 := by
  obtain ⟨s, t, hd, hq⟩ := snan_of hx
  have key : ∀ w : World, ∃ r : Nat × World, (callFunc 37 #[.float .f64 x]).run Try.prog w = .ok (.value (.float .f64 r.1)) r.2 ∧ fkey r.1 = none ∧ Drawn0 w r.2 := by
    intro w
    rw [run_callFunc_extern Try.func37 rfl rfl rfl (show Extern.find Try.f37 = some (Extern.MathFloor.toIntegral "math.archFloor" .down) from rfl)]
    have hk : fkey x = none := by unfold fkey; rw [show Ieee.double.read x = .nan s t from hd]; rfl
    have e : (Extern.MathFloor.toIntegral "math.archFloor" .down #[.float .f64 x]) = ((do
        let kept ← choose (.extern "math.Floor,Ceil,Trunc,RoundToEven.signallingNaN kept" 2)
        pure (.float .f64 (if kept == 1 then x else FloatKind.f64.encode (.nan s (FloatKind.f64.format.quiet t))))) : Sem Value) := by
      change ((match FloatKind.f64.decode x with
        | .nan s t => if FloatKind.f64.format.quiet t = t then pure (.float .f64 x) else do
            let kept ← choose (.extern "math.Floor,Ceil,Trunc,RoundToEven.signallingNaN kept" 2)
            pure (.float .f64 (if kept == 1 then x else FloatKind.f64.encode (.nan s (FloatKind.f64.format.quiet t))))
        | d => pure (.float .f64 (FloatKind.f64.encode (d.integral .down)))) : Sem Value) = _
      rw [hd]
      simp only [if_neg hq]
    rw [e]
    have fin : ∀ kept : Nat, fkey (if kept == 1 then x else FloatKind.f64.encode (.nan s (FloatKind.f64.format.quiet t))) = none := by
      intro kept
      split
      · exact hk
      · exact quiet_key s t
    simp only [Sem.run_bind, run_choose_drew]
    split
    · exact ⟨(if (0 : Nat) == 1 then x else FloatKind.f64.encode (.nan s (FloatKind.f64.format.quiet t)), w), rfl, fin 0, Drawn0.refl w⟩
    · exact ⟨(if (Question.cut (.extern "math.Floor,Ceil,Trunc,RoundToEven.signallingNaN kept" 2) (w.tape w.drawn (.extern "math.Floor,Ceil,Trunc,RoundToEven.signallingNaN kept" 2))) == 1 then x else FloatKind.f64.encode (.nan s (FloatKind.f64.format.quiet t)), w.drew), rfl, fin _, ⟨⟨1, rfl⟩⟩⟩
  exact ⟨fun w => (key w).choose, fun w => (key w).choose_spec.1, fun w => (key w).choose_spec.2⟩
set_option maxHeartbeats 4000000 in
theorem floor_nan (x : Nat) (hx : wholeOk x = false) (w : World) : Calls Try.prog 24 #[.float .f64 x] w fun e w' => (∃ b, fkey b = none ∧ e = .returned (.float .f64 b)) ∧ Drawn0 w w' := by
  obtain ⟨g, hg, hk⟩ := run_floor_nan x hx
  have HK := Aside0.mk hk
  clear hk hx
  go_enter Try.func24, Try.ntmps24
  go_wp2
  go_ret
  exact ⟨⟨_, (HK.out _).1, rfl⟩, (HK.out _).2⟩
set_option maxHeartbeats 8000000 in
set_option maxRecDepth 100000 in
theorem rsplit_nan (a0 : Nat) (hx : wholeOk a0 = false) (w : World) :
    Calls Try.prog 19 #[.float .f64 a0] w fun e w' => e = .returned (.tuple #[.agg #[.int .i64 0, .int .i64 0, .int .i64 0, .int .i64 0, .int .i64 0, .float .f64 0, .int .i64 0, .int .i64 0], .int .i64 110]) ∧ Below w.heap.size w w' := by
  have HX := Aside0.mk hx
  clear hx
  go_enter Try.func19, Try.ntmps19
  go_wp2_with fail
  obtain ⟨W0, hW0⟩ : ∃ W0, W0 = w.alloc (.cells #[.int .i64 0, .int .i64 0, .int .i64 0, .int .i64 0, .int .i64 0, .float .f64 0, .int .i64 0, .int .i64 0] 37) := ⟨_, rfl⟩
  have HBW0 := Aside0.mk (show Below w.heap.size w W0 from by rw [hW0]; exact (Below.refl _ _).alloc (Nat.le_refl _) _)
  have K0 := Aside0.mk (show W0.heap[w.heap.size]? = some (.cells #[.int .i64 0, .int .i64 0, .int .i64 0, .int .i64 0, .int .i64 0, .float .f64 0, .int .i64 0, .int .i64 0] 37) from by rw [hW0]; exact Array.getElem?_push_size)
  have GE := Aside0.mk (Nat.le_refl w.heap.size)
  rw [← hW0]
  clear hW0
  generalize hgb : w.heap.size = gb at K0 ⊢
  rw [hgb] at GE
  have GE' := Aside0.mk (show w.heap.size ≤ gb from by omega)
  clear GE
  refine (floor_nan a0 HX.out _).mono ?_
  rintro e w1 ⟨⟨fl, hk, rfl⟩, hb_⟩
  have hge : (FloatKind.f64.format.order fl 14054727237768577024 == some Ordering.gt || FloatKind.f64.format.order fl 14054727237768577024 == some Ordering.eq) = false := by rw [ord_ge, hk]
  clear hk
  have K1 := Aside0.mk (keep_blk hb_.below K0.out)
  have HBw1 := Aside0.mk (HBW0.out.trans (hb_.below.mono HBW0.out.size))
  clear K0 hb_
  have gz : gb < w1.heap.size := by obtain ⟨h, _⟩ := Array.getElem?_eq_some_iff.1 K1.out; exact h
  have hcz0 : w1.cell? ⟨gb, 0, none⟩ = some (.int .i64 0) := (blk_cell K1.out 0).trans rfl
  have hfz0 := blk_frozen K1.out 0
  have hcz1 : w1.cell? ⟨gb, 1, none⟩ = some (.int .i64 0) := (blk_cell K1.out 1).trans rfl
  have hfz1 := blk_frozen K1.out 1
  have hcz2 : w1.cell? ⟨gb, 2, none⟩ = some (.int .i64 0) := (blk_cell K1.out 2).trans rfl
  have hfz2 := blk_frozen K1.out 2
  have hcz3 : w1.cell? ⟨gb, 3, none⟩ = some (.int .i64 0) := (blk_cell K1.out 3).trans rfl
  have hfz3 := blk_frozen K1.out 3
  have hcz4 : w1.cell? ⟨gb, 4, none⟩ = some (.int .i64 0) := (blk_cell K1.out 4).trans rfl
  have hfz4 := blk_frozen K1.out 4
  have hcz5 : w1.cell? ⟨gb, 5, none⟩ = some (.float .f64 0) := (blk_cell K1.out 5).trans rfl
  have hfz5 := blk_frozen K1.out 5
  have hcz6 : w1.cell? ⟨gb, 6, none⟩ = some (.int .i64 0) := (blk_cell K1.out 6).trans rfl
  have hfz6 := blk_frozen K1.out 6
  have hcz7 : w1.cell? ⟨gb, 7, none⟩ = some (.int .i64 0) := (blk_cell K1.out 7).trans rfl
  have hfz7 := blk_frozen K1.out 7
  go_wp2_with fail
  have B0 := blk_put (cs := #[.int .i64 0, .int .i64 0, .int .i64 0, .int .i64 0, .int .i64 0, .float .f64 0, .int .i64 0, .int .i64 0]) (cs' := #[.int .i64 0, .int .i64 0, .int .i64 0, .int .i64 0, .int .i64 0, .float .f64 0, .int .i64 0, .int .i64 0]) K1.out 0 (.int .i64 0) rfl
  have B1 := blk_put (cs := #[.int .i64 0, .int .i64 0, .int .i64 0, .int .i64 0, .int .i64 0, .float .f64 0, .int .i64 0, .int .i64 0]) (cs' := #[.int .i64 0, .int .i64 0, .int .i64 0, .int .i64 0, .int .i64 0, .float .f64 0, .int .i64 0, .int .i64 0]) B0 1 (.int .i64 0) rfl
  have B2 := blk_put (cs := #[.int .i64 0, .int .i64 0, .int .i64 0, .int .i64 0, .int .i64 0, .float .f64 0, .int .i64 0, .int .i64 0]) (cs' := #[.int .i64 0, .int .i64 0, .int .i64 0, .int .i64 0, .int .i64 0, .float .f64 0, .int .i64 0, .int .i64 0]) B1 2 (.int .i64 0) rfl
  have B3 := blk_put (cs := #[.int .i64 0, .int .i64 0, .int .i64 0, .int .i64 0, .int .i64 0, .float .f64 0, .int .i64 0, .int .i64 0]) (cs' := #[.int .i64 0, .int .i64 0, .int .i64 0, .int .i64 0, .int .i64 0, .float .f64 0, .int .i64 0, .int .i64 0]) B2 3 (.int .i64 0) rfl
  have B4 := blk_put (cs := #[.int .i64 0, .int .i64 0, .int .i64 0, .int .i64 0, .int .i64 0, .float .f64 0, .int .i64 0, .int .i64 0]) (cs' := #[.int .i64 0, .int .i64 0, .int .i64 0, .int .i64 0, .int .i64 0, .float .f64 0, .int .i64 0, .int .i64 0]) B3 4 (.int .i64 0) rfl
  have B5 := blk_put (cs := #[.int .i64 0, .int .i64 0, .int .i64 0, .int .i64 0, .int .i64 0, .float .f64 0, .int .i64 0, .int .i64 0]) (cs' := #[.int .i64 0, .int .i64 0, .int .i64 0, .int .i64 0, .int .i64 0, .float .f64 0, .int .i64 0, .int .i64 0]) B4 5 (.float .f64 0) rfl
  have B6 := blk_put (cs := #[.int .i64 0, .int .i64 0, .int .i64 0, .int .i64 0, .int .i64 0, .float .f64 0, .int .i64 0, .int .i64 0]) (cs' := #[.int .i64 0, .int .i64 0, .int .i64 0, .int .i64 0, .int .i64 0, .float .f64 0, .int .i64 0, .int .i64 0]) B5 6 (.int .i64 0) rfl
  have B7 := blk_put (cs := #[.int .i64 0, .int .i64 0, .int .i64 0, .int .i64 0, .int .i64 0, .float .f64 0, .int .i64 0, .int .i64 0]) (cs' := #[.int .i64 0, .int .i64 0, .int .i64 0, .int .i64 0, .int .i64 0, .float .f64 0, .int .i64 0, .int .i64 0]) B6 7 (.int .i64 0) rfl
  refine bodyPost_ret (results_ct rfl _ _ gb 37 #[.int .i64 0, .int .i64 0, .int .i64 0, .int .i64 0, .int .i64 0, .float .f64 0, .int .i64 0, .int .i64 0] (0, 0) _ rfl B7 Try.underlying37 rfl (by kernel_rfl)) rfl ⟨rfl, ?_⟩
  repeat (first | (with_reducible first | exact HBw1.out | refine below_set ?_ GE'.out) | exact HBw1.out)
set_option maxHeartbeats 8000000 in
set_option maxRecDepth 100000 in
theorem split_nan (a0 : Nat) (hx : wholeOk a0 = false) (w : World) :
    Calls Try.prog 18 #[.float .f64 a0] w fun e w' => e = .returned (.tuple #[.agg #[.int .i64 0, .int .i64 0, .int .i64 0, .int .i64 0, .int .i64 0, .float .f64 0, .int .i64 0, .int .i64 0], .int .i64 110]) ∧ Below w.heap.size w w' := by
  have HX := Aside0.mk hx
  clear hx
  go_enter Try.func18, Try.ntmps18
  go_wp2_with fail
  obtain ⟨W0, hW0⟩ : ∃ W0, W0 = w.alloc (.cells #[.int .i64 0, .int .i64 0, .int .i64 0, .int .i64 0, .int .i64 0, .float .f64 0, .int .i64 0, .int .i64 0] 37) := ⟨_, rfl⟩
  have HBW0 := Aside0.mk (show Below w.heap.size w W0 from by rw [hW0]; exact (Below.refl _ _).alloc (Nat.le_refl _) _)
  have K0 := Aside0.mk (show W0.heap[w.heap.size]? = some (.cells #[.int .i64 0, .int .i64 0, .int .i64 0, .int .i64 0, .int .i64 0, .float .f64 0, .int .i64 0, .int .i64 0] 37) from by rw [hW0]; exact Array.getElem?_push_size)
  have GE := Aside0.mk (Nat.le_refl w.heap.size)
  rw [← hW0]
  clear hW0
  generalize hgb : w.heap.size = gb at K0 ⊢
  rw [hgb] at GE
  have GE' := Aside0.mk (show w.heap.size ≤ gb from by omega)
  clear GE
  refine (floor_nan a0 HX.out _).mono ?_
  rintro e w1 ⟨⟨fl, hk, rfl⟩, hb_⟩
  have HN := Aside0.mk (show math_IsNaN.f fl = some true from by rw [nan_eq, hk]; rfl)
  clear hk
  have K1 := Aside0.mk (keep_blk hb_.below K0.out)
  have HBw1 := Aside0.mk (HBW0.out.trans (hb_.below.mono HBW0.out.size))
  clear K0 hb_
  go_wp2_with fail
  refine (math_IsNaN.calls fl true _ HN.out).mono ?_
  rintro e w2 ⟨rfl, hb_⟩
  have K2 := Aside0.mk (keep_blk hb_.below K1.out)
  have HBw2 := Aside0.mk (HBw1.out.trans (hb_.below.mono HBw1.out.size))
  clear K1 hb_
  have gz : gb < w2.heap.size := by obtain ⟨h, _⟩ := Array.getElem?_eq_some_iff.1 K2.out; exact h
  have hcz0 : w2.cell? ⟨gb, 0, none⟩ = some (.int .i64 0) := (blk_cell K2.out 0).trans rfl
  have hfz0 := blk_frozen K2.out 0
  have hcz1 : w2.cell? ⟨gb, 1, none⟩ = some (.int .i64 0) := (blk_cell K2.out 1).trans rfl
  have hfz1 := blk_frozen K2.out 1
  have hcz2 : w2.cell? ⟨gb, 2, none⟩ = some (.int .i64 0) := (blk_cell K2.out 2).trans rfl
  have hfz2 := blk_frozen K2.out 2
  have hcz3 : w2.cell? ⟨gb, 3, none⟩ = some (.int .i64 0) := (blk_cell K2.out 3).trans rfl
  have hfz3 := blk_frozen K2.out 3
  have hcz4 : w2.cell? ⟨gb, 4, none⟩ = some (.int .i64 0) := (blk_cell K2.out 4).trans rfl
  have hfz4 := blk_frozen K2.out 4
  have hcz5 : w2.cell? ⟨gb, 5, none⟩ = some (.float .f64 0) := (blk_cell K2.out 5).trans rfl
  have hfz5 := blk_frozen K2.out 5
  have hcz6 : w2.cell? ⟨gb, 6, none⟩ = some (.int .i64 0) := (blk_cell K2.out 6).trans rfl
  have hfz6 := blk_frozen K2.out 6
  have hcz7 : w2.cell? ⟨gb, 7, none⟩ = some (.int .i64 0) := (blk_cell K2.out 7).trans rfl
  have hfz7 := blk_frozen K2.out 7
  go_wp2_with fail
  have B0 := blk_put (cs := #[.int .i64 0, .int .i64 0, .int .i64 0, .int .i64 0, .int .i64 0, .float .f64 0, .int .i64 0, .int .i64 0]) (cs' := #[.int .i64 0, .int .i64 0, .int .i64 0, .int .i64 0, .int .i64 0, .float .f64 0, .int .i64 0, .int .i64 0]) K2.out 0 (.int .i64 0) rfl
  have B1 := blk_put (cs := #[.int .i64 0, .int .i64 0, .int .i64 0, .int .i64 0, .int .i64 0, .float .f64 0, .int .i64 0, .int .i64 0]) (cs' := #[.int .i64 0, .int .i64 0, .int .i64 0, .int .i64 0, .int .i64 0, .float .f64 0, .int .i64 0, .int .i64 0]) B0 1 (.int .i64 0) rfl
  have B2 := blk_put (cs := #[.int .i64 0, .int .i64 0, .int .i64 0, .int .i64 0, .int .i64 0, .float .f64 0, .int .i64 0, .int .i64 0]) (cs' := #[.int .i64 0, .int .i64 0, .int .i64 0, .int .i64 0, .int .i64 0, .float .f64 0, .int .i64 0, .int .i64 0]) B1 2 (.int .i64 0) rfl
  have B3 := blk_put (cs := #[.int .i64 0, .int .i64 0, .int .i64 0, .int .i64 0, .int .i64 0, .float .f64 0, .int .i64 0, .int .i64 0]) (cs' := #[.int .i64 0, .int .i64 0, .int .i64 0, .int .i64 0, .int .i64 0, .float .f64 0, .int .i64 0, .int .i64 0]) B2 3 (.int .i64 0) rfl
  have B4 := blk_put (cs := #[.int .i64 0, .int .i64 0, .int .i64 0, .int .i64 0, .int .i64 0, .float .f64 0, .int .i64 0, .int .i64 0]) (cs' := #[.int .i64 0, .int .i64 0, .int .i64 0, .int .i64 0, .int .i64 0, .float .f64 0, .int .i64 0, .int .i64 0]) B3 4 (.int .i64 0) rfl
  have B5 := blk_put (cs := #[.int .i64 0, .int .i64 0, .int .i64 0, .int .i64 0, .int .i64 0, .float .f64 0, .int .i64 0, .int .i64 0]) (cs' := #[.int .i64 0, .int .i64 0, .int .i64 0, .int .i64 0, .int .i64 0, .float .f64 0, .int .i64 0, .int .i64 0]) B4 5 (.float .f64 0) rfl
  have B6 := blk_put (cs := #[.int .i64 0, .int .i64 0, .int .i64 0, .int .i64 0, .int .i64 0, .float .f64 0, .int .i64 0, .int .i64 0]) (cs' := #[.int .i64 0, .int .i64 0, .int .i64 0, .int .i64 0, .int .i64 0, .float .f64 0, .int .i64 0, .int .i64 0]) B5 6 (.int .i64 0) rfl
  have B7 := blk_put (cs := #[.int .i64 0, .int .i64 0, .int .i64 0, .int .i64 0, .int .i64 0, .float .f64 0, .int .i64 0, .int .i64 0]) (cs' := #[.int .i64 0, .int .i64 0, .int .i64 0, .int .i64 0, .int .i64 0, .float .f64 0, .int .i64 0, .int .i64 0]) B6 7 (.int .i64 0) rfl
  refine bodyPost_ret (results_ct rfl _ _ gb 37 #[.int .i64 0, .int .i64 0, .int .i64 0, .int .i64 0, .int .i64 0, .float .f64 0, .int .i64 0, .int .i64 0] (0, 0) _ rfl B7 Try.underlying37 rfl (by kernel_rfl)) rfl ⟨rfl, ?_⟩
  repeat (first | (with_reducible first | exact HBw2.out | refine below_set ?_ GE'.out) | exact HBw2.out)
end Go.Proofs.Ytomkhipfooafnaa.P

set_option linter.unusedVariables false
namespace Go.Proofs.Ytomkhipfooafnaa.P
open Go.RowKit Go.Proofs.YtomkhipfooafnaaW.PrintWords Go.Proofs.YtomkhipfooafnaaW.PrintLast Go.Proofs.YtomkhipfooafnaaW.PrintMore Go.Proofs.YtomkhipfooafnaaW.FM
attribute [local go_sem high] eqA37
set_option maxHeartbeats 8000000 in
set_option maxRecDepth 100000 in
theorem splits_walk (a0 : Nat) (r1 r2 r3 r4 r5 : Int) (r6 : Nat) (r7 r8 e9 : Int)
    (hs : ∀ w, Calls Try.prog 18 #[.float .f64 a0] w fun e w' => e = .returned (.tuple #[.agg #[.int .i64 r1, .int .i64 r2, .int .i64 r3, .int .i64 r4, .int .i64 r5, .float .f64 r6, .int .i64 r7, .int .i64 r8], .int .i64 e9]) ∧ Below w.heap.size w w')
    (hr : ∀ w, Calls Try.prog 19 #[.float .f64 a0] w fun e w' => e = .returned (.tuple #[.agg #[.int .i64 r1, .int .i64 r2, .int .i64 r3, .int .i64 r4, .int .i64 r5, .float .f64 r6, .int .i64 r7, .int .i64 r8], .int .i64 e9]) ∧ Below w.heap.size w w')
    (hn : (FloatKind.f64.format.order r6 r6 == some Ordering.eq) = true) (w : World) :
    Calls Try.prog 4 #[.float .f64 a0] w fun e w' => e = .returned (.bool true) ∧ Below w.heap.size w w' := by
  have HS := Aside0.mk hs
  have HR := Aside0.mk hr
  clear hs hr
  go_enter Try.func4, Try.ntmps4
  go_wp2_with fail
  refine (HS.out _).mono ?_
  rintro e w1 ⟨rfl, hb_⟩
  have HBw1 := Aside0.mk (show Below w.heap.size w w1 from hb_)
  clear hb_
  go_wp2_with fail
  obtain ⟨W1, hW1⟩ : ∃ W1, W1 = w1.alloc (.cells #[.int .i64 r1, .int .i64 r2, .int .i64 r3, .int .i64 r4, .int .i64 r5, .float .f64 r6, .int .i64 r7, .int .i64 r8] 37) := ⟨_, rfl⟩
  have HBW1 := Aside0.mk (show Below w.heap.size w W1 from by rw [hW1]; exact HBw1.out.alloc HBw1.out.size _)
  have K0 := Aside0.mk (show W1.heap[w1.heap.size]? = some (.cells #[.int .i64 r1, .int .i64 r2, .int .i64 r3, .int .i64 r4, .int .i64 r5, .float .f64 r6, .int .i64 r7, .int .i64 r8] 37) from by rw [hW1]; exact Array.getElem?_push_size)
  rw [← hW1]
  clear hW1
  generalize w1.heap.size = gb at *
  refine (HR.out _).mono ?_
  rintro e w2 ⟨rfl, hb_⟩
  have HBw2 := Aside0.mk (HBW1.out.trans (hb_.mono HBW1.out.size))
  have K1 := Aside0.mk (keep_blk hb_ K0.out)
  clear hb_ K0
  have gz : gb < w2.heap.size := by obtain ⟨h, _⟩ := Array.getElem?_eq_some_iff.1 K1.out; exact h
  have hc0 : w2.cell? ⟨gb, 0, none⟩ = some (.int .i64 r1) := (blk_cell K1.out 0).trans rfl
  have hc1 : w2.cell? ⟨gb, 1, none⟩ = some (.int .i64 r2) := (blk_cell K1.out 1).trans rfl
  have hc2 : w2.cell? ⟨gb, 2, none⟩ = some (.int .i64 r3) := (blk_cell K1.out 2).trans rfl
  have hc3 : w2.cell? ⟨gb, 3, none⟩ = some (.int .i64 r4) := (blk_cell K1.out 3).trans rfl
  have hc4 : w2.cell? ⟨gb, 4, none⟩ = some (.int .i64 r5) := (blk_cell K1.out 4).trans rfl
  have hc5 : w2.cell? ⟨gb, 5, none⟩ = some (.float .f64 r6) := (blk_cell K1.out 5).trans rfl
  have hc6 : w2.cell? ⟨gb, 6, none⟩ = some (.int .i64 r7) := (blk_cell K1.out 6).trans rfl
  have hc7 : w2.cell? ⟨gb, 7, none⟩ = some (.int .i64 r8) := (blk_cell K1.out 7).trans rfl
  go_wp2_with fail
  refine (colanderlaw11_heads.calls true _ rfl).mono ?_
  rintro e w3 ⟨rfl, hb_⟩
  have HBw3 := Aside0.mk ((HBw2.out.alloc HBw2.out.size _).trans (hb_.mono (HBw2.out.alloc HBw2.out.size _).size))
  clear hb_
  go_wp2_with fail
  go_ret
  exact ⟨rfl, HBw3.out⟩
end Go.Proofs.Ytomkhipfooafnaa.P

set_option linter.unusedVariables false
set_option exponentiation.threshold 3000
namespace Go.Proofs.Ytomkhipfooafnaa.P
open Go.RowKit Go.Proofs.YtomkhipfooafnaaW.PrintWords Go.Proofs.YtomkhipfooafnaaW.PrintLast Go.Proofs.YtomkhipfooafnaaW.PrintMore Go.Proofs.YtomkhipfooafnaaW.FM Go.Proofs.Ytomkhipfooafnaa.Cal Ieee
/-- a word up to infinity is no NaN -/
theorem word_key (s : Bool) (rung : Nat) (h : rung ≤ 9218868437227405312) : ∃ v, fkey (Ieee.double.word s rung) = some v := by
  unfold fkey Format.read Format.word
  rw [b_sign, b_binade, b_inf, b_least]
  have e2 : (if s then 9223372036854775808 + rung else rung) % 9223372036854775808 = rung := by cases s <;> simp <;> omega
  rw [e2]
  generalize (if s then 9223372036854775808 + rung else rung) / 9223372036854775808 % 2 = z
  generalize (z == 1) = neg
  dsimp only
  by_cases h1 : rung < 4503599627370496
  · rw [if_pos h1]
    exact ⟨_, rfl⟩
  · rw [if_neg h1]
    by_cases h2 : rung < 9218868437227405312
    · rw [if_pos h2]
      exact ⟨_, rfl⟩
    · rw [if_neg h2, if_pos (by omega)]
      exact ⟨_, rfl⟩
theorem key_number (s : Bool) (m : Nat) (e : Int) : key (.number s m e) = some (Go.Proofs.YtomkhipfooafnaaW.FM.num s m e) := rfl
theorem key_inf (s : Bool) : key (.infinity s) = some (if s then -INF else INF) := rfl
theorem write_key (d : Datum) (h : d.isNaN = false) : ∃ v, fkey (Ieee.double.write d) = some v := by
  cases d with
  | nan a b => simp [Datum.isNaN] at h
  | infinity s => exact word_key s _ (by rw [b_inf]; exact Nat.le_refl _)
  | number s m e =>
    show ∃ v, fkey (Ieee.double.nearest s m e) = some v
    unfold Format.nearest
    split
    · exact word_key s 0 (by omega)
    · dsimp only
      rw [b_inf]
      exact word_key s _ (Nat.min_le_right ..)
theorem key_nan {x : Nat} {v : Int} (h : fkey x = some v) : (Ieee.double.read x).isNaN = false := by
  unfold fkey at h
  cases hd : Ieee.double.read x with
  | nan a b => rw [hd] at h; simp [key] at h
  | infinity s => rfl
  | number s m e => rfl
theorem ord_self {x : Nat} {v : Int} (h : fkey x = some v) : (FloatKind.f64.format.order x x == some Ordering.eq) = true := by
  rw [ord_eqq, h]
  simp
/-- a whole number from 2^52 on stays at least that -/
theorem big_write (s : Bool) (N : Nat) (h : 4503599627370496 ≤ N) : ∃ v, fkey (Ieee.double.write (.number s N 0)) = some v ∧ (v ≤ -4503599627370496 * TOP ∨ 4503599627370496 * TOP ≤ v) := by
  have tp := top_pos
  have hI : 4503599627370496 * TOP ≤ INF := by unfold TOP INF; decide +kernel
  show ∃ v, fkey (Ieee.double.nearest s N 0) = some v ∧ _
  unfold Format.nearest
  rw [if_neg (by omega), b_least, b_binade, b_inf]
  have hf : (Ieee.double.fractionBits : Int) = 52 := rfl
  have hlog : 52 ≤ N.log2 := (Nat.le_log2 (by omega)).2 (by omega)
  have hlast : max ((0 : Int) + (N.log2 : Int) - (Ieee.double.fractionBits : Int)) (-1074) = (N.log2 : Int) - 52 := by rw [hf]; omega
  simp only [hlast]
  have e1 : ((0 : Int) - ((N.log2 : Int) - 52)).toNat = 0 := by omega
  have e2 : ((N.log2 : Int) - 52 - 0).toNat = N.log2 - 52 := by omega
  have e3 : ((N.log2 : Int) - 52 - -1074).toNat = N.log2 + 1022 := by omega
  rw [e1, e2, e3, Nat.shiftLeft_zero]
  have hk : 4503599627370496 ≤ Toward.even.cut s N (N.log2 - 52) := by
    unfold Toward.cut
    have g : 1 <<< min (N.log2 - 52) (N.log2 + 2) = 2 ^ (N.log2 - 52) := by rw [Nat.min_eq_left (by omega), Nat.shiftLeft_eq, Nat.one_mul]
    simp only [g]
    have lo : 2 ^ N.log2 ≤ N := Nat.log2_self_le (by omega)
    have q : 4503599627370496 ≤ N / 2 ^ (N.log2 - 52) := by
      rw [Nat.le_div_iff_mul_le (Nat.two_pow_pos _)]
      have : 4503599627370496 * 2 ^ (N.log2 - 52) = 2 ^ N.log2 := by
        have h2 : (4503599627370496 : Nat) = 2 ^ 52 := by decide
        rw [h2, ← Nat.pow_add]
        congr 1
        omega
      omega
    omega
  generalize Toward.even.cut s N (N.log2 - 52) = kept at *
  generalize N.log2 = l at *
  by_cases hm : (l + 1022) * 4503599627370496 + kept < 9218868437227405312
  · obtain ⟨R, hr⟩ : ∃ R, (l + 1022) * 4503599627370496 + kept = R := ⟨_, rfl⟩
    rw [hr] at hm
    rw [hr, Nat.min_eq_left (by omega)]
    unfold fkey
    rw [read_word s _ (by omega) hm, key_number]
    refine ⟨_, rfl, ?_⟩
    have hdiv : 1075 ≤ R / 4503599627370496 := by omega
    have hpl : (-1074 + ((R / 4503599627370496 - 1 : Nat) : Int) + 1074).toNat = R / 4503599627370496 - 1 := by omega
    unfold Go.Proofs.YtomkhipfooafnaaW.FM.num
    rw [hpl]
    have hp : 2 ^ 1074 ≤ 2 ^ (R / 4503599627370496 - 1) := Nat.pow_le_pow_right (by omega) (by omega)
    have hmul : 4503599627370496 * 2 ^ 1074 ≤ (4503599627370496 + R % 4503599627370496) * 2 ^ (R / 4503599627370496 - 1) := Nat.mul_le_mul (by omega) hp
    rw [← top_nat]
    generalize (4503599627370496 + R % 4503599627370496) * 2 ^ (R / 4503599627370496 - 1) = Q at *
    generalize (2 ^ 1074 : Nat) = T at *
    unfold sgn
    cases s
    · right; simp only [Bool.false_eq_true, if_false]; omega
    · left; simp only [if_true]; omega
  · rw [Nat.min_eq_right (by omega)]
    have hw : Ieee.double.read (Ieee.double.word s 9218868437227405312) = .infinity s := by cases s <;> decide +kernel
    unfold fkey
    rw [hw, key_inf]
    refine ⟨_, rfl, ?_⟩
    generalize INF = I at *
    cases s
    · right; simp only [Bool.false_eq_true, if_false]; omega
    · left; simp only [if_true]; omega
/-- what floor gives of a word: a NaN; something too great; or a whole number -/
theorem floor_cases (x : Nat) (hx : wholeOk x = true) : math_Floor.f x = some (wholeV .down x) ∧
    (fkey (wholeV .down x) = none ∨ (∃ v, fkey (wholeV .down x) = some v ∧ (v ≤ -4503599627370496 * TOP ∨ 4503599627370496 * TOP ≤ v)) ∨
     (∃ v, fkey x = some v ∧ -4503599627370496 * TOP ≤ v ∧ v ≤ 4503599627370496 * TOP)) := by
  refine ⟨by unfold math_Floor.f; rw [if_pos hx], ?_⟩
  have tp := top_pos
  have hI : 4503599627370496 * TOP ≤ INF := by unfold TOP INF; decide +kernel
  cases hr : Ieee.double.read x with
  | nan a b =>
    left
    have : wholeV .down x = x := by unfold wholeV; rw [dec_eq, hr]
    rw [this]
    unfold fkey
    rw [hr]
    rfl
  | infinity s =>
    right; left
    have : wholeV .down x = Ieee.double.write (.infinity s) := by unfold wholeV; rw [dec_eq, hr]; rfl
    rw [this]
    have hw : Ieee.double.read (Ieee.double.write (.infinity s)) = .infinity s := by cases s <;> decide +kernel
    unfold fkey
    rw [hw, key_inf]
    refine ⟨_, rfl, ?_⟩
    generalize INF = I at *
    cases s
    · right; simp only [Bool.false_eq_true, if_false]; omega
    · left; simp only [if_true]; omega
  | number s m e =>
    right
    by_cases hb : -4503599627370496 * TOP ≤ Go.Proofs.YtomkhipfooafnaaW.FM.num s m e ∧ Go.Proofs.YtomkhipfooafnaaW.FM.num s m e ≤ 4503599627370496 * TOP
    · right
      exact ⟨_, by unfold fkey; rw [hr]; rfl, hb.1, hb.2⟩
    · left
      obtain ⟨n, hw, l0, l1⟩ := floor_spec hr
      have hn : 4503599627370496 ≤ n := by
        by_cases hn : 4503599627370496 ≤ n
        · exact hn
        · exfalso
          apply hb
          have a : -4503599627370496 ≤ sgn s n := by unfold sgn; cases s <;> simp <;> omega
          have b : sgn s n + 1 ≤ 4503599627370496 := by unfold sgn; cases s <;> simp <;> omega
          have a' : -4503599627370496 * TOP ≤ sgn s n * TOP := Int.mul_le_mul_of_nonneg_right a (by omega)
          have b' : (sgn s n + 1) * TOP ≤ 4503599627370496 * TOP := Int.mul_le_mul_of_nonneg_right b (by omega)
          omega
      rw [hw]
      exact big_write s n hn
theorem tril : fkey 4786511204640096256 = some (1000000000000 * TOP) := by
  have h : Ieee.double.write (.number false 1000000000000 0) = 4786511204640096256 := by decide +kernel
  rw [← h, int_key _ _ (by decide)]
  rfl
theorem quad_hi : fkey 4831355200913801216 = some (1000000000000000 * TOP) := by
  have h : Ieee.double.write (.number false 1000000000000000 0) = 4831355200913801216 := by decide +kernel
  rw [← h, int_key _ _ (by decide)]
  rfl
theorem quad_lo : fkey 14054727237768577024 = some (-1000000000000000 * TOP) := by
  have h : Ieee.double.write (.number true 1000000000000000 0) = 14054727237768577024 := by decide +kernel
  rw [← h, int_key _ _ (by decide)]
  rfl
theorem whole_lt (x : Nat) (hx : x < 18446744073709551616) : wholeV .down x < 18446744073709551616 := by
  unfold wholeV
  split
  · exact hx
  · exact Ieee.double.write_lt _
theorem fok_of {op : BinOp} {x y : Nat} {d : Datum} (h : floatBits op .f64 x y = some (Ieee.double.write d)) : fok op x y = true ∧ fval op x y = Ieee.double.write d := by
  unfold fok fval
  rw [h]
  exact ⟨rfl, rfl⟩
/-- a difference of two numbers, and a sum of numbers: they are there, and no NaN -/
theorem sub_ok (x y : Nat) (hx : ∃ s m e, Ieee.double.read x = .number s m e) (hy : ∃ s m e, Ieee.double.read y = .number s m e) : fok .sub x y = true ∧ ∃ s m e, fval .sub x y = Ieee.double.write (.number s m e) := by
  obtain ⟨s, m, e, hx⟩ := hx
  obtain ⟨t, n, j, hy⟩ := hy
  have : ∃ s' m' e', floatBits .sub .f64 x y = some (Ieee.double.write (.number s' m' e')) := by
    have g : ∃ s' m' e', (Datum.number s m e).sum (Datum.number t n j).opposite = some (.number s' m' e') := ⟨_, _, _, rfl⟩
    obtain ⟨s', m', e', g⟩ := g
    refine ⟨s', m', e', ?_⟩
    show ((Ieee.double.read x).sum (Ieee.double.read y).opposite).map Ieee.double.write = _
    rw [hx, hy, g]
    rfl
  obtain ⟨s', m', e', h⟩ := this
  exact ⟨(fok_of h).1, s', m', e', (fok_of h).2⟩
theorem add_ok (x y : Nat) (hx : ∃ s m e, Ieee.double.read x = .number s m e) (hy : (Ieee.double.read y).isNaN = false) : fok .add x y = true ∧ ∃ v, fkey (fval .add x y) = some v := by
  obtain ⟨s, m, e, hx⟩ := hx
  have : ∃ d : Datum, d.isNaN = false ∧ floatBits .add .f64 x y = some (Ieee.double.write d) := by
    show ∃ d : Datum, d.isNaN = false ∧ ((Ieee.double.read x).sum (Ieee.double.read y)).map Ieee.double.write = _
    rw [hx]
    cases hd : Ieee.double.read y with
    | nan a b => rw [hd] at hy; simp [Datum.isNaN] at hy
    | infinity t => exact ⟨_, rfl, rfl⟩
    | number t n j => exact ⟨_, rfl, rfl⟩
  obtain ⟨d, hd, h⟩ := this
  exact ⟨(fok_of h).1, by rw [(fok_of h).2]; exact write_key d hd⟩
theorem int_read (s : Bool) (m : Nat) (h1 : m < 9007199254740992) : ∃ s' m' e', Ieee.double.read (Ieee.double.write (.number s m 0)) = .number s' m' e' := by
  by_cases h0 : m = 0
  · subst h0; exact ⟨_, _, _, write_zero s⟩
  · obtain ⟨k, l, _, _, _, hr⟩ := write_int s m (by omega) h1
    exact ⟨_, _, _, hr⟩
theorem ofInt_eq (n : Int) : floatOfInt .f64 n = Ieee.double.write (.number (decide (n < 0)) n.natAbs 0) := rfl
theorem num_read {x : Nat} {v c : Int} (hv : fkey x = some v) (h0 : -c * TOP ≤ v) (h1 : v ≤ c * TOP) (hc0 : 0 ≤ c) (hc : c < 9007199254740992) : ∃ s m e, Ieee.double.read x = .number s m e := by
  have tp := top_pos
  unfold fkey at hv
  cases hd : Ieee.double.read x with
  | nan a b => rw [hd] at hv; simp [key] at hv
  | number s m e => exact ⟨_, _, _, rfl⟩
  | infinity s =>
    exfalso
    rw [hd] at hv
    simp only [key, Option.some.injEq] at hv
    have a : c * TOP ≤ 9007199254740992 * TOP := Int.mul_le_mul_of_nonneg_right (by omega) (by omega)
    have b : 9007199254740992 * TOP < INF := by unfold TOP INF; decide +kernel
    rw [Int.neg_mul] at h0
    cases s
    · simp only [Bool.false_eq_true, if_false] at hv; omega
    · simp only [if_true] at hv; omega
def zeroT (a : Int × Int × Int × Int × Int × Nat × Int × Int × Int) : Prop := a = (0, 0, 0, 0, 0, 0, 0, 0, 110)
theorem split_out (k : Nat) (a0 fl : Nat) : calendar_Split.j0 (k + 1) a0 fl true = some (0, 0, 0, 0, 0, 0, 0, 0, 110) := by rw [calendar_Split.j0, if_pos rfl]
/-- the fields that Split answers within the years that there are -/
def splitF (a0 : Nat) : Int × Int × Int × Int × Int × Nat × Int × Int × Int :=
  let s := secOf a0
  let n := s / 86400
  (dateY n, dateM n, dateD n, s % 86400 / 3600, s % 86400 / 60 % 60, fval .add (floatOfInt .f64 (s % 86400 % 60)) (fval .sub a0 (wholeV .down a0)), (n + 4) % 7, n - begin_ (dateY n) 0, 0)
theorem both (a0 : Nat) (hw : a0 < 18446744073709551616) (hx : wholeOk a0 = true) :
    (calendar_Split.f 500 a0 = some (0, 0, 0, 0, 0, 0, 0, 0, 110) ∧ (∀ w, Calls Try.prog 19 #[.float .f64 a0] w fun e w' => e = .returned (.tuple #[.agg #[.int .i64 0, .int .i64 0, .int .i64 0, .int .i64 0, .int .i64 0, .float .f64 0, .int .i64 0, .int .i64 0], .int .i64 110]) ∧ Below w.heap.size w w')) ∨
    (∃ r1 r2 r3 r4 r5 r6 r7 r8, calendar_Split.f 500 a0 = some (r1, r2, r3, r4, r5, r6, r7, r8, 0) ∧ (FloatKind.f64.format.order r6 r6 == some Ordering.eq) = true ∧ (r1, r2, r3, r4, r5, r6, r7, r8, (0 : Int)) = splitF a0 ∧ -4371587 ≤ secOf a0 / 86400 ∧ secOf a0 / 86400 ≤ 2932896 ∧
      (∃ v, fkey a0 = some v ∧ -4503599627370496 * TOP ≤ v ∧ v ≤ 4503599627370496 * TOP) ∧
      (∀ w, Calls Try.prog 19 #[.float .f64 a0] w fun e w' => e = .returned (.tuple #[.agg #[.int .i64 r1, .int .i64 r2, .int .i64 r3, .int .i64 r4, .int .i64 r5, .float .f64 r6, .int .i64 r7, .int .i64 r8], .int .i64 0]) ∧ Below w.heap.size w w')) := by
  obtain ⟨hF, hc⟩ := floor_cases a0 hx
  have tp := top_pos
  have hwl := whole_lt a0 hw
  have Abs : ∀ fl, math_Abs.f fl = some (absB fl) := fun _ => rfl
  -- the code's answer where the floor is refused
  have refuse : (fkey (wholeV .down a0) = none ∨ ∃ v, fkey (wholeV .down a0) = some v ∧ ¬ (-1000000000000 * TOP ≤ v ∧ v ≤ 1000000000000 * TOP)) → calendar_Split.f 500 a0 = some (0, 0, 0, 0, 0, 0, 0, 0, 110) := by
    intro h
    unfold calendar_Split.f
    rw [hF]
    simp only [Option.bind_some, nan_eq]
    rcases h with h | ⟨v, h, hb⟩
    · rw [h, if_pos (show (none : Option Int).isNone = true from rfl)]
      exact split_out 499 _ _
    · rw [h, if_neg (by simp), Abs]
      simp only [Option.bind_some]
      rw [abs_gt _ _ hwl 1000000000000 v (by omega) tril h, decide_eq_true hb]
      exact split_out 499 _ _
  -- the reference's answer where it refuses
  have rlo : (match fkey (wholeV .down a0) with | some v => ¬ (-1000000000000000 * TOP ≤ v) | none => True) → ∀ w, Calls Try.prog 19 #[.float .f64 a0] w fun e w' => e = .returned (.tuple #[.agg #[.int .i64 0, .int .i64 0, .int .i64 0, .int .i64 0, .int .i64 0, .float .f64 0, .int .i64 0, .int .i64 0], .int .i64 110]) ∧ Below w.heap.size w w' := by
    intro h w
    refine rsplit_lo 500 a0 _ hF ?_ w
    rw [ord_ge, quad_lo]
    cases hk : fkey (wholeV .down a0) with
    | none => rfl
    | some v => rw [hk] at h; simpa using h
  have rhi : (∃ v, fkey (wholeV .down a0) = some v ∧ -1000000000000000 * TOP ≤ v ∧ ¬ v ≤ 1000000000000000 * TOP) → ∀ w, Calls Try.prog 19 #[.float .f64 a0] w fun e w' => e = .returned (.tuple #[.agg #[.int .i64 0, .int .i64 0, .int .i64 0, .int .i64 0, .int .i64 0, .float .f64 0, .int .i64 0, .int .i64 0], .int .i64 110]) ∧ Below w.heap.size w w' := by
    rintro ⟨v, hk, h1, h2⟩ w
    refine rsplit_hi 500 a0 _ hF ?_ ?_ w
    · rw [ord_ge, quad_lo, hk]; simpa using h1
    · rw [ord_le, quad_hi, hk]; simpa using h2
  have m1 : 1000000000000 * TOP ≤ 4503599627370496 * TOP := Int.mul_le_mul_of_nonneg_right (by omega) (by omega)
  have m2 : 1000000000000000 * TOP < 4503599627370496 * TOP := Int.mul_lt_mul_of_pos_right (by omega) tp
  rcases hc with hc | ⟨v, hv, hb⟩ | ⟨v, hv, h0, h1⟩
  · left
    exact ⟨refuse (Or.inl hc), rlo (by rw [hc]; trivial)⟩
  · left
    refine ⟨refuse (Or.inr ⟨v, hv, ?_⟩), ?_⟩
    · intro ⟨a, b⟩
      rcases hb with hb | hb
      · have : 1000000000000 * TOP < 4503599627370496 * TOP := Int.mul_lt_mul_of_pos_right (by omega) tp
        omega
      · have : 1000000000000 * TOP < 4503599627370496 * TOP := Int.mul_lt_mul_of_pos_right (by omega) tp
        omega
    · rcases hb with hb | hb
      · exact rlo (by rw [hv]; intro h; omega)
      · exact rhi ⟨v, hv, by omega, by omega⟩
  · obtain ⟨_, q2, q3, q4, q5, q6, q7, s, c, q8, q9, q10⟩ := floor_ok 4503599627370496 (by omega) (by omega) a0 v hv h0 h1
    have hs : f2i .i64 (wholeV .down a0) = secOf a0 := rfl
    have cmp : ∀ (c : Int), (c * TOP ≤ secOf a0 * TOP ↔ c ≤ secOf a0) ∧ (secOf a0 * TOP ≤ c * TOP ↔ secOf a0 ≤ c) := fun c =>
      ⟨⟨fun h => Int.le_of_mul_le_mul_right h tp, fun h => Int.mul_le_mul_of_nonneg_right h (by omega)⟩, ⟨fun h => Int.le_of_mul_le_mul_right h tp, fun h => Int.mul_le_mul_of_nonneg_right h (by omega)⟩⟩
    by_cases hin : -4371587 ≤ secOf a0 / 86400 ∧ secOf a0 / 86400 ≤ 2932896
    · right
      have hdate : dateAll (secOf a0 / 86400) = (dateY (secOf a0 / 86400), dateM (secOf a0 / 86400), dateD (secOf a0 / 86400), 0) := by unfold dateAll; rw [if_neg (by omega)]
      have hy := dateY_bd _ hin.1 hin.2
      obtain ⟨u1, s', m', e', u2⟩ := sub_ok a0 (wholeV .down a0) (num_read hv h0 h1 (by omega) (by omega)) (by rw [q8]; exact int_read s c q9)
      have hr60 : Int.tmod (secOf a0 % 86400) 60 = secOf a0 % 86400 % 60 := Int.tmod_eq_emod_of_nonneg (by omega)
      obtain ⟨a1, v6, a2⟩ := add_ok (floatOfInt .f64 (secOf a0 % 86400 % 60)) (fval .sub a0 (wholeV .down a0)) (by rw [ofInt_eq]; exact int_read _ _ (by omega)) (by
        rw [u2]
        obtain ⟨v', hv'⟩ := write_key (.number s' m' e') rfl
        exact key_nan hv')
      have t3600 : wrap64 (Int.tdiv (secOf a0 % 86400) 3600) = secOf a0 % 86400 / 3600 := by rw [Int.tdiv_eq_ediv_of_nonneg (by omega), w64 (by omega) (by omega)]
      have t60 : Int.tmod (wrap64 (Int.tdiv (secOf a0 % 86400) 60)) 60 = secOf a0 % 86400 / 60 % 60 := by rw [Int.tdiv_eq_ediv_of_nonneg (by omega), w64 (by omega) (by omega), Int.tmod_eq_emod_of_nonneg (by omega)]
      have bb := begin_bd (dateY (secOf a0 / 86400)) 0 (by omega) (by omega) (by omega) (by omega)
      have hyd : wrap64 (secOf a0 / 86400 - begin_ (dateY (secOf a0 / 86400)) 0) = secOf a0 / 86400 - begin_ (dateY (secOf a0 / 86400)) 0 := w64 (by omega) (by omega)
      refine ⟨_, _, _, _, _, _, _, _, ?_, ?_, rfl, hin.1, hin.2, ⟨v, hv, h0, h1⟩, ?_⟩
      · unfold calendar_Split.f
        rw [hF]
        simp only [Option.bind_some, nan_eq, q7]
        rw [if_neg (by simp), Abs]
        simp only [Option.bind_some]
        have hab : (FloatKind.f64.format.order (absB (wholeV .down a0)) 4786511204640096256 == some Ordering.gt) = false := by
          rw [abs_gt _ _ hwl 1000000000000 _ (by omega) tril q7]
          simp only [(cmp (-1000000000000)).1, (cmp 1000000000000).2, decide_eq_false_iff_not, Decidable.not_not]
          omega
        rw [hab, show (500 : Nat) = 499 + 1 from rfl, calendar_Split.j0, if_neg (by decide), if_pos q2, hs, divide_eq _ _ (by omega) (by omega) (by omega) (by omega)]
        simp only [Option.bind_some]
        rw [date_eq 499 (by omega), hdate]
        simp only [Option.bind_some]
        rw [if_pos trivial, if_pos u1, hr60, if_pos a1, weekday_eq _ (by omega) (by omega), num1 _ (by omega) (by omega)]
        simp only [Option.bind_some, t3600, t60, hyd]
      · exact ord_self a2
      · intro w
        have h := rsplit_ok 500 a0 (wholeV .down a0) hF (by rw [ord_ge, quad_lo, q7]; simp only [(cmp (-1000000000000000)).1, decide_eq_true_eq]; omega) (by rw [ord_le, quad_hi, q7]; simp only [(cmp 1000000000000000).2, decide_eq_true_eq]; omega) q2
          (secOf a0 / 86400) (secOf a0 % 86400) (by rw [hs, floor_eq]; exact divide_eq _ _ (by omega) (by omega) (by omega) (by omega)) _ _ _ (by rw [rdate_eq 500 (by omega), hdate]) _ (wday_eq _ (by omega) (by omega)) _ (begin_eq 500 (by omega) _ _ (by omega) (by omega) (by omega) (by omega)) _ u1 rfl (by rw [hr60]; exact a1) w
        rw [hr60, t3600, t60, hyd] at h
        exact h
    · left
      have hdate : dateAll (secOf a0 / 86400) = (0, 0, 0, 110) := by unfold dateAll; rw [if_pos (by omega)]
      constructor
      · by_cases hb : -1000000000000 ≤ secOf a0 ∧ secOf a0 ≤ 1000000000000
        · unfold calendar_Split.f
          rw [hF]
          simp only [Option.bind_some, nan_eq, q7]
          rw [if_neg (by simp), Abs]
          simp only [Option.bind_some]
          have hab : (FloatKind.f64.format.order (absB (wholeV .down a0)) 4786511204640096256 == some Ordering.gt) = false := by
            rw [abs_gt _ _ hwl 1000000000000 _ (by omega) tril q7]
            rw [decide_eq_false_iff_not, Decidable.not_not, (cmp (-1000000000000)).1, (cmp 1000000000000).2]
            exact hb
          rw [hab, show (500 : Nat) = 499 + 1 from rfl, calendar_Split.j0, if_neg (by decide), if_pos q2, hs, divide_eq _ _ (by omega) (by omega) (by omega) (by omega)]
          simp only [Option.bind_some]
          rw [date_eq 499 (by omega), hdate]
          simp only [Option.bind_some]
          rw [if_neg (by decide)]
        · exact refuse (Or.inr ⟨_, q7, by rw [(cmp (-1000000000000)).1, (cmp 1000000000000).2]; exact hb⟩)
      · by_cases h3 : -1000000000000000 ≤ secOf a0
        · by_cases h4 : secOf a0 ≤ 1000000000000000
          · intro w
            exact rsplit_out 500 a0 (wholeV .down a0) hF (by rw [ord_ge, quad_lo, q7]; simp only [(cmp (-1000000000000000)).1, decide_eq_true_eq]; exact h3) (by rw [ord_le, quad_hi, q7]; simp only [(cmp 1000000000000000).2, decide_eq_true_eq]; exact h4) q2
              (secOf a0 / 86400) (secOf a0 % 86400) (by rw [hs, floor_eq]; exact divide_eq _ _ (by omega) (by omega) (by omega) (by omega)) (by rw [rdate_eq 500 (by omega), hdate]) w
          · exact rhi ⟨_, q7, by rw [(cmp (-1000000000000000)).1]; exact h3, by rw [(cmp 1000000000000000).2]; exact h4⟩
        · exact rlo (by rw [q7]; simp only [(cmp (-1000000000000000)).1]; exact h3)
theorem splits_law (a0 : Nat) (hw : a0 < 18446744073709551616) (w : World) : Calls Try.prog 4 #[.float .f64 a0] w fun e w' => e = .returned (.bool true) ∧ Below w.heap.size w w' := by
  by_cases hx : wholeOk a0 = true
  · rcases both a0 hw hx with ⟨h1, h2⟩ | ⟨r1, r2, r3, r4, r5, r6, r7, r8, h1, h2, _, _, _, _, h3⟩
    · exact splits_walk a0 0 0 0 0 0 0 0 0 110 (fun w => calendar_Split.calls 500 a0 _ _ _ _ _ _ _ _ _ w h1) h2 (by decide +kernel) w
    · exact splits_walk a0 r1 r2 r3 r4 r5 r6 r7 r8 0 (fun w => calendar_Split.calls 500 a0 _ _ _ _ _ _ _ _ _ w h1) h3 h2 w
  · have hx' : wholeOk a0 = false := by simpa using hx
    exact splits_walk a0 0 0 0 0 0 0 0 0 110 (fun w => split_nan a0 hx' w) (fun w => rsplit_nan a0 hx' w) (by decide +kernel) w
end Go.Proofs.Ytomkhipfooafnaa.P

set_option linter.unusedVariables false
namespace Go.Proofs.Ytomkhipfooafnaa.P
open Go.RowKit Go.Proofs.YtomkhipfooafnaaW.PrintWords Go.Proofs.YtomkhipfooafnaaW.PrintLast Go.Proofs.YtomkhipfooafnaaW.PrintMore Go.Proofs.YtomkhipfooafnaaW.FM Go.Proofs.Ytomkhipfooafnaa.Cal Ieee
theorem date_is (n y m d : Int) (m0 : 0 ≤ m) (m1 : m ≤ 11) (d0 : 1 ≤ d) (d1 : d ≤ len (leap y) m) (h : begin_ y m + d - 1 = n) : dateY n = y ∧ dateM n = m ∧ dateD n = d := by
  obtain ⟨a, b, c, e⟩ := date_valid n
  have hb := date_begin n
  exact date_uniq _ _ _ _ _ _ a b c e m0 m1 d0 d1 (by omega)
theorem begin_month (y m : Int) (m0 : 0 ≤ m) (m1 : m ≤ 10) : begin_ y (m + 1) = begin_ y m + len (leap y) m := by
  have := cum_succ (leap y) m m0 (by omega)
  unfold begin_
  rw [leap_mod]
  omega
theorem begin_11 (y : Int) : begin_ (y + 1) 0 = begin_ y 11 + len (leap y) 11 := by
  rw [begin_succ]
  have h := cum_succ (leap y) 11 (by omega) (by omega)
  have h2 := cum_12 (leap y)
  have z : cum (leap y) 0 = 0 := rfl
  have h3 : cum (leap y) (11 + 1) = cum (leap y) 12 := rfl
  unfold begin_
  rw [leap_mod, z]
  omega
/-- the next day: the next of its month, or the first of the next month, or of the next year -/
theorem date_next (n : Int) : (dateY (n + 1) = dateY n ∧ dateM (n + 1) = dateM n ∧ dateD (n + 1) = dateD n + 1) ∨
    (dateD n = len (leap (dateY n)) (dateM n) ∧ dateM n ≤ 10 ∧ dateY (n + 1) = dateY n ∧ dateM (n + 1) = dateM n + 1 ∧ dateD (n + 1) = 1) ∨
    (dateD n = len (leap (dateY n)) (dateM n) ∧ dateM n = 11 ∧ dateY (n + 1) = dateY n + 1 ∧ dateM (n + 1) = 0 ∧ dateD (n + 1) = 1) := by
  obtain ⟨a, b, c, e⟩ := date_valid n
  have hb := date_begin n
  by_cases h : dateD n < len (leap (dateY n)) (dateM n)
  · exact Or.inl (date_is (n + 1) _ _ _ a b (by omega) (by omega) (by omega))
  · have he : dateD n = len (leap (dateY n)) (dateM n) := by omega
    by_cases hm : dateM n ≤ 10
    · have h1 := begin_month (dateY n) (dateM n) a hm
      have hl := len_bd (leap (dateY n)) (dateM n + 1)
      obtain ⟨x, y, z⟩ := date_is (n + 1) (dateY n) (dateM n + 1) 1 (by omega) (by omega) (by omega) (by omega) (by omega)
      exact Or.inr (Or.inl ⟨he, hm, x, y, z⟩)
    · have h11 : dateM n = 11 := by omega
      have h1 := begin_11 (dateY n)
      rw [h11] at he hb
      have hl := len_bd (leap (dateY n + 1)) 0
      obtain ⟨x, y, z⟩ := date_is (n + 1) (dateY n + 1) 0 1 (by omega) (by omega) (by omega) (by omega) (by omega)
      exact Or.inr (Or.inr ⟨by rw [h11]; exact he, h11, x, y, z⟩)
theorem date_400 (n : Int) : dateY (n + 146097) = dateY n + 400 ∧ dateM (n + 146097) = dateM n ∧ dateD (n + 146097) = dateD n := by
  obtain ⟨a, b, c, e⟩ := date_valid n
  have hb := date_begin n
  have hl : leap (dateY n + 400) = leap (dateY n) := by rw [← leap_mod (dateY n + 400), ← leap_mod (dateY n)]; congr 1; omega
  have h4 : begin_ (dateY n + 400) (dateM n) = begin_ (dateY n) (dateM n) + 146097 := by
    unfold begin_
    have e1 : (dateY n + 400) % 400 = dateY n % 400 := by omega
    have e2 : (dateY n + 400) / 400 = dateY n / 400 + 1 := by omega
    rw [e1, e2]
    omega
  exact date_is (n + 146097) _ _ _ a b c (by rw [hl]; exact e) (by omega)
def thu (n : Int) : Int := n - (n + 3) % 7 + 3
theorem iso_spec (n : Int) (h0 : -4371587 ≤ n) (h1 : n ≤ 2932896) : begin_ (isoOf n) 0 ≤ thu n ∧ thu n < begin_ (isoOf n + 1) 0 := by
  have hin := in_year n h0 h1
  have s1 := begin_succ (dateY n - 1)
  have s2 := begin_succ (dateY n + 1)
  have e : dateY n - 1 + 1 = dateY n := by omega
  rw [e] at s1
  have y1 := yl_bd (leap (dateY n - 1))
  have y2 := yl_bd (leap (dateY n + 1))
  unfold isoOf thu
  by_cases c1 : n - (n + 3) % 7 + 3 < begin_ (dateY n) 0
  · rw [if_pos c1, e]; omega
  · rw [if_neg c1]
    by_cases c2 : n - (n + 3) % 7 + 3 ≥ begin_ (dateY n + 1) 0
    · rw [if_pos c2]; omega
    · rw [if_neg c2]; omega
theorem iso_uniq (a b t : Int) (a0 : begin_ a 0 ≤ t) (a1 : t < begin_ (a + 1) 0) (b0 : begin_ b 0 ≤ t) (b1 : t < begin_ (b + 1) 0) : a = b := by
  by_cases h1 : a < b
  · have := begin_mono (a + 1) b (by omega); omega
  · by_cases h2 : b < a
    · have := begin_mono (b + 1) a (by omega); omega
    · omega
theorem week_next (n : Int) (h0 : -4371587 ≤ n) (h1 : n + 1 ≤ 2932896) :
    ((n + 1 + 4) % 7 ≠ 1 ∧ isoOf (n + 1) = isoOf n ∧ weekOf (n + 1) = weekOf n) ∨
    ((n + 1 + 4) % 7 = 1 ∧ isoOf (n + 1) = isoOf n ∧ weekOf (n + 1) = weekOf n + 1) ∨
    ((n + 1 + 4) % 7 = 1 ∧ isoOf (n + 1) = isoOf n + 1 ∧ weekOf (n + 1) = 1 ∧ 52 ≤ weekOf n) := by
  obtain ⟨a0, a1⟩ := iso_spec n h0 (by omega)
  obtain ⟨b0, b1⟩ := iso_spec (n + 1) (by omega) h1
  have w1 : weekOf n = (thu n - begin_ (isoOf n) 0) / 7 + 1 := rfl
  have w2 : weekOf (n + 1) = (thu (n + 1) - begin_ (isoOf (n + 1)) 0) / 7 + 1 := rfl
  by_cases hm : (n + 1 + 4) % 7 = 1
  · have ht : thu (n + 1) = thu n + 7 := by unfold thu; omega
    by_cases hs : thu n + 7 < begin_ (isoOf n + 1) 0
    · have hi := iso_uniq (isoOf (n + 1)) (isoOf n) (thu (n + 1)) b0 b1 (by omega) (by omega)
      rw [hi] at w2
      exact Or.inr (Or.inl ⟨hm, hi, by omega⟩)
    · have s := begin_succ (isoOf n + 1)
      have s0 := begin_succ (isoOf n)
      have y := yl_bd (leap (isoOf n + 1))
      have y0 := yl_bd (leap (isoOf n))
      have hi := iso_uniq (isoOf (n + 1)) (isoOf n + 1) (thu (n + 1)) b0 b1 (by omega) (by omega)
      rw [hi] at w2
      exact Or.inr (Or.inr ⟨hm, hi, by omega, by omega⟩)
  · have ht : thu (n + 1) = thu n := by unfold thu; omega
    have hi := iso_uniq (isoOf (n + 1)) (isoOf n) (thu (n + 1)) b0 b1 (by omega) (by omega)
    rw [hi, ht] at w2
    exact Or.inl ⟨hm, hi, by omega⟩
/-! the split of whole seconds -/
theorem ofInt_key (s : Int) (h0 : -9007199254740991 ≤ s) (h1 : s ≤ 9007199254740991) : fkey (floatOfInt .f64 s) = some (s * TOP) := by
  rw [ofInt_eq, int_key _ _ (by omega)]
  congr 2
  unfold sgn
  by_cases h : s < 0
  · simp [h]; omega
  · simp [h]; omega
theorem ofInt_lt (s : Int) : floatOfInt .f64 s < 18446744073709551616 := by rw [ofInt_eq]; exact Ieee.double.write_lt _
theorem ofInt_ok (s : Int) : wholeOk (floatOfInt .f64 s) = true := by
  obtain ⟨v, hv⟩ := write_key (.number (decide (s < 0)) s.natAbs 0) rfl
  unfold wholeOk
  rw [dec_eq, ofInt_eq]
  unfold fkey at hv
  cases hd : Ieee.double.read (Ieee.double.write (.number (decide (s < 0)) s.natAbs 0)) with
  | nan a b => rw [hd] at hv; simp [key] at hv
  | number a b c => rfl
  | infinity a => rfl
theorem secOf_of {x : Nat} {s : Int} (hs0 : -4503599627370495 ≤ s) (hs1 : s ≤ 4503599627370495) (h : fkey x = some (s * TOP)) : secOf x = s := by
  have tp := top_pos
  obtain ⟨_, _, _, _, a, b, _⟩ := floor_ok 4503599627370496 (by omega) (by omega) x (s * TOP) h (Int.mul_le_mul_of_nonneg_right (by omega) (by omega)) (Int.mul_le_mul_of_nonneg_right (by omega) (by omega))
  have a' := Int.le_of_mul_le_mul_right a tp
  have b' := Int.lt_of_mul_lt_mul_right b (by omega)
  omega
/-- within the years that there are Split answers its fields -/
theorem split_in (a0 : Nat) (hw : a0 < 18446744073709551616) (hx : wholeOk a0 = true) (v : Int) (hv : fkey a0 = some v) (h0 : -4503599627370496 * TOP ≤ v) (h1 : v ≤ 4503599627370496 * TOP)
    (hin : -4371587 ≤ secOf a0 / 86400 ∧ secOf a0 / 86400 ≤ 2932896) : calendar_Split.f 500 a0 = some (splitF a0) ∧ ∃ v, fkey (splitF a0).2.2.2.2.2.1 = some v := by
  have tp := top_pos
  have hwl := whole_lt a0 hw
  have Abs : ∀ fl, math_Abs.f fl = some (absB fl) := fun _ => rfl
  obtain ⟨hF, q2, q3, q4, q5, q6, q7, s, c, q8, q9, q10⟩ := floor_ok 4503599627370496 (by omega) (by omega) a0 v hv h0 h1
  have hs : f2i .i64 (wholeV .down a0) = secOf a0 := rfl
  have cmp : ∀ (c : Int), (c * TOP ≤ secOf a0 * TOP ↔ c ≤ secOf a0) ∧ (secOf a0 * TOP ≤ c * TOP ↔ secOf a0 ≤ c) := fun c =>
    ⟨⟨fun h => Int.le_of_mul_le_mul_right h tp, fun h => Int.mul_le_mul_of_nonneg_right h (by omega)⟩, ⟨fun h => Int.le_of_mul_le_mul_right h tp, fun h => Int.mul_le_mul_of_nonneg_right h (by omega)⟩⟩
  have hdate : dateAll (secOf a0 / 86400) = (dateY (secOf a0 / 86400), dateM (secOf a0 / 86400), dateD (secOf a0 / 86400), 0) := by unfold dateAll; rw [if_neg (by omega)]
  have hy := dateY_bd _ hin.1 hin.2
  obtain ⟨u1, s', m', e', u2⟩ := sub_ok a0 (wholeV .down a0) (num_read hv h0 h1 (by omega) (by omega)) (by rw [q8]; exact int_read s c q9)
  have hr60 : Int.tmod (secOf a0 % 86400) 60 = secOf a0 % 86400 % 60 := Int.tmod_eq_emod_of_nonneg (by omega)
  obtain ⟨a1, v6, a2⟩ := add_ok (floatOfInt .f64 (secOf a0 % 86400 % 60)) (fval .sub a0 (wholeV .down a0)) (by rw [ofInt_eq]; exact int_read _ _ (by omega)) (by
    rw [u2]
    obtain ⟨v', hv'⟩ := write_key (.number s' m' e') rfl
    exact key_nan hv')
  have t3600 : wrap64 (Int.tdiv (secOf a0 % 86400) 3600) = secOf a0 % 86400 / 3600 := by rw [Int.tdiv_eq_ediv_of_nonneg (by omega), w64 (by omega) (by omega)]
  have t60 : Int.tmod (wrap64 (Int.tdiv (secOf a0 % 86400) 60)) 60 = secOf a0 % 86400 / 60 % 60 := by rw [Int.tdiv_eq_ediv_of_nonneg (by omega), w64 (by omega) (by omega), Int.tmod_eq_emod_of_nonneg (by omega)]
  have bb := begin_bd (dateY (secOf a0 / 86400)) 0 (by omega) (by omega) (by omega) (by omega)
  have hyd : wrap64 (secOf a0 / 86400 - begin_ (dateY (secOf a0 / 86400)) 0) = secOf a0 / 86400 - begin_ (dateY (secOf a0 / 86400)) 0 := w64 (by omega) (by omega)
  refine ⟨?_, ⟨v6, a2⟩⟩
  unfold calendar_Split.f
  rw [hF]
  simp only [Option.bind_some, nan_eq, q7]
  rw [if_neg (by simp), Abs]
  simp only [Option.bind_some]
  have hab : (FloatKind.f64.format.order (absB (wholeV .down a0)) 4786511204640096256 == some Ordering.gt) = false := by
    rw [abs_gt _ _ hwl 1000000000000 _ (by omega) tril q7]
    simp only [(cmp (-1000000000000)).1, (cmp 1000000000000).2, decide_eq_false_iff_not, Decidable.not_not]
    omega
  rw [hab, show (500 : Nat) = 499 + 1 from rfl, calendar_Split.j0, if_neg (by decide), if_pos q2, hs, divide_eq _ _ (by omega) (by omega) (by omega) (by omega)]
  simp only [Option.bind_some]
  rw [date_eq 499 (by omega), hdate]
  simp only [Option.bind_some]
  rw [if_pos trivial, if_pos u1, hr60, if_pos a1, weekday_eq _ (by omega) (by omega), num1 _ (by omega) (by omega)]
  simp only [Option.bind_some, t3600, t60, hyd]
  rfl
theorem split_day (n : Int) (h0 : -4371587 ≤ n) (h1 : n ≤ 2932896) : ∃ r6 r8, calendar_Split.f 500 (floatOfInt .f64 (n * 86400)) = some (dateY n, dateM n, dateD n, 0, 0, r6, (n + 4) % 7, r8, 0) := by
  have tp := top_pos
  have hk := ofInt_key (n * 86400) (by omega) (by omega)
  have hs := secOf_of (by omega) (by omega) hk
  have hd : n * 86400 / 86400 = n := by omega
  have hm : n * 86400 % 86400 = 0 := by omega
  obtain ⟨h, _⟩ := split_in (floatOfInt .f64 (n * 86400)) (ofInt_lt _) (ofInt_ok _) _ hk (Int.mul_le_mul_of_nonneg_right (by omega) (by omega)) (Int.mul_le_mul_of_nonneg_right (by omega) (by omega)) (by rw [hs, hd]; exact ⟨h0, h1⟩)
  refine ⟨fval .add (floatOfInt .f64 (0 % 60)) (fval .sub (floatOfInt .f64 (n * 86400)) (wholeV .down (floatOfInt .f64 (n * 86400)))), n - begin_ (dateY n) 0, ?_⟩
  rw [h]
  simp only [splitF, hs, hd, hm]
  rfl
end Go.Proofs.Ytomkhipfooafnaa.P
