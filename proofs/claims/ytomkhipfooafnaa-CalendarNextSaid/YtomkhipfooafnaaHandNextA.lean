/- CalendarNext by hand: each way through the law, from what its callees answer. -/
import Derived.Test.YtomkhipfooafnaaSplitAll
set_option linter.unusedVariables false
namespace Go.Proofs.Ytomkhipfooafnaa.P
open Go.RowKit Go.Proofs.YtomkhipfooafnaaW.PrintWords Go.Proofs.YtomkhipfooafnaaW.PrintLast Go.Proofs.YtomkhipfooafnaaW.PrintMore Go.Proofs.YtomkhipfooafnaaW.FM

set_option maxHeartbeats 8000000 in
set_option maxRecDepth 100000 in
theorem next_out (n : Int) (hd : calendar_Date.f 500 n = some (0, 0, 0, 110)) (w : World) :
    Calls Try.prog 8 #[.int .i64 n] w fun e w' => e = .returned (.bool true) ∧ Below w.heap.size w w' := by
  have CD := Aside0.mk hd
  clear hd
  go_enter Try.func8, Try.ntmps8
  go_wp2_with fail
  refine (calendar_Date.calls 500 n 0 0 0 110 _ CD.out).mono ?_
  rintro e w1 ⟨rfl, hb_⟩
  replace hb_ := Drawn0.below hb_
  have HBw1 := Aside0.mk (show Below w.heap.size w w1 from hb_)
  clear hb_
  go_wp2_with fail
  refine (colanderlaw11_heads.calls true _ rfl).mono ?_
  rintro e w2 ⟨rfl, hb_⟩
  have HBw2 := Aside0.mk (show Below w.heap.size w w2 from HBw1.out.trans (hb_.mono HBw1.out.size))
  clear hb_
  go_wp2_with fail
  go_ret
  exact ⟨rfl, HBw2.out⟩

set_option maxHeartbeats 8000000 in
set_option maxRecDepth 100000 in
theorem next_last (n y m d wd wd2 r8 r8' : Int) (r6 r6' : Nat) (n0 : -4371587 ≤ n) (n1 : n ≤ 2932896) (yb0 : -9999 ≤ y) (yb1 : y ≤ 9999) (mb0 : 0 ≤ m) (mb1 : m ≤ 11) (db0 : 1 ≤ d) (db1 : d ≤ 31) (hd : calendar_Date.f 500 n = some (y, m, d, 0)) (hs : calendar_Split.f 500 (floatOfInt .f64 (n * 86400)) = some (y, m, d, 0, 0, r6, wd, r8, 0))
    (hz : calendar_Date.f 500 (n + 146097) = some (0, 0, 0, 110)) (hn : (n == 2932896) = true) (hd2 : calendar_Date.f 500 (n + 1) = some (0, 0, 0, 110)) (w : World) :
    Calls Try.prog 8 #[.int .i64 n] w fun e w' => e = .returned (.bool true) ∧ Below w.heap.size w w' := by
  have Chd := Aside0.mk hd
  have Chs := Aside0.mk hs
  have Chz := Aside0.mk hz
  have Chd2 := Aside0.mk hd2
  clear hd hs hz hd2
  go_enter Try.func8, Try.ntmps8
  go_wp2_with fail
  refine (calendar_Date.calls 500 n y m d 0 _ Chd.out).mono ?_
  rintro e w1 ⟨rfl, hb_⟩
  replace hb_ := Drawn0.below hb_
  have HBw1 := Aside0.mk (show Below w.heap.size w w1 from hb_)
  clear hb_
  go_wp2_with fail
  refine (calendar_Split.calls 500 (floatOfInt .f64 (n * 86400)) y m d 0 0 r6 wd r8 0 _ Chs.out).mono ?_
  rintro e w2 ⟨rfl, hb_⟩
  have HBw2 := Aside0.mk (show Below w.heap.size w w2 from HBw1.out.trans (hb_.mono HBw1.out.size))
  clear hb_
  go_wp2_with fail
  obtain ⟨W2, hW2⟩ : ∃ W_, W_ = w2.alloc (.cells #[.int .i64 y, .int .i64 m, .int .i64 d, .int .i64 0, .int .i64 0, .float .f64 r6, .int .i64 wd, .int .i64 r8] 37) := ⟨_, rfl⟩
  have HBW2 := Aside0.mk (show Below w.heap.size w W2 from by rw [hW2]; exact HBw2.out.alloc HBw2.out.size _)
  have Kga0 := Aside0.mk (show W2.heap[w2.heap.size]? = some (.cells #[.int .i64 y, .int .i64 m, .int .i64 d, .int .i64 0, .int .i64 0, .float .f64 r6, .int .i64 wd, .int .i64 r8] 37) from by rw [hW2]; exact Array.getElem?_push_size)
  have HGga := Aside0.mk (show W2.heap.size = w2.heap.size + 1 from by rw [hW2]; simp)
  rw [← hW2]
  clear hW2
  generalize w2.heap.size = ga at *
  refine (calendar_Date.calls 500 (n + 146097) 0 0 0 110 _ Chz.out).mono ?_
  rintro e w3 ⟨rfl, hb_⟩
  replace hb_ := Drawn0.below hb_
  have HBw3 := Aside0.mk (show Below w.heap.size w w3 from HBW2.out.trans (hb_.mono HBW2.out.size))
  have Kga1 := Aside0.mk (keep_blk hb_ Kga0.out)
  clear Kga0
  clear hb_
  have gzga : ga < w3.heap.size := by obtain ⟨h, _⟩ := Array.getElem?_eq_some_iff.1 Kga1.out; exact h
  have hcga0 : w3.cell? ⟨ga, 0, none⟩ = some (.int .i64 y) := (blk_cell Kga1.out 0).trans rfl
  have hcga1 : w3.cell? ⟨ga, 1, none⟩ = some (.int .i64 m) := (blk_cell Kga1.out 1).trans rfl
  have hcga2 : w3.cell? ⟨ga, 2, none⟩ = some (.int .i64 d) := (blk_cell Kga1.out 2).trans rfl
  have hcga3 : w3.cell? ⟨ga, 3, none⟩ = some (.int .i64 0) := (blk_cell Kga1.out 3).trans rfl
  have hcga4 : w3.cell? ⟨ga, 4, none⟩ = some (.int .i64 0) := (blk_cell Kga1.out 4).trans rfl
  have hcga5 : w3.cell? ⟨ga, 5, none⟩ = some (.float .f64 r6) := (blk_cell Kga1.out 5).trans rfl
  have hcga6 : w3.cell? ⟨ga, 6, none⟩ = some (.int .i64 wd) := (blk_cell Kga1.out 6).trans rfl
  have hcga7 : w3.cell? ⟨ga, 7, none⟩ = some (.int .i64 r8) := (blk_cell Kga1.out 7).trans rfl
  go_wp2_with fail
  refine (calendar_Date.calls 500 (n + 1) 0 0 0 110 _ Chd2.out).mono ?_
  rintro e w4 ⟨rfl, hb_⟩
  replace hb_ := Drawn0.below hb_
  have HBw4 := Aside0.mk (show Below w.heap.size w w4 from HBw3.out.trans (hb_.mono HBw3.out.size))
  clear hb_
  go_wp2_with fail
  refine (colanderlaw11_heads.calls true _ rfl).mono ?_
  rintro e w5 ⟨rfl, hb_⟩
  have HBw5 := Aside0.mk (show Below w.heap.size w w5 from HBw4.out.trans (hb_.mono HBw4.out.size))
  clear hb_
  go_wp2_with fail
  go_ret
  exact ⟨rfl, HBw5.out⟩

end Go.Proofs.Ytomkhipfooafnaa.P
