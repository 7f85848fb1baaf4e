/- CalendarNext by hand: each way where the next day is there, s through the law, from what its callees answer. -/
import Derived.Test.YtomkhipfooafnaaSplitAll
set_option linter.unusedVariables false
namespace Go.Proofs.Ytomkhipfooafnaa.P
open Go.RowKit Go.Proofs.YtomkhipfooafnaaW.PrintWords Go.Proofs.YtomkhipfooafnaaW.PrintLast Go.Proofs.YtomkhipfooafnaaW.PrintMore Go.Proofs.YtomkhipfooafnaaW.FM
set_option maxHeartbeats 8000000 in
set_option maxRecDepth 100000 in
theorem next_s1f (n y m d wd wd2 r8 r8' iso wk s1 s2 s3 s4 : Int) (r6 r6' : Nat) (n0 : -4371587 ≤ n) (n1 : n + 1 ≤ 2932896) (yb0 : -9999 ≤ y) (yb1 : y ≤ 9999) (mb0 : 0 ≤ m) (mb1 : m ≤ 11) (db0 : 1 ≤ d) (db1 : d ≤ 31) (ib0 : -20000 ≤ iso) (ib1 : iso ≤ 20000) (kb0 : 0 ≤ wk) (kb1 : wk ≤ 1000) (hd : calendar_Date.f 500 n = some (y, m, d, 0)) (hs : calendar_Split.f 500 (floatOfInt .f64 (n * 86400)) = some (y, m, d, 0, 0, r6, wd, r8, 0))
    (hz : calendar_Date.f 500 (n + 146097) = some (y + 400, m, d, 0)) (hd2 : calendar_Date.f 500 (n + 1) = some (y, m, d + 1, 0)) (hs2 : calendar_Split.f 500 (floatOfInt .f64 ((n + 1) * 86400)) = some (y, m, d + 1, 0, 0, r6', wd2, r8', 0)) (L : Int) (hL : (d == L) = false) (hlen : calendar_Length.f y m = some L) (w0 : 0 ≤ wd) (w1 : wd ≤ 6) (hwd : (wd2 == (wd + 1) % 7) = true) (hnm : (wd2 == 1) = false) (hnm' : (wd2 != 1) = true)
    (hw1 : calendar_Weeks.f 500 n = some (iso, wk, s1, s2, 0)) (hw2 : calendar_Weeks.f 500 (n + 1) = some (iso, wk, s3, s4, 0)) (w : World) :
    Calls Try.prog 8 #[.int .i64 n] w fun e w' => e = .returned (.bool true) ∧ Below w.heap.size w w' := by
  have Chd := Aside0.mk hd
  have Chs := Aside0.mk hs
  have Chz := Aside0.mk hz
  have Chd2 := Aside0.mk hd2
  have Chs2 := Aside0.mk hs2
  have Chlen := Aside0.mk hlen
  have Chw1 := Aside0.mk hw1
  have Chw2 := Aside0.mk hw2
  clear hd hs hz hd2 hs2 hlen hw1 hw2
  go_enter Try.func8, Try.ntmps8
  go_wp2_with fail
  refine (calendar_Date.calls 500 n y m d 0 _ Chd.out).mono ?_
  rintro e w1 ⟨rfl, hb_⟩
  replace hb_ := Drawn0.below hb_
  have HBw1 := Aside0.mk (show Below w.heap.size w w1 from hb_)
  clear hb_
  go_wp2_with fail
  refine (calendar_Split.calls 500 (floatOfInt .f64 (n * 86400)) y m d 0 0 r6 wd r8 0 _ Chs.out).mono ?_
  rintro e w2 ⟨rfl, hb_⟩
  have HBw2 := Aside0.mk (show Below w.heap.size w w2 from HBw1.out.trans (hb_.mono HBw1.out.size))
  clear hb_
  go_wp2_with fail
  obtain ⟨W2, hW2⟩ : ∃ W_, W_ = w2.alloc (.cells #[.int .i64 y, .int .i64 m, .int .i64 d, .int .i64 0, .int .i64 0, .float .f64 r6, .int .i64 wd, .int .i64 r8] 37) := ⟨_, rfl⟩
  have HBW2 := Aside0.mk (show Below w.heap.size w W2 from by rw [hW2]; exact HBw2.out.alloc HBw2.out.size _)
  have Kga0 := Aside0.mk (show W2.heap[w2.heap.size]? = some (.cells #[.int .i64 y, .int .i64 m, .int .i64 d, .int .i64 0, .int .i64 0, .float .f64 r6, .int .i64 wd, .int .i64 r8] 37) from by rw [hW2]; exact Array.getElem?_push_size)
  have HGga := Aside0.mk (show W2.heap.size = w2.heap.size + 1 from by rw [hW2]; simp)
  rw [← hW2]
  clear hW2
  generalize w2.heap.size = ga at *
  refine (calendar_Date.calls 500 (n + 146097) (y + 400) m d 0 _ Chz.out).mono ?_
  rintro e w3 ⟨rfl, hb_⟩
  replace hb_ := Drawn0.below hb_
  have HBw3 := Aside0.mk (show Below w.heap.size w w3 from HBW2.out.trans (hb_.mono HBW2.out.size))
  have Kga1 := Aside0.mk (keep_blk hb_ Kga0.out)
  clear Kga0
  clear hb_
  have gzga : ga < w3.heap.size := by obtain ⟨h, _⟩ := Array.getElem?_eq_some_iff.1 Kga1.out; exact h
  have hcga0 : w3.cell? ⟨ga, 0, none⟩ = some (.int .i64 y) := (blk_cell Kga1.out 0).trans rfl
  have hcga1 : w3.cell? ⟨ga, 1, none⟩ = some (.int .i64 m) := (blk_cell Kga1.out 1).trans rfl
  have hcga2 : w3.cell? ⟨ga, 2, none⟩ = some (.int .i64 d) := (blk_cell Kga1.out 2).trans rfl
  have hcga3 : w3.cell? ⟨ga, 3, none⟩ = some (.int .i64 0) := (blk_cell Kga1.out 3).trans rfl
  have hcga4 : w3.cell? ⟨ga, 4, none⟩ = some (.int .i64 0) := (blk_cell Kga1.out 4).trans rfl
  have hcga5 : w3.cell? ⟨ga, 5, none⟩ = some (.float .f64 r6) := (blk_cell Kga1.out 5).trans rfl
  have hcga6 : w3.cell? ⟨ga, 6, none⟩ = some (.int .i64 wd) := (blk_cell Kga1.out 6).trans rfl
  have hcga7 : w3.cell? ⟨ga, 7, none⟩ = some (.int .i64 r8) := (blk_cell Kga1.out 7).trans rfl
  go_wp2_with fail
  refine (calendar_Date.calls 500 (n + 1) y m (d + 1) 0 _ Chd2.out).mono ?_
  rintro e w4 ⟨rfl, hb_⟩
  replace hb_ := Drawn0.below hb_
  have HBw4 := Aside0.mk (show Below w.heap.size w w4 from HBw3.out.trans (hb_.mono HBw3.out.size))
  have Kga2 := Aside0.mk (keep_blk hb_ Kga1.out)
  clear Kga1
  clear hb_
  go_wp2_with fail
  refine (calendar_Split.calls 500 (floatOfInt .f64 ((n + 1) * 86400)) y m (d + 1) 0 0 r6' wd2 r8' 0 _ Chs2.out).mono ?_
  rintro e w5 ⟨rfl, hb_⟩
  have HBw5 := Aside0.mk (show Below w.heap.size w w5 from HBw4.out.trans (hb_.mono HBw4.out.size))
  have Kga3 := Aside0.mk (keep_blk hb_ Kga2.out)
  clear Kga2
  clear hb_
  clear hcga0 hcga1 hcga2 hcga3 hcga4 hcga5 hcga6 hcga7 gzga
  go_wp2_with fail
  obtain ⟨W5, hW5⟩ : ∃ W_, W_ = w5.alloc (.cells #[.int .i64 y, .int .i64 m, .int .i64 (d + 1), .int .i64 0, .int .i64 0, .float .f64 r6', .int .i64 wd2, .int .i64 r8'] 37) := ⟨_, rfl⟩
  have HBW5 := Aside0.mk (show Below w.heap.size w W5 from by rw [hW5]; exact HBw5.out.alloc HBw5.out.size _)
  have Kgb0 := Aside0.mk (show W5.heap[w5.heap.size]? = some (.cells #[.int .i64 y, .int .i64 m, .int .i64 (d + 1), .int .i64 0, .int .i64 0, .float .f64 r6', .int .i64 wd2, .int .i64 r8'] 37) from by rw [hW5]; exact Array.getElem?_push_size)
  have HGgb := Aside0.mk (show W5.heap.size = w5.heap.size + 1 from by rw [hW5]; simp)
  have HK5 := Aside0.mk (show W5.heap[ga]? = some (.cells #[.int .i64 y, .int .i64 m, .int .i64 d, .int .i64 0, .int .i64 0, .float .f64 r6, .int .i64 wd, .int .i64 r8] 37) from by rw [hW5]; exact blk_al Kga3.out)
  rw [← hW5]
  clear hW5
  generalize w5.heap.size = gb at *
  have Kga4 := Aside0.mk (show W5.heap[ga]? = some (.cells #[.int .i64 y, .int .i64 m, .int .i64 d, .int .i64 0, .int .i64 0, .float .f64 r6, .int .i64 wd, .int .i64 r8] 37) from HK5.out)
  clear Kga3 HK5
  refine (calendar_Length.calls y m L _ Chlen.out).mono ?_
  rintro e w6 ⟨rfl, hb_⟩
  have HBw6 := Aside0.mk (show Below w.heap.size w w6 from HBW5.out.trans (hb_.mono HBW5.out.size))
  have Kga5 := Aside0.mk (keep_blk hb_ Kga4.out)
  clear Kga4
  have Kgb1 := Aside0.mk (keep_blk hb_ Kgb0.out)
  clear Kgb0
  clear hb_
  go_wp2_with fail
  refine (calendar_Weeks.calls 500 n iso wk s1 s2 0 _ Chw1.out).mono ?_
  rintro e w7 ⟨rfl, hb_⟩
  replace hb_ := Drawn0.below hb_
  have HBw7 := Aside0.mk (show Below w.heap.size w w7 from HBw6.out.trans (hb_.mono HBw6.out.size))
  have Kga6 := Aside0.mk (keep_blk hb_ Kga5.out)
  have Kgb2 := Aside0.mk (keep_blk hb_ Kgb1.out)
  clear Kga5 Kgb1 hb_
  go_wp2_with fail
  refine (calendar_Weeks.calls 500 (n + 1) iso wk s3 s4 0 _ Chw2.out).mono ?_
  rintro e w8 ⟨rfl, hb_⟩
  replace hb_ := Drawn0.below hb_
  have HBw8 := Aside0.mk (show Below w.heap.size w w8 from HBw7.out.trans (hb_.mono HBw7.out.size))
  have Kga7 := Aside0.mk (keep_blk hb_ Kga6.out)
  have Kgb3 := Aside0.mk (keep_blk hb_ Kgb2.out)
  clear Kga6 Kgb2 hb_
  have gzga : ga < w8.heap.size := by obtain ⟨h, _⟩ := Array.getElem?_eq_some_iff.1 Kga7.out; exact h
  have hcga0 : w8.cell? ⟨ga, 0, none⟩ = some (.int .i64 y) := (blk_cell Kga7.out 0).trans rfl
  have hcga1 : w8.cell? ⟨ga, 1, none⟩ = some (.int .i64 m) := (blk_cell Kga7.out 1).trans rfl
  have hcga2 : w8.cell? ⟨ga, 2, none⟩ = some (.int .i64 d) := (blk_cell Kga7.out 2).trans rfl
  have hcga3 : w8.cell? ⟨ga, 3, none⟩ = some (.int .i64 0) := (blk_cell Kga7.out 3).trans rfl
  have hcga4 : w8.cell? ⟨ga, 4, none⟩ = some (.int .i64 0) := (blk_cell Kga7.out 4).trans rfl
  have hcga5 : w8.cell? ⟨ga, 5, none⟩ = some (.float .f64 r6) := (blk_cell Kga7.out 5).trans rfl
  have hcga6 : w8.cell? ⟨ga, 6, none⟩ = some (.int .i64 wd) := (blk_cell Kga7.out 6).trans rfl
  have hcga7 : w8.cell? ⟨ga, 7, none⟩ = some (.int .i64 r8) := (blk_cell Kga7.out 7).trans rfl
  have gzgb : gb < w8.heap.size := by obtain ⟨h, _⟩ := Array.getElem?_eq_some_iff.1 Kgb3.out; exact h
  have hcgb0 : w8.cell? ⟨gb, 0, none⟩ = some (.int .i64 y) := (blk_cell Kgb3.out 0).trans rfl
  have hcgb1 : w8.cell? ⟨gb, 1, none⟩ = some (.int .i64 m) := (blk_cell Kgb3.out 1).trans rfl
  have hcgb2 : w8.cell? ⟨gb, 2, none⟩ = some (.int .i64 (d + 1)) := (blk_cell Kgb3.out 2).trans rfl
  have hcgb3 : w8.cell? ⟨gb, 3, none⟩ = some (.int .i64 0) := (blk_cell Kgb3.out 3).trans rfl
  have hcgb4 : w8.cell? ⟨gb, 4, none⟩ = some (.int .i64 0) := (blk_cell Kgb3.out 4).trans rfl
  have hcgb5 : w8.cell? ⟨gb, 5, none⟩ = some (.float .f64 r6') := (blk_cell Kgb3.out 5).trans rfl
  have hcgb6 : w8.cell? ⟨gb, 6, none⟩ = some (.int .i64 wd2) := (blk_cell Kgb3.out 6).trans rfl
  have hcgb7 : w8.cell? ⟨gb, 7, none⟩ = some (.int .i64 r8') := (blk_cell Kgb3.out 7).trans rfl
  go_wp2_with fail
  refine (colanderlaw11_heads.calls true _ rfl).mono ?_
  rintro e w9 ⟨rfl, hb_⟩
  have HBw9 := Aside0.mk (show Below w.heap.size w w9 from HBw8.out.trans (hb_.mono HBw8.out.size))
  clear hb_
  go_wp2_with fail
  go_ret
  exact ⟨rfl, HBw9.out⟩

set_option maxHeartbeats 8000000 in
set_option maxRecDepth 100000 in
theorem next_s1n (n y m d wd wd2 r8 r8' iso wk s1 s2 s3 s4 : Int) (r6 r6' : Nat) (n0 : -4371587 ≤ n) (n1 : n + 1 ≤ 2932896) (yb0 : -9999 ≤ y) (yb1 : y ≤ 9999) (mb0 : 0 ≤ m) (mb1 : m ≤ 11) (db0 : 1 ≤ d) (db1 : d ≤ 31) (ib0 : -20000 ≤ iso) (ib1 : iso ≤ 20000) (kb0 : 0 ≤ wk) (kb1 : wk ≤ 1000) (hd : calendar_Date.f 500 n = some (y, m, d, 0)) (hs : calendar_Split.f 500 (floatOfInt .f64 (n * 86400)) = some (y, m, d, 0, 0, r6, wd, r8, 0))
    (hz : calendar_Date.f 500 (n + 146097) = some (0, 0, 0, 110)) (hd2 : calendar_Date.f 500 (n + 1) = some (y, m, d + 1, 0)) (hs2 : calendar_Split.f 500 (floatOfInt .f64 ((n + 1) * 86400)) = some (y, m, d + 1, 0, 0, r6', wd2, r8', 0)) (L : Int) (hL : (d == L) = false) (hlen : calendar_Length.f y m = some L) (w0 : 0 ≤ wd) (w1 : wd ≤ 6) (hwd : (wd2 == (wd + 1) % 7) = true) (hnm : (wd2 == 1) = false) (hnm' : (wd2 != 1) = true)
    (hw1 : calendar_Weeks.f 500 n = some (iso, wk, s1, s2, 0)) (hw2 : calendar_Weeks.f 500 (n + 1) = some (iso, wk, s3, s4, 0)) (w : World) :
    Calls Try.prog 8 #[.int .i64 n] w fun e w' => e = .returned (.bool true) ∧ Below w.heap.size w w' := by
  have Chd := Aside0.mk hd
  have Chs := Aside0.mk hs
  have Chz := Aside0.mk hz
  have Chd2 := Aside0.mk hd2
  have Chs2 := Aside0.mk hs2
  have Chlen := Aside0.mk hlen
  have Chw1 := Aside0.mk hw1
  have Chw2 := Aside0.mk hw2
  clear hd hs hz hd2 hs2 hlen hw1 hw2
  go_enter Try.func8, Try.ntmps8
  go_wp2_with fail
  refine (calendar_Date.calls 500 n y m d 0 _ Chd.out).mono ?_
  rintro e w1 ⟨rfl, hb_⟩
  replace hb_ := Drawn0.below hb_
  have HBw1 := Aside0.mk (show Below w.heap.size w w1 from hb_)
  clear hb_
  go_wp2_with fail
  refine (calendar_Split.calls 500 (floatOfInt .f64 (n * 86400)) y m d 0 0 r6 wd r8 0 _ Chs.out).mono ?_
  rintro e w2 ⟨rfl, hb_⟩
  have HBw2 := Aside0.mk (show Below w.heap.size w w2 from HBw1.out.trans (hb_.mono HBw1.out.size))
  clear hb_
  go_wp2_with fail
  obtain ⟨W2, hW2⟩ : ∃ W_, W_ = w2.alloc (.cells #[.int .i64 y, .int .i64 m, .int .i64 d, .int .i64 0, .int .i64 0, .float .f64 r6, .int .i64 wd, .int .i64 r8] 37) := ⟨_, rfl⟩
  have HBW2 := Aside0.mk (show Below w.heap.size w W2 from by rw [hW2]; exact HBw2.out.alloc HBw2.out.size _)
  have Kga0 := Aside0.mk (show W2.heap[w2.heap.size]? = some (.cells #[.int .i64 y, .int .i64 m, .int .i64 d, .int .i64 0, .int .i64 0, .float .f64 r6, .int .i64 wd, .int .i64 r8] 37) from by rw [hW2]; exact Array.getElem?_push_size)
  have HGga := Aside0.mk (show W2.heap.size = w2.heap.size + 1 from by rw [hW2]; simp)
  rw [← hW2]
  clear hW2
  generalize w2.heap.size = ga at *
  refine (calendar_Date.calls 500 (n + 146097) 0 0 0 110 _ Chz.out).mono ?_
  rintro e w3 ⟨rfl, hb_⟩
  replace hb_ := Drawn0.below hb_
  have HBw3 := Aside0.mk (show Below w.heap.size w w3 from HBW2.out.trans (hb_.mono HBW2.out.size))
  have Kga1 := Aside0.mk (keep_blk hb_ Kga0.out)
  clear Kga0
  clear hb_
  have gzga : ga < w3.heap.size := by obtain ⟨h, _⟩ := Array.getElem?_eq_some_iff.1 Kga1.out; exact h
  have hcga0 : w3.cell? ⟨ga, 0, none⟩ = some (.int .i64 y) := (blk_cell Kga1.out 0).trans rfl
  have hcga1 : w3.cell? ⟨ga, 1, none⟩ = some (.int .i64 m) := (blk_cell Kga1.out 1).trans rfl
  have hcga2 : w3.cell? ⟨ga, 2, none⟩ = some (.int .i64 d) := (blk_cell Kga1.out 2).trans rfl
  have hcga3 : w3.cell? ⟨ga, 3, none⟩ = some (.int .i64 0) := (blk_cell Kga1.out 3).trans rfl
  have hcga4 : w3.cell? ⟨ga, 4, none⟩ = some (.int .i64 0) := (blk_cell Kga1.out 4).trans rfl
  have hcga5 : w3.cell? ⟨ga, 5, none⟩ = some (.float .f64 r6) := (blk_cell Kga1.out 5).trans rfl
  have hcga6 : w3.cell? ⟨ga, 6, none⟩ = some (.int .i64 wd) := (blk_cell Kga1.out 6).trans rfl
  have hcga7 : w3.cell? ⟨ga, 7, none⟩ = some (.int .i64 r8) := (blk_cell Kga1.out 7).trans rfl
  go_wp2_with fail
  refine (calendar_Date.calls 500 (n + 1) y m (d + 1) 0 _ Chd2.out).mono ?_
  rintro e w4 ⟨rfl, hb_⟩
  replace hb_ := Drawn0.below hb_
  have HBw4 := Aside0.mk (show Below w.heap.size w w4 from HBw3.out.trans (hb_.mono HBw3.out.size))
  have Kga2 := Aside0.mk (keep_blk hb_ Kga1.out)
  clear Kga1
  clear hb_
  go_wp2_with fail
  refine (calendar_Split.calls 500 (floatOfInt .f64 ((n + 1) * 86400)) y m (d + 1) 0 0 r6' wd2 r8' 0 _ Chs2.out).mono ?_
  rintro e w5 ⟨rfl, hb_⟩
  have HBw5 := Aside0.mk (show Below w.heap.size w w5 from HBw4.out.trans (hb_.mono HBw4.out.size))
  have Kga3 := Aside0.mk (keep_blk hb_ Kga2.out)
  clear Kga2
  clear hb_
  clear hcga0 hcga1 hcga2 hcga3 hcga4 hcga5 hcga6 hcga7 gzga
  go_wp2_with fail
  obtain ⟨W5, hW5⟩ : ∃ W_, W_ = w5.alloc (.cells #[.int .i64 y, .int .i64 m, .int .i64 (d + 1), .int .i64 0, .int .i64 0, .float .f64 r6', .int .i64 wd2, .int .i64 r8'] 37) := ⟨_, rfl⟩
  have HBW5 := Aside0.mk (show Below w.heap.size w W5 from by rw [hW5]; exact HBw5.out.alloc HBw5.out.size _)
  have Kgb0 := Aside0.mk (show W5.heap[w5.heap.size]? = some (.cells #[.int .i64 y, .int .i64 m, .int .i64 (d + 1), .int .i64 0, .int .i64 0, .float .f64 r6', .int .i64 wd2, .int .i64 r8'] 37) from by rw [hW5]; exact Array.getElem?_push_size)
  have HGgb := Aside0.mk (show W5.heap.size = w5.heap.size + 1 from by rw [hW5]; simp)
  have HK5 := Aside0.mk (show W5.heap[ga]? = some (.cells #[.int .i64 y, .int .i64 m, .int .i64 d, .int .i64 0, .int .i64 0, .float .f64 r6, .int .i64 wd, .int .i64 r8] 37) from by rw [hW5]; exact blk_al Kga3.out)
  rw [← hW5]
  clear hW5
  generalize w5.heap.size = gb at *
  have Kga4 := Aside0.mk (show W5.heap[ga]? = some (.cells #[.int .i64 y, .int .i64 m, .int .i64 d, .int .i64 0, .int .i64 0, .float .f64 r6, .int .i64 wd, .int .i64 r8] 37) from HK5.out)
  clear Kga3 HK5
  refine (calendar_Length.calls y m L _ Chlen.out).mono ?_
  rintro e w6 ⟨rfl, hb_⟩
  have HBw6 := Aside0.mk (show Below w.heap.size w w6 from HBW5.out.trans (hb_.mono HBW5.out.size))
  have Kga5 := Aside0.mk (keep_blk hb_ Kga4.out)
  clear Kga4
  have Kgb1 := Aside0.mk (keep_blk hb_ Kgb0.out)
  clear Kgb0
  clear hb_
  go_wp2_with fail
  refine (calendar_Weeks.calls 500 n iso wk s1 s2 0 _ Chw1.out).mono ?_
  rintro e w7 ⟨rfl, hb_⟩
  replace hb_ := Drawn0.below hb_
  have HBw7 := Aside0.mk (show Below w.heap.size w w7 from HBw6.out.trans (hb_.mono HBw6.out.size))
  have Kga6 := Aside0.mk (keep_blk hb_ Kga5.out)
  have Kgb2 := Aside0.mk (keep_blk hb_ Kgb1.out)
  clear Kga5 Kgb1 hb_
  go_wp2_with fail
  refine (calendar_Weeks.calls 500 (n + 1) iso wk s3 s4 0 _ Chw2.out).mono ?_
  rintro e w8 ⟨rfl, hb_⟩
  replace hb_ := Drawn0.below hb_
  have HBw8 := Aside0.mk (show Below w.heap.size w w8 from HBw7.out.trans (hb_.mono HBw7.out.size))
  have Kga7 := Aside0.mk (keep_blk hb_ Kga6.out)
  have Kgb3 := Aside0.mk (keep_blk hb_ Kgb2.out)
  clear Kga6 Kgb2 hb_
  have gzga : ga < w8.heap.size := by obtain ⟨h, _⟩ := Array.getElem?_eq_some_iff.1 Kga7.out; exact h
  have hcga0 : w8.cell? ⟨ga, 0, none⟩ = some (.int .i64 y) := (blk_cell Kga7.out 0).trans rfl
  have hcga1 : w8.cell? ⟨ga, 1, none⟩ = some (.int .i64 m) := (blk_cell Kga7.out 1).trans rfl
  have hcga2 : w8.cell? ⟨ga, 2, none⟩ = some (.int .i64 d) := (blk_cell Kga7.out 2).trans rfl
  have hcga3 : w8.cell? ⟨ga, 3, none⟩ = some (.int .i64 0) := (blk_cell Kga7.out 3).trans rfl
  have hcga4 : w8.cell? ⟨ga, 4, none⟩ = some (.int .i64 0) := (blk_cell Kga7.out 4).trans rfl
  have hcga5 : w8.cell? ⟨ga, 5, none⟩ = some (.float .f64 r6) := (blk_cell Kga7.out 5).trans rfl
  have hcga6 : w8.cell? ⟨ga, 6, none⟩ = some (.int .i64 wd) := (blk_cell Kga7.out 6).trans rfl
  have hcga7 : w8.cell? ⟨ga, 7, none⟩ = some (.int .i64 r8) := (blk_cell Kga7.out 7).trans rfl
  have gzgb : gb < w8.heap.size := by obtain ⟨h, _⟩ := Array.getElem?_eq_some_iff.1 Kgb3.out; exact h
  have hcgb0 : w8.cell? ⟨gb, 0, none⟩ = some (.int .i64 y) := (blk_cell Kgb3.out 0).trans rfl
  have hcgb1 : w8.cell? ⟨gb, 1, none⟩ = some (.int .i64 m) := (blk_cell Kgb3.out 1).trans rfl
  have hcgb2 : w8.cell? ⟨gb, 2, none⟩ = some (.int .i64 (d + 1)) := (blk_cell Kgb3.out 2).trans rfl
  have hcgb3 : w8.cell? ⟨gb, 3, none⟩ = some (.int .i64 0) := (blk_cell Kgb3.out 3).trans rfl
  have hcgb4 : w8.cell? ⟨gb, 4, none⟩ = some (.int .i64 0) := (blk_cell Kgb3.out 4).trans rfl
  have hcgb5 : w8.cell? ⟨gb, 5, none⟩ = some (.float .f64 r6') := (blk_cell Kgb3.out 5).trans rfl
  have hcgb6 : w8.cell? ⟨gb, 6, none⟩ = some (.int .i64 wd2) := (blk_cell Kgb3.out 6).trans rfl
  have hcgb7 : w8.cell? ⟨gb, 7, none⟩ = some (.int .i64 r8') := (blk_cell Kgb3.out 7).trans rfl
  go_wp2_with fail
  refine (colanderlaw11_heads.calls true _ rfl).mono ?_
  rintro e w9 ⟨rfl, hb_⟩
  have HBw9 := Aside0.mk (show Below w.heap.size w w9 from HBw8.out.trans (hb_.mono HBw8.out.size))
  clear hb_
  go_wp2_with fail
  go_ret
  exact ⟨rfl, HBw9.out⟩

set_option maxHeartbeats 8000000 in
set_option maxRecDepth 100000 in
theorem next_s2f (n y m d r8 r8' iso wk s1 s2 s3 s4 : Int) (r6 r6' : Nat) (n0 : -4371587 ≤ n) (n1 : n + 1 ≤ 2932896) (yb0 : -9999 ≤ y) (yb1 : y ≤ 9999) (mb0 : 0 ≤ m) (mb1 : m ≤ 11) (db0 : 1 ≤ d) (db1 : d ≤ 31) (ib0 : -20000 ≤ iso) (ib1 : iso ≤ 20000) (kb0 : 0 ≤ wk) (kb1 : wk ≤ 1000) (hd : calendar_Date.f 500 n = some (y, m, d, 0)) (hs : calendar_Split.f 500 (floatOfInt .f64 (n * 86400)) = some (y, m, d, 0, 0, r6, 0, r8, 0))
    (hz : calendar_Date.f 500 (n + 146097) = some (y + 400, m, d, 0)) (hd2 : calendar_Date.f 500 (n + 1) = some (y, m, d + 1, 0)) (hs2 : calendar_Split.f 500 (floatOfInt .f64 ((n + 1) * 86400)) = some (y, m, d + 1, 0, 0, r6', 1, r8', 0)) (L : Int) (hL : (d == L) = false) (hlen : calendar_Length.f y m = some L) 
    (hw1 : calendar_Weeks.f 500 n = some (iso, wk, s1, s2, 0)) (hw2 : calendar_Weeks.f 500 (n + 1) = some (iso, wk + 1, s3, s4, 0)) (w : World) :
    Calls Try.prog 8 #[.int .i64 n] w fun e w' => e = .returned (.bool true) ∧ Below w.heap.size w w' := by
  have Chd := Aside0.mk hd
  have Chs := Aside0.mk hs
  have Chz := Aside0.mk hz
  have Chd2 := Aside0.mk hd2
  have Chs2 := Aside0.mk hs2
  have Chlen := Aside0.mk hlen
  have Chw1 := Aside0.mk hw1
  have Chw2 := Aside0.mk hw2
  clear hd hs hz hd2 hs2 hlen hw1 hw2
  have hne : (wk == wk + 1) = false := by rw [beq_eq_false_iff_ne]; omega
  go_enter Try.func8, Try.ntmps8
  go_wp2_with fail
  refine (calendar_Date.calls 500 n y m d 0 _ Chd.out).mono ?_
  rintro e w1 ⟨rfl, hb_⟩
  replace hb_ := Drawn0.below hb_
  have HBw1 := Aside0.mk (show Below w.heap.size w w1 from hb_)
  clear hb_
  go_wp2_with fail
  refine (calendar_Split.calls 500 (floatOfInt .f64 (n * 86400)) y m d 0 0 r6 0 r8 0 _ Chs.out).mono ?_
  rintro e w2 ⟨rfl, hb_⟩
  have HBw2 := Aside0.mk (show Below w.heap.size w w2 from HBw1.out.trans (hb_.mono HBw1.out.size))
  clear hb_
  go_wp2_with fail
  obtain ⟨W2, hW2⟩ : ∃ W_, W_ = w2.alloc (.cells #[.int .i64 y, .int .i64 m, .int .i64 d, .int .i64 0, .int .i64 0, .float .f64 r6, .int .i64 0, .int .i64 r8] 37) := ⟨_, rfl⟩
  have HBW2 := Aside0.mk (show Below w.heap.size w W2 from by rw [hW2]; exact HBw2.out.alloc HBw2.out.size _)
  have Kga0 := Aside0.mk (show W2.heap[w2.heap.size]? = some (.cells #[.int .i64 y, .int .i64 m, .int .i64 d, .int .i64 0, .int .i64 0, .float .f64 r6, .int .i64 0, .int .i64 r8] 37) from by rw [hW2]; exact Array.getElem?_push_size)
  have HGga := Aside0.mk (show W2.heap.size = w2.heap.size + 1 from by rw [hW2]; simp)
  rw [← hW2]
  clear hW2
  generalize w2.heap.size = ga at *
  refine (calendar_Date.calls 500 (n + 146097) (y + 400) m d 0 _ Chz.out).mono ?_
  rintro e w3 ⟨rfl, hb_⟩
  replace hb_ := Drawn0.below hb_
  have HBw3 := Aside0.mk (show Below w.heap.size w w3 from HBW2.out.trans (hb_.mono HBW2.out.size))
  have Kga1 := Aside0.mk (keep_blk hb_ Kga0.out)
  clear Kga0
  clear hb_
  have gzga : ga < w3.heap.size := by obtain ⟨h, _⟩ := Array.getElem?_eq_some_iff.1 Kga1.out; exact h
  have hcga0 : w3.cell? ⟨ga, 0, none⟩ = some (.int .i64 y) := (blk_cell Kga1.out 0).trans rfl
  have hcga1 : w3.cell? ⟨ga, 1, none⟩ = some (.int .i64 m) := (blk_cell Kga1.out 1).trans rfl
  have hcga2 : w3.cell? ⟨ga, 2, none⟩ = some (.int .i64 d) := (blk_cell Kga1.out 2).trans rfl
  have hcga3 : w3.cell? ⟨ga, 3, none⟩ = some (.int .i64 0) := (blk_cell Kga1.out 3).trans rfl
  have hcga4 : w3.cell? ⟨ga, 4, none⟩ = some (.int .i64 0) := (blk_cell Kga1.out 4).trans rfl
  have hcga5 : w3.cell? ⟨ga, 5, none⟩ = some (.float .f64 r6) := (blk_cell Kga1.out 5).trans rfl
  have hcga6 : w3.cell? ⟨ga, 6, none⟩ = some (.int .i64 0) := (blk_cell Kga1.out 6).trans rfl
  have hcga7 : w3.cell? ⟨ga, 7, none⟩ = some (.int .i64 r8) := (blk_cell Kga1.out 7).trans rfl
  go_wp2_with fail
  refine (calendar_Date.calls 500 (n + 1) y m (d + 1) 0 _ Chd2.out).mono ?_
  rintro e w4 ⟨rfl, hb_⟩
  replace hb_ := Drawn0.below hb_
  have HBw4 := Aside0.mk (show Below w.heap.size w w4 from HBw3.out.trans (hb_.mono HBw3.out.size))
  have Kga2 := Aside0.mk (keep_blk hb_ Kga1.out)
  clear Kga1
  clear hb_
  go_wp2_with fail
  refine (calendar_Split.calls 500 (floatOfInt .f64 ((n + 1) * 86400)) y m (d + 1) 0 0 r6' 1 r8' 0 _ Chs2.out).mono ?_
  rintro e w5 ⟨rfl, hb_⟩
  have HBw5 := Aside0.mk (show Below w.heap.size w w5 from HBw4.out.trans (hb_.mono HBw4.out.size))
  have Kga3 := Aside0.mk (keep_blk hb_ Kga2.out)
  clear Kga2
  clear hb_
  clear hcga0 hcga1 hcga2 hcga3 hcga4 hcga5 hcga6 hcga7 gzga
  go_wp2_with fail
  obtain ⟨W5, hW5⟩ : ∃ W_, W_ = w5.alloc (.cells #[.int .i64 y, .int .i64 m, .int .i64 (d + 1), .int .i64 0, .int .i64 0, .float .f64 r6', .int .i64 1, .int .i64 r8'] 37) := ⟨_, rfl⟩
  have HBW5 := Aside0.mk (show Below w.heap.size w W5 from by rw [hW5]; exact HBw5.out.alloc HBw5.out.size _)
  have Kgb0 := Aside0.mk (show W5.heap[w5.heap.size]? = some (.cells #[.int .i64 y, .int .i64 m, .int .i64 (d + 1), .int .i64 0, .int .i64 0, .float .f64 r6', .int .i64 1, .int .i64 r8'] 37) from by rw [hW5]; exact Array.getElem?_push_size)
  have HGgb := Aside0.mk (show W5.heap.size = w5.heap.size + 1 from by rw [hW5]; simp)
  have HK5 := Aside0.mk (show W5.heap[ga]? = some (.cells #[.int .i64 y, .int .i64 m, .int .i64 d, .int .i64 0, .int .i64 0, .float .f64 r6, .int .i64 0, .int .i64 r8] 37) from by rw [hW5]; exact blk_al Kga3.out)
  rw [← hW5]
  clear hW5
  generalize w5.heap.size = gb at *
  have Kga4 := Aside0.mk (show W5.heap[ga]? = some (.cells #[.int .i64 y, .int .i64 m, .int .i64 d, .int .i64 0, .int .i64 0, .float .f64 r6, .int .i64 0, .int .i64 r8] 37) from HK5.out)
  clear Kga3 HK5
  refine (calendar_Length.calls y m L _ Chlen.out).mono ?_
  rintro e w6 ⟨rfl, hb_⟩
  have HBw6 := Aside0.mk (show Below w.heap.size w w6 from HBW5.out.trans (hb_.mono HBW5.out.size))
  have Kga5 := Aside0.mk (keep_blk hb_ Kga4.out)
  clear Kga4
  have Kgb1 := Aside0.mk (keep_blk hb_ Kgb0.out)
  clear Kgb0
  clear hb_
  go_wp2_with fail
  refine (calendar_Weeks.calls 500 n iso wk s1 s2 0 _ Chw1.out).mono ?_
  rintro e w7 ⟨rfl, hb_⟩
  replace hb_ := Drawn0.below hb_
  have HBw7 := Aside0.mk (show Below w.heap.size w w7 from HBw6.out.trans (hb_.mono HBw6.out.size))
  have Kga6 := Aside0.mk (keep_blk hb_ Kga5.out)
  have Kgb2 := Aside0.mk (keep_blk hb_ Kgb1.out)
  clear Kga5 Kgb1 hb_
  go_wp2_with fail
  refine (calendar_Weeks.calls 500 (n + 1) iso (wk + 1) s3 s4 0 _ Chw2.out).mono ?_
  rintro e w8 ⟨rfl, hb_⟩
  replace hb_ := Drawn0.below hb_
  have HBw8 := Aside0.mk (show Below w.heap.size w w8 from HBw7.out.trans (hb_.mono HBw7.out.size))
  have Kga7 := Aside0.mk (keep_blk hb_ Kga6.out)
  have Kgb3 := Aside0.mk (keep_blk hb_ Kgb2.out)
  clear Kga6 Kgb2 hb_
  have gzga : ga < w8.heap.size := by obtain ⟨h, _⟩ := Array.getElem?_eq_some_iff.1 Kga7.out; exact h
  have hcga0 : w8.cell? ⟨ga, 0, none⟩ = some (.int .i64 y) := (blk_cell Kga7.out 0).trans rfl
  have hcga1 : w8.cell? ⟨ga, 1, none⟩ = some (.int .i64 m) := (blk_cell Kga7.out 1).trans rfl
  have hcga2 : w8.cell? ⟨ga, 2, none⟩ = some (.int .i64 d) := (blk_cell Kga7.out 2).trans rfl
  have hcga3 : w8.cell? ⟨ga, 3, none⟩ = some (.int .i64 0) := (blk_cell Kga7.out 3).trans rfl
  have hcga4 : w8.cell? ⟨ga, 4, none⟩ = some (.int .i64 0) := (blk_cell Kga7.out 4).trans rfl
  have hcga5 : w8.cell? ⟨ga, 5, none⟩ = some (.float .f64 r6) := (blk_cell Kga7.out 5).trans rfl
  have hcga6 : w8.cell? ⟨ga, 6, none⟩ = some (.int .i64 0) := (blk_cell Kga7.out 6).trans rfl
  have hcga7 : w8.cell? ⟨ga, 7, none⟩ = some (.int .i64 r8) := (blk_cell Kga7.out 7).trans rfl
  have gzgb : gb < w8.heap.size := by obtain ⟨h, _⟩ := Array.getElem?_eq_some_iff.1 Kgb3.out; exact h
  have hcgb0 : w8.cell? ⟨gb, 0, none⟩ = some (.int .i64 y) := (blk_cell Kgb3.out 0).trans rfl
  have hcgb1 : w8.cell? ⟨gb, 1, none⟩ = some (.int .i64 m) := (blk_cell Kgb3.out 1).trans rfl
  have hcgb2 : w8.cell? ⟨gb, 2, none⟩ = some (.int .i64 (d + 1)) := (blk_cell Kgb3.out 2).trans rfl
  have hcgb3 : w8.cell? ⟨gb, 3, none⟩ = some (.int .i64 0) := (blk_cell Kgb3.out 3).trans rfl
  have hcgb4 : w8.cell? ⟨gb, 4, none⟩ = some (.int .i64 0) := (blk_cell Kgb3.out 4).trans rfl
  have hcgb5 : w8.cell? ⟨gb, 5, none⟩ = some (.float .f64 r6') := (blk_cell Kgb3.out 5).trans rfl
  have hcgb6 : w8.cell? ⟨gb, 6, none⟩ = some (.int .i64 1) := (blk_cell Kgb3.out 6).trans rfl
  have hcgb7 : w8.cell? ⟨gb, 7, none⟩ = some (.int .i64 r8') := (blk_cell Kgb3.out 7).trans rfl
  go_wp2_with fail
  refine (colanderlaw11_heads.calls true _ rfl).mono ?_
  rintro e w9 ⟨rfl, hb_⟩
  have HBw9 := Aside0.mk (show Below w.heap.size w w9 from HBw8.out.trans (hb_.mono HBw8.out.size))
  clear hb_
  go_wp2_with fail
  go_ret
  exact ⟨rfl, HBw9.out⟩

set_option maxHeartbeats 8000000 in
set_option maxRecDepth 100000 in
theorem next_s2n (n y m d r8 r8' iso wk s1 s2 s3 s4 : Int) (r6 r6' : Nat) (n0 : -4371587 ≤ n) (n1 : n + 1 ≤ 2932896) (yb0 : -9999 ≤ y) (yb1 : y ≤ 9999) (mb0 : 0 ≤ m) (mb1 : m ≤ 11) (db0 : 1 ≤ d) (db1 : d ≤ 31) (ib0 : -20000 ≤ iso) (ib1 : iso ≤ 20000) (kb0 : 0 ≤ wk) (kb1 : wk ≤ 1000) (hd : calendar_Date.f 500 n = some (y, m, d, 0)) (hs : calendar_Split.f 500 (floatOfInt .f64 (n * 86400)) = some (y, m, d, 0, 0, r6, 0, r8, 0))
    (hz : calendar_Date.f 500 (n + 146097) = some (0, 0, 0, 110)) (hd2 : calendar_Date.f 500 (n + 1) = some (y, m, d + 1, 0)) (hs2 : calendar_Split.f 500 (floatOfInt .f64 ((n + 1) * 86400)) = some (y, m, d + 1, 0, 0, r6', 1, r8', 0)) (L : Int) (hL : (d == L) = false) (hlen : calendar_Length.f y m = some L) 
    (hw1 : calendar_Weeks.f 500 n = some (iso, wk, s1, s2, 0)) (hw2 : calendar_Weeks.f 500 (n + 1) = some (iso, wk + 1, s3, s4, 0)) (w : World) :
    Calls Try.prog 8 #[.int .i64 n] w fun e w' => e = .returned (.bool true) ∧ Below w.heap.size w w' := by
  have Chd := Aside0.mk hd
  have Chs := Aside0.mk hs
  have Chz := Aside0.mk hz
  have Chd2 := Aside0.mk hd2
  have Chs2 := Aside0.mk hs2
  have Chlen := Aside0.mk hlen
  have Chw1 := Aside0.mk hw1
  have Chw2 := Aside0.mk hw2
  clear hd hs hz hd2 hs2 hlen hw1 hw2
  have hne : (wk == wk + 1) = false := by rw [beq_eq_false_iff_ne]; omega
  go_enter Try.func8, Try.ntmps8
  go_wp2_with fail
  refine (calendar_Date.calls 500 n y m d 0 _ Chd.out).mono ?_
  rintro e w1 ⟨rfl, hb_⟩
  replace hb_ := Drawn0.below hb_
  have HBw1 := Aside0.mk (show Below w.heap.size w w1 from hb_)
  clear hb_
  go_wp2_with fail
  refine (calendar_Split.calls 500 (floatOfInt .f64 (n * 86400)) y m d 0 0 r6 0 r8 0 _ Chs.out).mono ?_
  rintro e w2 ⟨rfl, hb_⟩
  have HBw2 := Aside0.mk (show Below w.heap.size w w2 from HBw1.out.trans (hb_.mono HBw1.out.size))
  clear hb_
  go_wp2_with fail
  obtain ⟨W2, hW2⟩ : ∃ W_, W_ = w2.alloc (.cells #[.int .i64 y, .int .i64 m, .int .i64 d, .int .i64 0, .int .i64 0, .float .f64 r6, .int .i64 0, .int .i64 r8] 37) := ⟨_, rfl⟩
  have HBW2 := Aside0.mk (show Below w.heap.size w W2 from by rw [hW2]; exact HBw2.out.alloc HBw2.out.size _)
  have Kga0 := Aside0.mk (show W2.heap[w2.heap.size]? = some (.cells #[.int .i64 y, .int .i64 m, .int .i64 d, .int .i64 0, .int .i64 0, .float .f64 r6, .int .i64 0, .int .i64 r8] 37) from by rw [hW2]; exact Array.getElem?_push_size)
  have HGga := Aside0.mk (show W2.heap.size = w2.heap.size + 1 from by rw [hW2]; simp)
  rw [← hW2]
  clear hW2
  generalize w2.heap.size = ga at *
  refine (calendar_Date.calls 500 (n + 146097) 0 0 0 110 _ Chz.out).mono ?_
  rintro e w3 ⟨rfl, hb_⟩
  replace hb_ := Drawn0.below hb_
  have HBw3 := Aside0.mk (show Below w.heap.size w w3 from HBW2.out.trans (hb_.mono HBW2.out.size))
  have Kga1 := Aside0.mk (keep_blk hb_ Kga0.out)
  clear Kga0
  clear hb_
  have gzga : ga < w3.heap.size := by obtain ⟨h, _⟩ := Array.getElem?_eq_some_iff.1 Kga1.out; exact h
  have hcga0 : w3.cell? ⟨ga, 0, none⟩ = some (.int .i64 y) := (blk_cell Kga1.out 0).trans rfl
  have hcga1 : w3.cell? ⟨ga, 1, none⟩ = some (.int .i64 m) := (blk_cell Kga1.out 1).trans rfl
  have hcga2 : w3.cell? ⟨ga, 2, none⟩ = some (.int .i64 d) := (blk_cell Kga1.out 2).trans rfl
  have hcga3 : w3.cell? ⟨ga, 3, none⟩ = some (.int .i64 0) := (blk_cell Kga1.out 3).trans rfl
  have hcga4 : w3.cell? ⟨ga, 4, none⟩ = some (.int .i64 0) := (blk_cell Kga1.out 4).trans rfl
  have hcga5 : w3.cell? ⟨ga, 5, none⟩ = some (.float .f64 r6) := (blk_cell Kga1.out 5).trans rfl
  have hcga6 : w3.cell? ⟨ga, 6, none⟩ = some (.int .i64 0) := (blk_cell Kga1.out 6).trans rfl
  have hcga7 : w3.cell? ⟨ga, 7, none⟩ = some (.int .i64 r8) := (blk_cell Kga1.out 7).trans rfl
  go_wp2_with fail
  refine (calendar_Date.calls 500 (n + 1) y m (d + 1) 0 _ Chd2.out).mono ?_
  rintro e w4 ⟨rfl, hb_⟩
  replace hb_ := Drawn0.below hb_
  have HBw4 := Aside0.mk (show Below w.heap.size w w4 from HBw3.out.trans (hb_.mono HBw3.out.size))
  have Kga2 := Aside0.mk (keep_blk hb_ Kga1.out)
  clear Kga1
  clear hb_
  go_wp2_with fail
  refine (calendar_Split.calls 500 (floatOfInt .f64 ((n + 1) * 86400)) y m (d + 1) 0 0 r6' 1 r8' 0 _ Chs2.out).mono ?_
  rintro e w5 ⟨rfl, hb_⟩
  have HBw5 := Aside0.mk (show Below w.heap.size w w5 from HBw4.out.trans (hb_.mono HBw4.out.size))
  have Kga3 := Aside0.mk (keep_blk hb_ Kga2.out)
  clear Kga2
  clear hb_
  clear hcga0 hcga1 hcga2 hcga3 hcga4 hcga5 hcga6 hcga7 gzga
  go_wp2_with fail
  obtain ⟨W5, hW5⟩ : ∃ W_, W_ = w5.alloc (.cells #[.int .i64 y, .int .i64 m, .int .i64 (d + 1), .int .i64 0, .int .i64 0, .float .f64 r6', .int .i64 1, .int .i64 r8'] 37) := ⟨_, rfl⟩
  have HBW5 := Aside0.mk (show Below w.heap.size w W5 from by rw [hW5]; exact HBw5.out.alloc HBw5.out.size _)
  have Kgb0 := Aside0.mk (show W5.heap[w5.heap.size]? = some (.cells #[.int .i64 y, .int .i64 m, .int .i64 (d + 1), .int .i64 0, .int .i64 0, .float .f64 r6', .int .i64 1, .int .i64 r8'] 37) from by rw [hW5]; exact Array.getElem?_push_size)
  have HGgb := Aside0.mk (show W5.heap.size = w5.heap.size + 1 from by rw [hW5]; simp)
  have HK5 := Aside0.mk (show W5.heap[ga]? = some (.cells #[.int .i64 y, .int .i64 m, .int .i64 d, .int .i64 0, .int .i64 0, .float .f64 r6, .int .i64 0, .int .i64 r8] 37) from by rw [hW5]; exact blk_al Kga3.out)
  rw [← hW5]
  clear hW5
  generalize w5.heap.size = gb at *
  have Kga4 := Aside0.mk (show W5.heap[ga]? = some (.cells #[.int .i64 y, .int .i64 m, .int .i64 d, .int .i64 0, .int .i64 0, .float .f64 r6, .int .i64 0, .int .i64 r8] 37) from HK5.out)
  clear Kga3 HK5
  refine (calendar_Length.calls y m L _ Chlen.out).mono ?_
  rintro e w6 ⟨rfl, hb_⟩
  have HBw6 := Aside0.mk (show Below w.heap.size w w6 from HBW5.out.trans (hb_.mono HBW5.out.size))
  have Kga5 := Aside0.mk (keep_blk hb_ Kga4.out)
  clear Kga4
  have Kgb1 := Aside0.mk (keep_blk hb_ Kgb0.out)
  clear Kgb0
  clear hb_
  go_wp2_with fail
  refine (calendar_Weeks.calls 500 n iso wk s1 s2 0 _ Chw1.out).mono ?_
  rintro e w7 ⟨rfl, hb_⟩
  replace hb_ := Drawn0.below hb_
  have HBw7 := Aside0.mk (show Below w.heap.size w w7 from HBw6.out.trans (hb_.mono HBw6.out.size))
  have Kga6 := Aside0.mk (keep_blk hb_ Kga5.out)
  have Kgb2 := Aside0.mk (keep_blk hb_ Kgb1.out)
  clear Kga5 Kgb1 hb_
  go_wp2_with fail
  refine (calendar_Weeks.calls 500 (n + 1) iso (wk + 1) s3 s4 0 _ Chw2.out).mono ?_
  rintro e w8 ⟨rfl, hb_⟩
  replace hb_ := Drawn0.below hb_
  have HBw8 := Aside0.mk (show Below w.heap.size w w8 from HBw7.out.trans (hb_.mono HBw7.out.size))
  have Kga7 := Aside0.mk (keep_blk hb_ Kga6.out)
  have Kgb3 := Aside0.mk (keep_blk hb_ Kgb2.out)
  clear Kga6 Kgb2 hb_
  have gzga : ga < w8.heap.size := by obtain ⟨h, _⟩ := Array.getElem?_eq_some_iff.1 Kga7.out; exact h
  have hcga0 : w8.cell? ⟨ga, 0, none⟩ = some (.int .i64 y) := (blk_cell Kga7.out 0).trans rfl
  have hcga1 : w8.cell? ⟨ga, 1, none⟩ = some (.int .i64 m) := (blk_cell Kga7.out 1).trans rfl
  have hcga2 : w8.cell? ⟨ga, 2, none⟩ = some (.int .i64 d) := (blk_cell Kga7.out 2).trans rfl
  have hcga3 : w8.cell? ⟨ga, 3, none⟩ = some (.int .i64 0) := (blk_cell Kga7.out 3).trans rfl
  have hcga4 : w8.cell? ⟨ga, 4, none⟩ = some (.int .i64 0) := (blk_cell Kga7.out 4).trans rfl
  have hcga5 : w8.cell? ⟨ga, 5, none⟩ = some (.float .f64 r6) := (blk_cell Kga7.out 5).trans rfl
  have hcga6 : w8.cell? ⟨ga, 6, none⟩ = some (.int .i64 0) := (blk_cell Kga7.out 6).trans rfl
  have hcga7 : w8.cell? ⟨ga, 7, none⟩ = some (.int .i64 r8) := (blk_cell Kga7.out 7).trans rfl
  have gzgb : gb < w8.heap.size := by obtain ⟨h, _⟩ := Array.getElem?_eq_some_iff.1 Kgb3.out; exact h
  have hcgb0 : w8.cell? ⟨gb, 0, none⟩ = some (.int .i64 y) := (blk_cell Kgb3.out 0).trans rfl
  have hcgb1 : w8.cell? ⟨gb, 1, none⟩ = some (.int .i64 m) := (blk_cell Kgb3.out 1).trans rfl
  have hcgb2 : w8.cell? ⟨gb, 2, none⟩ = some (.int .i64 (d + 1)) := (blk_cell Kgb3.out 2).trans rfl
  have hcgb3 : w8.cell? ⟨gb, 3, none⟩ = some (.int .i64 0) := (blk_cell Kgb3.out 3).trans rfl
  have hcgb4 : w8.cell? ⟨gb, 4, none⟩ = some (.int .i64 0) := (blk_cell Kgb3.out 4).trans rfl
  have hcgb5 : w8.cell? ⟨gb, 5, none⟩ = some (.float .f64 r6') := (blk_cell Kgb3.out 5).trans rfl
  have hcgb6 : w8.cell? ⟨gb, 6, none⟩ = some (.int .i64 1) := (blk_cell Kgb3.out 6).trans rfl
  have hcgb7 : w8.cell? ⟨gb, 7, none⟩ = some (.int .i64 r8') := (blk_cell Kgb3.out 7).trans rfl
  go_wp2_with fail
  refine (colanderlaw11_heads.calls true _ rfl).mono ?_
  rintro e w9 ⟨rfl, hb_⟩
  have HBw9 := Aside0.mk (show Below w.heap.size w w9 from HBw8.out.trans (hb_.mono HBw8.out.size))
  clear hb_
  go_wp2_with fail
  go_ret
  exact ⟨rfl, HBw9.out⟩

set_option maxHeartbeats 8000000 in
set_option maxRecDepth 100000 in
theorem next_s3f (n y m d r8 r8' iso wk s1 s2 s3 s4 : Int) (r6 r6' : Nat) (n0 : -4371587 ≤ n) (n1 : n + 1 ≤ 2932896) (yb0 : -9999 ≤ y) (yb1 : y ≤ 9999) (mb0 : 0 ≤ m) (mb1 : m ≤ 11) (db0 : 1 ≤ d) (db1 : d ≤ 31) (ib0 : -20000 ≤ iso) (ib1 : iso ≤ 20000) (kb0 : 0 ≤ wk) (kb1 : wk ≤ 1000) (hd : calendar_Date.f 500 n = some (y, m, d, 0)) (hs : calendar_Split.f 500 (floatOfInt .f64 (n * 86400)) = some (y, m, d, 0, 0, r6, 0, r8, 0))
    (hz : calendar_Date.f 500 (n + 146097) = some (y + 400, m, d, 0)) (hd2 : calendar_Date.f 500 (n + 1) = some (y, m, d + 1, 0)) (hs2 : calendar_Split.f 500 (floatOfInt .f64 ((n + 1) * 86400)) = some (y, m, d + 1, 0, 0, r6', 1, r8', 0)) (L : Int) (hL : (d == L) = false) (hlen : calendar_Length.f y m = some L) (h52 : 52 ≤ wk)
    (hw1 : calendar_Weeks.f 500 n = some (iso, wk, s1, s2, 0)) (hw2 : calendar_Weeks.f 500 (n + 1) = some (iso + 1, 1, s3, s4, 0)) (w : World) :
    Calls Try.prog 8 #[.int .i64 n] w fun e w' => e = .returned (.bool true) ∧ Below w.heap.size w w' := by
  have Chd := Aside0.mk hd
  have Chs := Aside0.mk hs
  have Chz := Aside0.mk hz
  have Chd2 := Aside0.mk hd2
  have Chs2 := Aside0.mk hs2
  have Chlen := Aside0.mk hlen
  have Chw1 := Aside0.mk hw1
  have Chw2 := Aside0.mk hw2
  clear hd hs hz hd2 hs2 hlen hw1 hw2
  go_enter Try.func8, Try.ntmps8
  go_wp2_with fail
  refine (calendar_Date.calls 500 n y m d 0 _ Chd.out).mono ?_
  rintro e w1 ⟨rfl, hb_⟩
  replace hb_ := Drawn0.below hb_
  have HBw1 := Aside0.mk (show Below w.heap.size w w1 from hb_)
  clear hb_
  go_wp2_with fail
  refine (calendar_Split.calls 500 (floatOfInt .f64 (n * 86400)) y m d 0 0 r6 0 r8 0 _ Chs.out).mono ?_
  rintro e w2 ⟨rfl, hb_⟩
  have HBw2 := Aside0.mk (show Below w.heap.size w w2 from HBw1.out.trans (hb_.mono HBw1.out.size))
  clear hb_
  go_wp2_with fail
  obtain ⟨W2, hW2⟩ : ∃ W_, W_ = w2.alloc (.cells #[.int .i64 y, .int .i64 m, .int .i64 d, .int .i64 0, .int .i64 0, .float .f64 r6, .int .i64 0, .int .i64 r8] 37) := ⟨_, rfl⟩
  have HBW2 := Aside0.mk (show Below w.heap.size w W2 from by rw [hW2]; exact HBw2.out.alloc HBw2.out.size _)
  have Kga0 := Aside0.mk (show W2.heap[w2.heap.size]? = some (.cells #[.int .i64 y, .int .i64 m, .int .i64 d, .int .i64 0, .int .i64 0, .float .f64 r6, .int .i64 0, .int .i64 r8] 37) from by rw [hW2]; exact Array.getElem?_push_size)
  have HGga := Aside0.mk (show W2.heap.size = w2.heap.size + 1 from by rw [hW2]; simp)
  rw [← hW2]
  clear hW2
  generalize w2.heap.size = ga at *
  refine (calendar_Date.calls 500 (n + 146097) (y + 400) m d 0 _ Chz.out).mono ?_
  rintro e w3 ⟨rfl, hb_⟩
  replace hb_ := Drawn0.below hb_
  have HBw3 := Aside0.mk (show Below w.heap.size w w3 from HBW2.out.trans (hb_.mono HBW2.out.size))
  have Kga1 := Aside0.mk (keep_blk hb_ Kga0.out)
  clear Kga0
  clear hb_
  have gzga : ga < w3.heap.size := by obtain ⟨h, _⟩ := Array.getElem?_eq_some_iff.1 Kga1.out; exact h
  have hcga0 : w3.cell? ⟨ga, 0, none⟩ = some (.int .i64 y) := (blk_cell Kga1.out 0).trans rfl
  have hcga1 : w3.cell? ⟨ga, 1, none⟩ = some (.int .i64 m) := (blk_cell Kga1.out 1).trans rfl
  have hcga2 : w3.cell? ⟨ga, 2, none⟩ = some (.int .i64 d) := (blk_cell Kga1.out 2).trans rfl
  have hcga3 : w3.cell? ⟨ga, 3, none⟩ = some (.int .i64 0) := (blk_cell Kga1.out 3).trans rfl
  have hcga4 : w3.cell? ⟨ga, 4, none⟩ = some (.int .i64 0) := (blk_cell Kga1.out 4).trans rfl
  have hcga5 : w3.cell? ⟨ga, 5, none⟩ = some (.float .f64 r6) := (blk_cell Kga1.out 5).trans rfl
  have hcga6 : w3.cell? ⟨ga, 6, none⟩ = some (.int .i64 0) := (blk_cell Kga1.out 6).trans rfl
  have hcga7 : w3.cell? ⟨ga, 7, none⟩ = some (.int .i64 r8) := (blk_cell Kga1.out 7).trans rfl
  go_wp2_with fail
  refine (calendar_Date.calls 500 (n + 1) y m (d + 1) 0 _ Chd2.out).mono ?_
  rintro e w4 ⟨rfl, hb_⟩
  replace hb_ := Drawn0.below hb_
  have HBw4 := Aside0.mk (show Below w.heap.size w w4 from HBw3.out.trans (hb_.mono HBw3.out.size))
  have Kga2 := Aside0.mk (keep_blk hb_ Kga1.out)
  clear Kga1
  clear hb_
  go_wp2_with fail
  refine (calendar_Split.calls 500 (floatOfInt .f64 ((n + 1) * 86400)) y m (d + 1) 0 0 r6' 1 r8' 0 _ Chs2.out).mono ?_
  rintro e w5 ⟨rfl, hb_⟩
  have HBw5 := Aside0.mk (show Below w.heap.size w w5 from HBw4.out.trans (hb_.mono HBw4.out.size))
  have Kga3 := Aside0.mk (keep_blk hb_ Kga2.out)
  clear Kga2
  clear hb_
  clear hcga0 hcga1 hcga2 hcga3 hcga4 hcga5 hcga6 hcga7 gzga
  go_wp2_with fail
  obtain ⟨W5, hW5⟩ : ∃ W_, W_ = w5.alloc (.cells #[.int .i64 y, .int .i64 m, .int .i64 (d + 1), .int .i64 0, .int .i64 0, .float .f64 r6', .int .i64 1, .int .i64 r8'] 37) := ⟨_, rfl⟩
  have HBW5 := Aside0.mk (show Below w.heap.size w W5 from by rw [hW5]; exact HBw5.out.alloc HBw5.out.size _)
  have Kgb0 := Aside0.mk (show W5.heap[w5.heap.size]? = some (.cells #[.int .i64 y, .int .i64 m, .int .i64 (d + 1), .int .i64 0, .int .i64 0, .float .f64 r6', .int .i64 1, .int .i64 r8'] 37) from by rw [hW5]; exact Array.getElem?_push_size)
  have HGgb := Aside0.mk (show W5.heap.size = w5.heap.size + 1 from by rw [hW5]; simp)
  have HK5 := Aside0.mk (show W5.heap[ga]? = some (.cells #[.int .i64 y, .int .i64 m, .int .i64 d, .int .i64 0, .int .i64 0, .float .f64 r6, .int .i64 0, .int .i64 r8] 37) from by rw [hW5]; exact blk_al Kga3.out)
  rw [← hW5]
  clear hW5
  generalize w5.heap.size = gb at *
  have Kga4 := Aside0.mk (show W5.heap[ga]? = some (.cells #[.int .i64 y, .int .i64 m, .int .i64 d, .int .i64 0, .int .i64 0, .float .f64 r6, .int .i64 0, .int .i64 r8] 37) from HK5.out)
  clear Kga3 HK5
  refine (calendar_Length.calls y m L _ Chlen.out).mono ?_
  rintro e w6 ⟨rfl, hb_⟩
  have HBw6 := Aside0.mk (show Below w.heap.size w w6 from HBW5.out.trans (hb_.mono HBW5.out.size))
  have Kga5 := Aside0.mk (keep_blk hb_ Kga4.out)
  clear Kga4
  have Kgb1 := Aside0.mk (keep_blk hb_ Kgb0.out)
  clear Kgb0
  clear hb_
  go_wp2_with fail
  refine (calendar_Weeks.calls 500 n iso wk s1 s2 0 _ Chw1.out).mono ?_
  rintro e w7 ⟨rfl, hb_⟩
  replace hb_ := Drawn0.below hb_
  have HBw7 := Aside0.mk (show Below w.heap.size w w7 from HBw6.out.trans (hb_.mono HBw6.out.size))
  have Kga6 := Aside0.mk (keep_blk hb_ Kga5.out)
  have Kgb2 := Aside0.mk (keep_blk hb_ Kgb1.out)
  clear Kga5 Kgb1 hb_
  go_wp2_with fail
  refine (calendar_Weeks.calls 500 (n + 1) (iso + 1) 1 s3 s4 0 _ Chw2.out).mono ?_
  rintro e w8 ⟨rfl, hb_⟩
  replace hb_ := Drawn0.below hb_
  have HBw8 := Aside0.mk (show Below w.heap.size w w8 from HBw7.out.trans (hb_.mono HBw7.out.size))
  have Kga7 := Aside0.mk (keep_blk hb_ Kga6.out)
  have Kgb3 := Aside0.mk (keep_blk hb_ Kgb2.out)
  clear Kga6 Kgb2 hb_
  have gzga : ga < w8.heap.size := by obtain ⟨h, _⟩ := Array.getElem?_eq_some_iff.1 Kga7.out; exact h
  have hcga0 : w8.cell? ⟨ga, 0, none⟩ = some (.int .i64 y) := (blk_cell Kga7.out 0).trans rfl
  have hcga1 : w8.cell? ⟨ga, 1, none⟩ = some (.int .i64 m) := (blk_cell Kga7.out 1).trans rfl
  have hcga2 : w8.cell? ⟨ga, 2, none⟩ = some (.int .i64 d) := (blk_cell Kga7.out 2).trans rfl
  have hcga3 : w8.cell? ⟨ga, 3, none⟩ = some (.int .i64 0) := (blk_cell Kga7.out 3).trans rfl
  have hcga4 : w8.cell? ⟨ga, 4, none⟩ = some (.int .i64 0) := (blk_cell Kga7.out 4).trans rfl
  have hcga5 : w8.cell? ⟨ga, 5, none⟩ = some (.float .f64 r6) := (blk_cell Kga7.out 5).trans rfl
  have hcga6 : w8.cell? ⟨ga, 6, none⟩ = some (.int .i64 0) := (blk_cell Kga7.out 6).trans rfl
  have hcga7 : w8.cell? ⟨ga, 7, none⟩ = some (.int .i64 r8) := (blk_cell Kga7.out 7).trans rfl
  have gzgb : gb < w8.heap.size := by obtain ⟨h, _⟩ := Array.getElem?_eq_some_iff.1 Kgb3.out; exact h
  have hcgb0 : w8.cell? ⟨gb, 0, none⟩ = some (.int .i64 y) := (blk_cell Kgb3.out 0).trans rfl
  have hcgb1 : w8.cell? ⟨gb, 1, none⟩ = some (.int .i64 m) := (blk_cell Kgb3.out 1).trans rfl
  have hcgb2 : w8.cell? ⟨gb, 2, none⟩ = some (.int .i64 (d + 1)) := (blk_cell Kgb3.out 2).trans rfl
  have hcgb3 : w8.cell? ⟨gb, 3, none⟩ = some (.int .i64 0) := (blk_cell Kgb3.out 3).trans rfl
  have hcgb4 : w8.cell? ⟨gb, 4, none⟩ = some (.int .i64 0) := (blk_cell Kgb3.out 4).trans rfl
  have hcgb5 : w8.cell? ⟨gb, 5, none⟩ = some (.float .f64 r6') := (blk_cell Kgb3.out 5).trans rfl
  have hcgb6 : w8.cell? ⟨gb, 6, none⟩ = some (.int .i64 1) := (blk_cell Kgb3.out 6).trans rfl
  have hcgb7 : w8.cell? ⟨gb, 7, none⟩ = some (.int .i64 r8') := (blk_cell Kgb3.out 7).trans rfl
  go_wp2_with fail
  refine (colanderlaw11_heads.calls true _ rfl).mono ?_
  rintro e w9 ⟨rfl, hb_⟩
  have HBw9 := Aside0.mk (show Below w.heap.size w w9 from HBw8.out.trans (hb_.mono HBw8.out.size))
  clear hb_
  go_wp2_with fail
  go_ret
  exact ⟨rfl, HBw9.out⟩

set_option maxHeartbeats 8000000 in
set_option maxRecDepth 100000 in
theorem next_s3n (n y m d r8 r8' iso wk s1 s2 s3 s4 : Int) (r6 r6' : Nat) (n0 : -4371587 ≤ n) (n1 : n + 1 ≤ 2932896) (yb0 : -9999 ≤ y) (yb1 : y ≤ 9999) (mb0 : 0 ≤ m) (mb1 : m ≤ 11) (db0 : 1 ≤ d) (db1 : d ≤ 31) (ib0 : -20000 ≤ iso) (ib1 : iso ≤ 20000) (kb0 : 0 ≤ wk) (kb1 : wk ≤ 1000) (hd : calendar_Date.f 500 n = some (y, m, d, 0)) (hs : calendar_Split.f 500 (floatOfInt .f64 (n * 86400)) = some (y, m, d, 0, 0, r6, 0, r8, 0))
    (hz : calendar_Date.f 500 (n + 146097) = some (0, 0, 0, 110)) (hd2 : calendar_Date.f 500 (n + 1) = some (y, m, d + 1, 0)) (hs2 : calendar_Split.f 500 (floatOfInt .f64 ((n + 1) * 86400)) = some (y, m, d + 1, 0, 0, r6', 1, r8', 0)) (L : Int) (hL : (d == L) = false) (hlen : calendar_Length.f y m = some L) (h52 : 52 ≤ wk)
    (hw1 : calendar_Weeks.f 500 n = some (iso, wk, s1, s2, 0)) (hw2 : calendar_Weeks.f 500 (n + 1) = some (iso + 1, 1, s3, s4, 0)) (w : World) :
    Calls Try.prog 8 #[.int .i64 n] w fun e w' => e = .returned (.bool true) ∧ Below w.heap.size w w' := by
  have Chd := Aside0.mk hd
  have Chs := Aside0.mk hs
  have Chz := Aside0.mk hz
  have Chd2 := Aside0.mk hd2
  have Chs2 := Aside0.mk hs2
  have Chlen := Aside0.mk hlen
  have Chw1 := Aside0.mk hw1
  have Chw2 := Aside0.mk hw2
  clear hd hs hz hd2 hs2 hlen hw1 hw2
  go_enter Try.func8, Try.ntmps8
  go_wp2_with fail
  refine (calendar_Date.calls 500 n y m d 0 _ Chd.out).mono ?_
  rintro e w1 ⟨rfl, hb_⟩
  replace hb_ := Drawn0.below hb_
  have HBw1 := Aside0.mk (show Below w.heap.size w w1 from hb_)
  clear hb_
  go_wp2_with fail
  refine (calendar_Split.calls 500 (floatOfInt .f64 (n * 86400)) y m d 0 0 r6 0 r8 0 _ Chs.out).mono ?_
  rintro e w2 ⟨rfl, hb_⟩
  have HBw2 := Aside0.mk (show Below w.heap.size w w2 from HBw1.out.trans (hb_.mono HBw1.out.size))
  clear hb_
  go_wp2_with fail
  obtain ⟨W2, hW2⟩ : ∃ W_, W_ = w2.alloc (.cells #[.int .i64 y, .int .i64 m, .int .i64 d, .int .i64 0, .int .i64 0, .float .f64 r6, .int .i64 0, .int .i64 r8] 37) := ⟨_, rfl⟩
  have HBW2 := Aside0.mk (show Below w.heap.size w W2 from by rw [hW2]; exact HBw2.out.alloc HBw2.out.size _)
  have Kga0 := Aside0.mk (show W2.heap[w2.heap.size]? = some (.cells #[.int .i64 y, .int .i64 m, .int .i64 d, .int .i64 0, .int .i64 0, .float .f64 r6, .int .i64 0, .int .i64 r8] 37) from by rw [hW2]; exact Array.getElem?_push_size)
  have HGga := Aside0.mk (show W2.heap.size = w2.heap.size + 1 from by rw [hW2]; simp)
  rw [← hW2]
  clear hW2
  generalize w2.heap.size = ga at *
  refine (calendar_Date.calls 500 (n + 146097) 0 0 0 110 _ Chz.out).mono ?_
  rintro e w3 ⟨rfl, hb_⟩
  replace hb_ := Drawn0.below hb_
  have HBw3 := Aside0.mk (show Below w.heap.size w w3 from HBW2.out.trans (hb_.mono HBW2.out.size))
  have Kga1 := Aside0.mk (keep_blk hb_ Kga0.out)
  clear Kga0
  clear hb_
  have gzga : ga < w3.heap.size := by obtain ⟨h, _⟩ := Array.getElem?_eq_some_iff.1 Kga1.out; exact h
  have hcga0 : w3.cell? ⟨ga, 0, none⟩ = some (.int .i64 y) := (blk_cell Kga1.out 0).trans rfl
  have hcga1 : w3.cell? ⟨ga, 1, none⟩ = some (.int .i64 m) := (blk_cell Kga1.out 1).trans rfl
  have hcga2 : w3.cell? ⟨ga, 2, none⟩ = some (.int .i64 d) := (blk_cell Kga1.out 2).trans rfl
  have hcga3 : w3.cell? ⟨ga, 3, none⟩ = some (.int .i64 0) := (blk_cell Kga1.out 3).trans rfl
  have hcga4 : w3.cell? ⟨ga, 4, none⟩ = some (.int .i64 0) := (blk_cell Kga1.out 4).trans rfl
  have hcga5 : w3.cell? ⟨ga, 5, none⟩ = some (.float .f64 r6) := (blk_cell Kga1.out 5).trans rfl
  have hcga6 : w3.cell? ⟨ga, 6, none⟩ = some (.int .i64 0) := (blk_cell Kga1.out 6).trans rfl
  have hcga7 : w3.cell? ⟨ga, 7, none⟩ = some (.int .i64 r8) := (blk_cell Kga1.out 7).trans rfl
  go_wp2_with fail
  refine (calendar_Date.calls 500 (n + 1) y m (d + 1) 0 _ Chd2.out).mono ?_
  rintro e w4 ⟨rfl, hb_⟩
  replace hb_ := Drawn0.below hb_
  have HBw4 := Aside0.mk (show Below w.heap.size w w4 from HBw3.out.trans (hb_.mono HBw3.out.size))
  have Kga2 := Aside0.mk (keep_blk hb_ Kga1.out)
  clear Kga1
  clear hb_
  go_wp2_with fail
  refine (calendar_Split.calls 500 (floatOfInt .f64 ((n + 1) * 86400)) y m (d + 1) 0 0 r6' 1 r8' 0 _ Chs2.out).mono ?_
  rintro e w5 ⟨rfl, hb_⟩
  have HBw5 := Aside0.mk (show Below w.heap.size w w5 from HBw4.out.trans (hb_.mono HBw4.out.size))
  have Kga3 := Aside0.mk (keep_blk hb_ Kga2.out)
  clear Kga2
  clear hb_
  clear hcga0 hcga1 hcga2 hcga3 hcga4 hcga5 hcga6 hcga7 gzga
  go_wp2_with fail
  obtain ⟨W5, hW5⟩ : ∃ W_, W_ = w5.alloc (.cells #[.int .i64 y, .int .i64 m, .int .i64 (d + 1), .int .i64 0, .int .i64 0, .float .f64 r6', .int .i64 1, .int .i64 r8'] 37) := ⟨_, rfl⟩
  have HBW5 := Aside0.mk (show Below w.heap.size w W5 from by rw [hW5]; exact HBw5.out.alloc HBw5.out.size _)
  have Kgb0 := Aside0.mk (show W5.heap[w5.heap.size]? = some (.cells #[.int .i64 y, .int .i64 m, .int .i64 (d + 1), .int .i64 0, .int .i64 0, .float .f64 r6', .int .i64 1, .int .i64 r8'] 37) from by rw [hW5]; exact Array.getElem?_push_size)
  have HGgb := Aside0.mk (show W5.heap.size = w5.heap.size + 1 from by rw [hW5]; simp)
  have HK5 := Aside0.mk (show W5.heap[ga]? = some (.cells #[.int .i64 y, .int .i64 m, .int .i64 d, .int .i64 0, .int .i64 0, .float .f64 r6, .int .i64 0, .int .i64 r8] 37) from by rw [hW5]; exact blk_al Kga3.out)
  rw [← hW5]
  clear hW5
  generalize w5.heap.size = gb at *
  have Kga4 := Aside0.mk (show W5.heap[ga]? = some (.cells #[.int .i64 y, .int .i64 m, .int .i64 d, .int .i64 0, .int .i64 0, .float .f64 r6, .int .i64 0, .int .i64 r8] 37) from HK5.out)
  clear Kga3 HK5
  refine (calendar_Length.calls y m L _ Chlen.out).mono ?_
  rintro e w6 ⟨rfl, hb_⟩
  have HBw6 := Aside0.mk (show Below w.heap.size w w6 from HBW5.out.trans (hb_.mono HBW5.out.size))
  have Kga5 := Aside0.mk (keep_blk hb_ Kga4.out)
  clear Kga4
  have Kgb1 := Aside0.mk (keep_blk hb_ Kgb0.out)
  clear Kgb0
  clear hb_
  go_wp2_with fail
  refine (calendar_Weeks.calls 500 n iso wk s1 s2 0 _ Chw1.out).mono ?_
  rintro e w7 ⟨rfl, hb_⟩
  replace hb_ := Drawn0.below hb_
  have HBw7 := Aside0.mk (show Below w.heap.size w w7 from HBw6.out.trans (hb_.mono HBw6.out.size))
  have Kga6 := Aside0.mk (keep_blk hb_ Kga5.out)
  have Kgb2 := Aside0.mk (keep_blk hb_ Kgb1.out)
  clear Kga5 Kgb1 hb_
  go_wp2_with fail
  refine (calendar_Weeks.calls 500 (n + 1) (iso + 1) 1 s3 s4 0 _ Chw2.out).mono ?_
  rintro e w8 ⟨rfl, hb_⟩
  replace hb_ := Drawn0.below hb_
  have HBw8 := Aside0.mk (show Below w.heap.size w w8 from HBw7.out.trans (hb_.mono HBw7.out.size))
  have Kga7 := Aside0.mk (keep_blk hb_ Kga6.out)
  have Kgb3 := Aside0.mk (keep_blk hb_ Kgb2.out)
  clear Kga6 Kgb2 hb_
  have gzga : ga < w8.heap.size := by obtain ⟨h, _⟩ := Array.getElem?_eq_some_iff.1 Kga7.out; exact h
  have hcga0 : w8.cell? ⟨ga, 0, none⟩ = some (.int .i64 y) := (blk_cell Kga7.out 0).trans rfl
  have hcga1 : w8.cell? ⟨ga, 1, none⟩ = some (.int .i64 m) := (blk_cell Kga7.out 1).trans rfl
  have hcga2 : w8.cell? ⟨ga, 2, none⟩ = some (.int .i64 d) := (blk_cell Kga7.out 2).trans rfl
  have hcga3 : w8.cell? ⟨ga, 3, none⟩ = some (.int .i64 0) := (blk_cell Kga7.out 3).trans rfl
  have hcga4 : w8.cell? ⟨ga, 4, none⟩ = some (.int .i64 0) := (blk_cell Kga7.out 4).trans rfl
  have hcga5 : w8.cell? ⟨ga, 5, none⟩ = some (.float .f64 r6) := (blk_cell Kga7.out 5).trans rfl
  have hcga6 : w8.cell? ⟨ga, 6, none⟩ = some (.int .i64 0) := (blk_cell Kga7.out 6).trans rfl
  have hcga7 : w8.cell? ⟨ga, 7, none⟩ = some (.int .i64 r8) := (blk_cell Kga7.out 7).trans rfl
  have gzgb : gb < w8.heap.size := by obtain ⟨h, _⟩ := Array.getElem?_eq_some_iff.1 Kgb3.out; exact h
  have hcgb0 : w8.cell? ⟨gb, 0, none⟩ = some (.int .i64 y) := (blk_cell Kgb3.out 0).trans rfl
  have hcgb1 : w8.cell? ⟨gb, 1, none⟩ = some (.int .i64 m) := (blk_cell Kgb3.out 1).trans rfl
  have hcgb2 : w8.cell? ⟨gb, 2, none⟩ = some (.int .i64 (d + 1)) := (blk_cell Kgb3.out 2).trans rfl
  have hcgb3 : w8.cell? ⟨gb, 3, none⟩ = some (.int .i64 0) := (blk_cell Kgb3.out 3).trans rfl
  have hcgb4 : w8.cell? ⟨gb, 4, none⟩ = some (.int .i64 0) := (blk_cell Kgb3.out 4).trans rfl
  have hcgb5 : w8.cell? ⟨gb, 5, none⟩ = some (.float .f64 r6') := (blk_cell Kgb3.out 5).trans rfl
  have hcgb6 : w8.cell? ⟨gb, 6, none⟩ = some (.int .i64 1) := (blk_cell Kgb3.out 6).trans rfl
  have hcgb7 : w8.cell? ⟨gb, 7, none⟩ = some (.int .i64 r8') := (blk_cell Kgb3.out 7).trans rfl
  go_wp2_with fail
  refine (colanderlaw11_heads.calls true _ rfl).mono ?_
  rintro e w9 ⟨rfl, hb_⟩
  have HBw9 := Aside0.mk (show Below w.heap.size w w9 from HBw8.out.trans (hb_.mono HBw8.out.size))
  clear hb_
  go_wp2_with fail
  go_ret
  exact ⟨rfl, HBw9.out⟩
end Go.Proofs.Ytomkhipfooafnaa.P
