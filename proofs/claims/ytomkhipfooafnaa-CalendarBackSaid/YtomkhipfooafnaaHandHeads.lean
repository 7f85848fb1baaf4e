/- What must come at any rate: function heads by hand, each call by its contract at its own arguments. -/
import Derived.Test.YtomkhipfooafnaaP11
import Derived.Test.YtomkhipfooafnaaHandJoin
import Derived.Test.YtomkhipfooafnaaP1
set_option linter.unusedVariables false
namespace Go.Proofs.Ytomkhipfooafnaa.P
open Go.RowKit Go.Proofs.YtomkhipfooafnaaW.PrintWords Go.Proofs.YtomkhipfooafnaaW.PrintLast Go.Proofs.YtomkhipfooafnaaW.PrintMore
attribute [local go_sem high] eqA37
theorem keep_blk {W W' : World} {g : Nat} {o : Obj} (hb : Below W.heap.size W W') (h : W.heap[g]? = some o) : W'.heap[g]? = some o :=
  (hb.block g (by obtain ⟨h, _⟩ := Array.getElem?_eq_some_iff.1 h; exact h)).trans h
theorem fact_day1 : calendar_Day.f 2000 1 29 = some (11016, 0) := by kernel_rfl
theorem fact_day2 : calendar_Day.f 1900 1 29 = some (0, 110) := by kernel_rfl
theorem fact_date : calendar_Date.f 5 (-719528) = some (0, 0, 1, 0) := by kernel_rfl
theorem fact_split : calendar_Split.f 5 13830554455654793216 = some (1969, 11, 31, 23, 59, 4633500329122463744, 3, 364, 0) := by kernel_rfl
theorem fact_join : calendar_Join.f 2015 14 0 25 0 0 0 0 = some (1456794000, 0) := by kernel_rfl
theorem fact_day3 : calendar_Day.f 2021 0 1 = some (18628, 0) := by kernel_rfl
theorem fact_weeks : calendar_Weeks.f 5 18628 = some (2020, 53, 0, 0, 0) := by kernel_rfl
theorem fact_nan : math_NaN.f = some 9221120237041090561 := by kernel_rfl
theorem fact_splitnan : calendar_Split.f 5 9221120237041090561 = some (0, 0, 0, 0, 0, 0, 0, 0, 110) := by kernel_rfl
theorem fact_leap : calendar_Leap.f 2000 = some true := by kernel_rfl
theorem fact_length : calendar_Length.f 1900 1 = some 28 := by kernel_rfl
def colanderlaw11_heads.f : Option Bool := some true
set_option maxHeartbeats 8000000 in
set_option maxRecDepth 100000 in
theorem colanderlaw11_heads.calls (r : Bool) (w : World) (h : colanderlaw11_heads.f = some r) : Calls Try.prog 17 #[] w fun e w' => e = .returned (.bool r) ∧ Below w.heap.size w w' := by
  obtain rfl := Option.some.inj h
  go_enter Try.func17, Try.ntmps17
  go_wp2_with fail
  refine (calendar_Day.calls 2000 1 29 11016 0 _ fact_day1).mono ?_
  rintro e w1 ⟨rfl, hb_⟩
  have HBw1 := Aside0.mk (show Below w.heap.size w w1 from hb_)
  clear hb_
  go_wp2_with fail
  refine (calendar_Day.calls 1900 1 29 0 110 _ fact_day2).mono ?_
  rintro e w2 ⟨rfl, hb_⟩
  have HBw2 := Aside0.mk (show Below w.heap.size w w2 from HBw1.out.trans (hb_.mono HBw1.out.size))
  clear hb_
  go_wp2_with fail
  refine (calendar_Date.calls 5 (-719528) 0 0 1 0 _ fact_date).mono ?_
  rintro e w3 ⟨rfl, hb_⟩
  replace hb_ := Drawn0.below hb_
  have HBw3 := Aside0.mk (show Below w.heap.size w w3 from HBw2.out.trans (hb_.mono HBw2.out.size))
  clear hb_
  go_wp2_with fail
  refine (calendar_Split.calls 5 13830554455654793216 1969 11 31 23 59 4633500329122463744 3 364 0 _ fact_split).mono ?_
  rintro e w4 ⟨rfl, hb_⟩
  have HBw4 := Aside0.mk (show Below w.heap.size w w4 from HBw3.out.trans (hb_.mono HBw3.out.size))
  clear hb_
  go_wp2_with fail
  obtain ⟨W4, hW4⟩ : ∃ W4, W4 = w4.alloc (.cells #[.int .i64 1969, .int .i64 11, .int .i64 31, .int .i64 23, .int .i64 59, .float .f64 4633500329122463744, .int .i64 3, .int .i64 364] 37) := ⟨_, rfl⟩
  have HBW4 := Aside0.mk (show Below w.heap.size w W4 from by rw [hW4]; exact HBw4.out.alloc HBw4.out.size _)
  have K0 := Aside0.mk (show W4.heap[w4.heap.size]? = some (.cells #[.int .i64 1969, .int .i64 11, .int .i64 31, .int .i64 23, .int .i64 59, .float .f64 4633500329122463744, .int .i64 3, .int .i64 364] 37) from by rw [hW4]; exact Array.getElem?_push_size)
  rw [← hW4]
  clear hW4
  generalize w4.heap.size = gb at *
  refine (calendar_Join.calls 2015 14 0 25 0 0 0 0 1456794000 0 _ fact_join).mono ?_
  rintro e w5 ⟨rfl, hb_⟩
  have HBw5 := Aside0.mk (show Below w.heap.size w w5 from HBW4.out.trans (hb_.mono HBW4.out.size))
  have K1 := Aside0.mk (keep_blk hb_ K0.out)
  clear K0
  clear hb_
  go_wp2_with fail
  refine (calendar_Day.calls 2021 0 1 18628 0 _ fact_day3).mono ?_
  rintro e w6 ⟨rfl, hb_⟩
  have HBw6 := Aside0.mk (show Below w.heap.size w w6 from HBw5.out.trans (hb_.mono HBw5.out.size))
  have K2 := Aside0.mk (keep_blk hb_ K1.out)
  clear K1
  clear hb_
  go_wp2_with fail
  refine (calendar_Weeks.calls 5 18628 2020 53 0 0 0 _ fact_weeks).mono ?_
  rintro e w7 ⟨rfl, hb_⟩
  replace hb_ := Drawn0.below hb_
  have HBw7 := Aside0.mk (show Below w.heap.size w w7 from HBw6.out.trans (hb_.mono HBw6.out.size))
  have K3 := Aside0.mk (keep_blk hb_ K2.out)
  clear K2
  clear hb_
  go_wp2_with fail
  refine (math_NaN.calls 9221120237041090561 _ fact_nan).mono ?_
  rintro e w8 ⟨rfl, hb_⟩
  replace hb_ := Drawn0.below hb_
  have HBw8 := Aside0.mk (show Below w.heap.size w w8 from HBw7.out.trans (hb_.mono HBw7.out.size))
  have K4 := Aside0.mk (keep_blk hb_ K3.out)
  clear K3
  clear hb_
  go_wp2_with fail
  refine (calendar_Split.calls 5 9221120237041090561 0 0 0 0 0 0 0 0 110 _ fact_splitnan).mono ?_
  rintro e w9 ⟨rfl, hb_⟩
  have HBw9 := Aside0.mk (show Below w.heap.size w w9 from HBw8.out.trans (hb_.mono HBw8.out.size))
  have K5 := Aside0.mk (keep_blk hb_ K4.out)
  clear K4
  clear hb_
  have gz : gb < w9.heap.size := by obtain ⟨h, _⟩ := Array.getElem?_eq_some_iff.1 K5.out; exact h
  have hc0 : w9.cell? ⟨gb, 0, none⟩ = some (.int .i64 1969) := (blk_cell K5.out 0).trans rfl
  have hc1 : w9.cell? ⟨gb, 1, none⟩ = some (.int .i64 11) := (blk_cell K5.out 1).trans rfl
  have hc2 : w9.cell? ⟨gb, 2, none⟩ = some (.int .i64 31) := (blk_cell K5.out 2).trans rfl
  have hc3 : w9.cell? ⟨gb, 3, none⟩ = some (.int .i64 23) := (blk_cell K5.out 3).trans rfl
  have hc4 : w9.cell? ⟨gb, 4, none⟩ = some (.int .i64 59) := (blk_cell K5.out 4).trans rfl
  have hc5 : w9.cell? ⟨gb, 5, none⟩ = some (.float .f64 4633500329122463744) := (blk_cell K5.out 5).trans rfl
  have hc6 : w9.cell? ⟨gb, 6, none⟩ = some (.int .i64 3) := (blk_cell K5.out 6).trans rfl
  have hc7 : w9.cell? ⟨gb, 7, none⟩ = some (.int .i64 364) := (blk_cell K5.out 7).trans rfl
  go_wp2_with fail
  refine (calendar_Leap.calls 2000 true _ fact_leap).mono ?_
  rintro e w10 ⟨rfl, hb_⟩
  have HBw10 := Aside0.mk (show Below w.heap.size w w10 from (HBw9.out.alloc HBw9.out.size _).trans ((Drawn0.below hb_).mono (HBw9.out.alloc HBw9.out.size _).size))
  clear hb_
  go_wp2_with fail
  refine (calendar_Length.calls 1900 1 28 _ fact_length).mono ?_
  rintro e w11 ⟨rfl, hb_⟩
  have HBw11 := Aside0.mk (show Below w.heap.size w w11 from HBw10.out.trans (hb_.mono HBw10.out.size))
  clear hb_
  go_wp2_with fail
  go_ret
  exact ⟨rfl, HBw11.out⟩
end Go.Proofs.Ytomkhipfooafnaa.P
