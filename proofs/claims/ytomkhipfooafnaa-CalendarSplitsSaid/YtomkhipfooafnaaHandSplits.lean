/- CalendarSplits by hand: where both Splits give the same time, with a number of seconds, and the same error, the law returns true. -/
import Derived.Test.YtomkhipfooafnaaHandNan
set_option linter.unusedVariables false
namespace Go.Proofs.Ytomkhipfooafnaa.P
open Go.RowKit Go.Proofs.YtomkhipfooafnaaW.PrintWords Go.Proofs.YtomkhipfooafnaaW.PrintLast Go.Proofs.YtomkhipfooafnaaW.PrintMore Go.Proofs.YtomkhipfooafnaaW.FM
attribute [local go_sem high] eqA37
set_option maxHeartbeats 8000000 in
set_option maxRecDepth 100000 in
theorem splits_walk (a0 : Nat) (r1 r2 r3 r4 r5 : Int) (r6 : Nat) (r7 r8 e9 : Int)
    (hs : ∀ w, Calls Try.prog 18 #[.float .f64 a0] w fun e w' => e = .returned (.tuple #[.agg #[.int .i64 r1, .int .i64 r2, .int .i64 r3, .int .i64 r4, .int .i64 r5, .float .f64 r6, .int .i64 r7, .int .i64 r8], .int .i64 e9]) ∧ Below w.heap.size w w')
    (hr : ∀ w, Calls Try.prog 19 #[.float .f64 a0] w fun e w' => e = .returned (.tuple #[.agg #[.int .i64 r1, .int .i64 r2, .int .i64 r3, .int .i64 r4, .int .i64 r5, .float .f64 r6, .int .i64 r7, .int .i64 r8], .int .i64 e9]) ∧ Below w.heap.size w w')
    (hn : (FloatKind.f64.format.order r6 r6 == some Ordering.eq) = true) (w : World) :
    Calls Try.prog 4 #[.float .f64 a0] w fun e w' => e = .returned (.bool true) ∧ Below w.heap.size w w' := by
  have HS := Aside0.mk hs
  have HR := Aside0.mk hr
  clear hs hr
  go_enter Try.func4, Try.ntmps4
  go_wp2_with fail
  refine (HS.out _).mono ?_
  rintro e w1 ⟨rfl, hb_⟩
  have HBw1 := Aside0.mk (show Below w.heap.size w w1 from hb_)
  clear hb_
  go_wp2_with fail
  obtain ⟨W1, hW1⟩ : ∃ W1, W1 = w1.alloc (.cells #[.int .i64 r1, .int .i64 r2, .int .i64 r3, .int .i64 r4, .int .i64 r5, .float .f64 r6, .int .i64 r7, .int .i64 r8] 37) := ⟨_, rfl⟩
  have HBW1 := Aside0.mk (show Below w.heap.size w W1 from by rw [hW1]; exact HBw1.out.alloc HBw1.out.size _)
  have K0 := Aside0.mk (show W1.heap[w1.heap.size]? = some (.cells #[.int .i64 r1, .int .i64 r2, .int .i64 r3, .int .i64 r4, .int .i64 r5, .float .f64 r6, .int .i64 r7, .int .i64 r8] 37) from by rw [hW1]; exact Array.getElem?_push_size)
  rw [← hW1]
  clear hW1
  generalize w1.heap.size = gb at *
  refine (HR.out _).mono ?_
  rintro e w2 ⟨rfl, hb_⟩
  have HBw2 := Aside0.mk (HBW1.out.trans (hb_.mono HBW1.out.size))
  have K1 := Aside0.mk (keep_blk hb_ K0.out)
  clear hb_ K0
  have gz : gb < w2.heap.size := by obtain ⟨h, _⟩ := Array.getElem?_eq_some_iff.1 K1.out; exact h
  have hc0 : w2.cell? ⟨gb, 0, none⟩ = some (.int .i64 r1) := (blk_cell K1.out 0).trans rfl
  have hc1 : w2.cell? ⟨gb, 1, none⟩ = some (.int .i64 r2) := (blk_cell K1.out 1).trans rfl
  have hc2 : w2.cell? ⟨gb, 2, none⟩ = some (.int .i64 r3) := (blk_cell K1.out 2).trans rfl
  have hc3 : w2.cell? ⟨gb, 3, none⟩ = some (.int .i64 r4) := (blk_cell K1.out 3).trans rfl
  have hc4 : w2.cell? ⟨gb, 4, none⟩ = some (.int .i64 r5) := (blk_cell K1.out 4).trans rfl
  have hc5 : w2.cell? ⟨gb, 5, none⟩ = some (.float .f64 r6) := (blk_cell K1.out 5).trans rfl
  have hc6 : w2.cell? ⟨gb, 6, none⟩ = some (.int .i64 r7) := (blk_cell K1.out 6).trans rfl
  have hc7 : w2.cell? ⟨gb, 7, none⟩ = some (.int .i64 r8) := (blk_cell K1.out 7).trans rfl
  go_wp2_with fail
  refine (colanderlaw11_heads.calls true _ rfl).mono ?_
  rintro e w3 ⟨rfl, hb_⟩
  have HBw3 := Aside0.mk ((HBw2.out.alloc HBw2.out.size _).trans (hb_.mono (HBw2.out.alloc HBw2.out.size _).size))
  clear hb_
  go_wp2_with fail
  go_ret
  exact ⟨rfl, HBw3.out⟩
end Go.Proofs.Ytomkhipfooafnaa.P
