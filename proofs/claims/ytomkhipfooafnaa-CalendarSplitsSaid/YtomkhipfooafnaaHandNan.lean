/- Floor and both Splits at a NaN that signals: whichever NaN floor gives back, the seconds are refused. -/
import Derived.Test.YtomkhipfooafnaaHandSplit
import Derived.Test.YtomkhipfooafnaaCalJoin
set_option linter.unusedVariables false
namespace Go.Proofs.Ytomkhipfooafnaa.P
open Go.RowKit Go.Proofs.YtomkhipfooafnaaW.PrintWords Go.Proofs.YtomkhipfooafnaaW.PrintLast Go.Proofs.YtomkhipfooafnaaW.PrintMore Go.Proofs.YtomkhipfooafnaaW.FM
theorem quiet_key (s : Bool) (t : Nat) : fkey (FloatKind.f64.encode (.nan s (FloatKind.f64.format.quiet t))) = none := by
  have e : FloatKind.f64.encode (.nan s (FloatKind.f64.format.quiet t)) = Ieee.double.word s (9218868437227405312 + (t ||| 2251799813685248) % 4503599627370496) := rfl
  rw [e]
  have q : 0 < (t ||| 2251799813685248) % 4503599627370496 := by
    have h1 : ((t ||| 2251799813685248) % 4503599627370496).testBit 51 = true := by
      have h2 : (4503599627370496 : Nat) = 2 ^ 52 := by decide
      have h3 : (2251799813685248 : Nat) = 2 ^ 51 := by decide
      rw [h2, h3, Nat.testBit_mod_two_pow, Nat.testBit_or, Nat.testBit_two_pow_self]
      simp
    apply Nat.pos_of_ne_zero
    intro h
    rw [h] at h1
    simp at h1
  have ql : (t ||| 2251799813685248) % 4503599627370496 < 4503599627370496 := Nat.mod_lt _ (by decide)
  generalize (t ||| 2251799813685248) % 4503599627370496 = f at *
  unfold fkey Ieee.Format.read Ieee.Format.word
  rw [b_sign, b_binade, b_inf, b_least]
  cases s
  · simp only [Bool.false_eq_true, if_false]
    have e2 : (9218868437227405312 + f) % 9223372036854775808 = 9218868437227405312 + f := by omega
    rw [e2, if_neg (by omega), if_neg (by omega), if_neg (by omega)]
    rfl
  · simp only [if_true]
    have e2 : (9223372036854775808 + (9218868437227405312 + f)) % 9223372036854775808 = 9218868437227405312 + f := by omega
    rw [e2, if_neg (by omega), if_neg (by omega), if_neg (by omega)]
    rfl
theorem snan_of {x : Nat} (h : wholeOk x = false) : ∃ s t, FloatKind.f64.decode x = .nan s t ∧ ¬ FloatKind.f64.format.quiet t = t := by
  unfold wholeOk at h
  cases hd : FloatKind.f64.decode x with
  | nan s t => rw [hd] at h; exact ⟨s, t, rfl, by simpa using h⟩
  | number a b c => rw [hd] at h; simp at h
  | infinity a => rw [hd] at h; simp at h
theorem run_floor_nan (x : Nat) (hx : wholeOk x = false) : ∃ g : World → Nat × World, (∀ w, (callFunc 37 #[.float .f64 x]).run Try.prog w = .ok (.value (.float .f64 (g w).1)) (g w).2) ∧ ∀ w, fkey (g w).1 = none ∧ Drawn0 w (g w).2 := by
  obtain ⟨s, t, hd, hq⟩ := snan_of hx
  have key : ∀ w : World, ∃ r : Nat × World, (callFunc 37 #[.float .f64 x]).run Try.prog w = .ok (.value (.float .f64 r.1)) r.2 ∧ fkey r.1 = none ∧ Drawn0 w r.2 := by
    intro w
    rw [run_callFunc_extern Try.func37 rfl rfl rfl (show Extern.find Try.f37 = some (Extern.MathFloor.toIntegral "math.archFloor" .down) from rfl)]
    have hk : fkey x = none := by unfold fkey; rw [show Ieee.double.read x = .nan s t from hd]; rfl
    have e : (Extern.MathFloor.toIntegral "math.archFloor" .down #[.float .f64 x]) = ((do
        let kept ← choose (.extern "math.Floor,Ceil,Trunc,RoundToEven.signallingNaN kept" 2)
        pure (.float .f64 (if kept == 1 then x else FloatKind.f64.encode (.nan s (FloatKind.f64.format.quiet t))))) : Sem Value) := by
      change ((match FloatKind.f64.decode x with
        | .nan s t => if FloatKind.f64.format.quiet t = t then pure (.float .f64 x) else do
            let kept ← choose (.extern "math.Floor,Ceil,Trunc,RoundToEven.signallingNaN kept" 2)
            pure (.float .f64 (if kept == 1 then x else FloatKind.f64.encode (.nan s (FloatKind.f64.format.quiet t))))
        | d => pure (.float .f64 (FloatKind.f64.encode (d.integral .down)))) : Sem Value) = _
      rw [hd]
      simp only [if_neg hq]
    rw [e]
    have fin : ∀ kept : Nat, fkey (if kept == 1 then x else FloatKind.f64.encode (.nan s (FloatKind.f64.format.quiet t))) = none := by
      intro kept
      split
      · exact hk
      · exact quiet_key s t
    simp only [Sem.run_bind, run_choose_drew]
    split
    · exact ⟨(if (0 : Nat) == 1 then x else FloatKind.f64.encode (.nan s (FloatKind.f64.format.quiet t)), w), rfl, fin 0, Drawn0.refl w⟩
    · exact ⟨(if (Question.cut (.extern "math.Floor,Ceil,Trunc,RoundToEven.signallingNaN kept" 2) (w.tape w.drawn (.extern "math.Floor,Ceil,Trunc,RoundToEven.signallingNaN kept" 2))) == 1 then x else FloatKind.f64.encode (.nan s (FloatKind.f64.format.quiet t)), w.drew), rfl, fin _, ⟨⟨1, rfl⟩⟩⟩
  exact ⟨fun w => (key w).choose, fun w => (key w).choose_spec.1, fun w => (key w).choose_spec.2⟩
set_option maxHeartbeats 4000000 in
theorem floor_nan (x : Nat) (hx : wholeOk x = false) (w : World) : Calls Try.prog 24 #[.float .f64 x] w fun e w' => (∃ b, fkey b = none ∧ e = .returned (.float .f64 b)) ∧ Drawn0 w w' := by
  obtain ⟨g, hg, hk⟩ := run_floor_nan x hx
  have HK := Aside0.mk hk
  clear hk hx
  go_enter Try.func24, Try.ntmps24
  go_wp2
  go_ret
  exact ⟨⟨_, (HK.out _).1, rfl⟩, (HK.out _).2⟩
set_option maxHeartbeats 8000000 in
set_option maxRecDepth 100000 in
theorem rsplit_nan (a0 : Nat) (hx : wholeOk a0 = false) (w : World) :
    Calls Try.prog 19 #[.float .f64 a0] w fun e w' => e = .returned (.tuple #[.agg #[.int .i64 0, .int .i64 0, .int .i64 0, .int .i64 0, .int .i64 0, .float .f64 0, .int .i64 0, .int .i64 0], .int .i64 110]) ∧ Below w.heap.size w w' := by
  have HX := Aside0.mk hx
  clear hx
  go_enter Try.func19, Try.ntmps19
  go_wp2_with fail
  obtain ⟨W0, hW0⟩ : ∃ W0, W0 = w.alloc (.cells #[.int .i64 0, .int .i64 0, .int .i64 0, .int .i64 0, .int .i64 0, .float .f64 0, .int .i64 0, .int .i64 0] 37) := ⟨_, rfl⟩
  have HBW0 := Aside0.mk (show Below w.heap.size w W0 from by rw [hW0]; exact (Below.refl _ _).alloc (Nat.le_refl _) _)
  have K0 := Aside0.mk (show W0.heap[w.heap.size]? = some (.cells #[.int .i64 0, .int .i64 0, .int .i64 0, .int .i64 0, .int .i64 0, .float .f64 0, .int .i64 0, .int .i64 0] 37) from by rw [hW0]; exact Array.getElem?_push_size)
  have GE := Aside0.mk (Nat.le_refl w.heap.size)
  rw [← hW0]
  clear hW0
  generalize hgb : w.heap.size = gb at K0 ⊢
  rw [hgb] at GE
  have GE' := Aside0.mk (show w.heap.size ≤ gb from by omega)
  clear GE
  refine (floor_nan a0 HX.out _).mono ?_
  rintro e w1 ⟨⟨fl, hk, rfl⟩, hb_⟩
  have hge : (FloatKind.f64.format.order fl 14054727237768577024 == some Ordering.gt || FloatKind.f64.format.order fl 14054727237768577024 == some Ordering.eq) = false := by rw [ord_ge, hk]
  clear hk
  have K1 := Aside0.mk (keep_blk hb_.below K0.out)
  have HBw1 := Aside0.mk (HBW0.out.trans (hb_.below.mono HBW0.out.size))
  clear K0 hb_
  have gz : gb < w1.heap.size := by obtain ⟨h, _⟩ := Array.getElem?_eq_some_iff.1 K1.out; exact h
  have hcz0 : w1.cell? ⟨gb, 0, none⟩ = some (.int .i64 0) := (blk_cell K1.out 0).trans rfl
  have hfz0 := blk_frozen K1.out 0
  have hcz1 : w1.cell? ⟨gb, 1, none⟩ = some (.int .i64 0) := (blk_cell K1.out 1).trans rfl
  have hfz1 := blk_frozen K1.out 1
  have hcz2 : w1.cell? ⟨gb, 2, none⟩ = some (.int .i64 0) := (blk_cell K1.out 2).trans rfl
  have hfz2 := blk_frozen K1.out 2
  have hcz3 : w1.cell? ⟨gb, 3, none⟩ = some (.int .i64 0) := (blk_cell K1.out 3).trans rfl
  have hfz3 := blk_frozen K1.out 3
  have hcz4 : w1.cell? ⟨gb, 4, none⟩ = some (.int .i64 0) := (blk_cell K1.out 4).trans rfl
  have hfz4 := blk_frozen K1.out 4
  have hcz5 : w1.cell? ⟨gb, 5, none⟩ = some (.float .f64 0) := (blk_cell K1.out 5).trans rfl
  have hfz5 := blk_frozen K1.out 5
  have hcz6 : w1.cell? ⟨gb, 6, none⟩ = some (.int .i64 0) := (blk_cell K1.out 6).trans rfl
  have hfz6 := blk_frozen K1.out 6
  have hcz7 : w1.cell? ⟨gb, 7, none⟩ = some (.int .i64 0) := (blk_cell K1.out 7).trans rfl
  have hfz7 := blk_frozen K1.out 7
  go_wp2_with fail
  have B0 := blk_put (cs := #[.int .i64 0, .int .i64 0, .int .i64 0, .int .i64 0, .int .i64 0, .float .f64 0, .int .i64 0, .int .i64 0]) (cs' := #[.int .i64 0, .int .i64 0, .int .i64 0, .int .i64 0, .int .i64 0, .float .f64 0, .int .i64 0, .int .i64 0]) K1.out 0 (.int .i64 0) rfl
  have B1 := blk_put (cs := #[.int .i64 0, .int .i64 0, .int .i64 0, .int .i64 0, .int .i64 0, .float .f64 0, .int .i64 0, .int .i64 0]) (cs' := #[.int .i64 0, .int .i64 0, .int .i64 0, .int .i64 0, .int .i64 0, .float .f64 0, .int .i64 0, .int .i64 0]) B0 1 (.int .i64 0) rfl
  have B2 := blk_put (cs := #[.int .i64 0, .int .i64 0, .int .i64 0, .int .i64 0, .int .i64 0, .float .f64 0, .int .i64 0, .int .i64 0]) (cs' := #[.int .i64 0, .int .i64 0, .int .i64 0, .int .i64 0, .int .i64 0, .float .f64 0, .int .i64 0, .int .i64 0]) B1 2 (.int .i64 0) rfl
  have B3 := blk_put (cs := #[.int .i64 0, .int .i64 0, .int .i64 0, .int .i64 0, .int .i64 0, .float .f64 0, .int .i64 0, .int .i64 0]) (cs' := #[.int .i64 0, .int .i64 0, .int .i64 0, .int .i64 0, .int .i64 0, .float .f64 0, .int .i64 0, .int .i64 0]) B2 3 (.int .i64 0) rfl
  have B4 := blk_put (cs := #[.int .i64 0, .int .i64 0, .int .i64 0, .int .i64 0, .int .i64 0, .float .f64 0, .int .i64 0, .int .i64 0]) (cs' := #[.int .i64 0, .int .i64 0, .int .i64 0, .int .i64 0, .int .i64 0, .float .f64 0, .int .i64 0, .int .i64 0]) B3 4 (.int .i64 0) rfl
  have B5 := blk_put (cs := #[.int .i64 0, .int .i64 0, .int .i64 0, .int .i64 0, .int .i64 0, .float .f64 0, .int .i64 0, .int .i64 0]) (cs' := #[.int .i64 0, .int .i64 0, .int .i64 0, .int .i64 0, .int .i64 0, .float .f64 0, .int .i64 0, .int .i64 0]) B4 5 (.float .f64 0) rfl
  have B6 := blk_put (cs := #[.int .i64 0, .int .i64 0, .int .i64 0, .int .i64 0, .int .i64 0, .float .f64 0, .int .i64 0, .int .i64 0]) (cs' := #[.int .i64 0, .int .i64 0, .int .i64 0, .int .i64 0, .int .i64 0, .float .f64 0, .int .i64 0, .int .i64 0]) B5 6 (.int .i64 0) rfl
  have B7 := blk_put (cs := #[.int .i64 0, .int .i64 0, .int .i64 0, .int .i64 0, .int .i64 0, .float .f64 0, .int .i64 0, .int .i64 0]) (cs' := #[.int .i64 0, .int .i64 0, .int .i64 0, .int .i64 0, .int .i64 0, .float .f64 0, .int .i64 0, .int .i64 0]) B6 7 (.int .i64 0) rfl
  refine bodyPost_ret (results_ct rfl _ _ gb 37 #[.int .i64 0, .int .i64 0, .int .i64 0, .int .i64 0, .int .i64 0, .float .f64 0, .int .i64 0, .int .i64 0] (0, 0) _ rfl B7 Try.underlying37 rfl (by kernel_rfl)) rfl ⟨rfl, ?_⟩
  repeat (first | (with_reducible first | exact HBw1.out | refine below_set ?_ GE'.out) | exact HBw1.out)
set_option maxHeartbeats 8000000 in
set_option maxRecDepth 100000 in
theorem split_nan (a0 : Nat) (hx : wholeOk a0 = false) (w : World) :
    Calls Try.prog 18 #[.float .f64 a0] w fun e w' => e = .returned (.tuple #[.agg #[.int .i64 0, .int .i64 0, .int .i64 0, .int .i64 0, .int .i64 0, .float .f64 0, .int .i64 0, .int .i64 0], .int .i64 110]) ∧ Below w.heap.size w w' := by
  have HX := Aside0.mk hx
  clear hx
  go_enter Try.func18, Try.ntmps18
  go_wp2_with fail
  obtain ⟨W0, hW0⟩ : ∃ W0, W0 = w.alloc (.cells #[.int .i64 0, .int .i64 0, .int .i64 0, .int .i64 0, .int .i64 0, .float .f64 0, .int .i64 0, .int .i64 0] 37) := ⟨_, rfl⟩
  have HBW0 := Aside0.mk (show Below w.heap.size w W0 from by rw [hW0]; exact (Below.refl _ _).alloc (Nat.le_refl _) _)
  have K0 := Aside0.mk (show W0.heap[w.heap.size]? = some (.cells #[.int .i64 0, .int .i64 0, .int .i64 0, .int .i64 0, .int .i64 0, .float .f64 0, .int .i64 0, .int .i64 0] 37) from by rw [hW0]; exact Array.getElem?_push_size)
  have GE := Aside0.mk (Nat.le_refl w.heap.size)
  rw [← hW0]
  clear hW0
  generalize hgb : w.heap.size = gb at K0 ⊢
  rw [hgb] at GE
  have GE' := Aside0.mk (show w.heap.size ≤ gb from by omega)
  clear GE
  refine (floor_nan a0 HX.out _).mono ?_
  rintro e w1 ⟨⟨fl, hk, rfl⟩, hb_⟩
  have HN := Aside0.mk (show math_IsNaN.f fl = some true from by rw [nan_eq, hk]; rfl)
  clear hk
  have K1 := Aside0.mk (keep_blk hb_.below K0.out)
  have HBw1 := Aside0.mk (HBW0.out.trans (hb_.below.mono HBW0.out.size))
  clear K0 hb_
  go_wp2_with fail
  refine (math_IsNaN.calls fl true _ HN.out).mono ?_
  rintro e w2 ⟨rfl, hb_⟩
  have K2 := Aside0.mk (keep_blk hb_.below K1.out)
  have HBw2 := Aside0.mk (HBw1.out.trans (hb_.below.mono HBw1.out.size))
  clear K1 hb_
  have gz : gb < w2.heap.size := by obtain ⟨h, _⟩ := Array.getElem?_eq_some_iff.1 K2.out; exact h
  have hcz0 : w2.cell? ⟨gb, 0, none⟩ = some (.int .i64 0) := (blk_cell K2.out 0).trans rfl
  have hfz0 := blk_frozen K2.out 0
  have hcz1 : w2.cell? ⟨gb, 1, none⟩ = some (.int .i64 0) := (blk_cell K2.out 1).trans rfl
  have hfz1 := blk_frozen K2.out 1
  have hcz2 : w2.cell? ⟨gb, 2, none⟩ = some (.int .i64 0) := (blk_cell K2.out 2).trans rfl
  have hfz2 := blk_frozen K2.out 2
  have hcz3 : w2.cell? ⟨gb, 3, none⟩ = some (.int .i64 0) := (blk_cell K2.out 3).trans rfl
  have hfz3 := blk_frozen K2.out 3
  have hcz4 : w2.cell? ⟨gb, 4, none⟩ = some (.int .i64 0) := (blk_cell K2.out 4).trans rfl
  have hfz4 := blk_frozen K2.out 4
  have hcz5 : w2.cell? ⟨gb, 5, none⟩ = some (.float .f64 0) := (blk_cell K2.out 5).trans rfl
  have hfz5 := blk_frozen K2.out 5
  have hcz6 : w2.cell? ⟨gb, 6, none⟩ = some (.int .i64 0) := (blk_cell K2.out 6).trans rfl
  have hfz6 := blk_frozen K2.out 6
  have hcz7 : w2.cell? ⟨gb, 7, none⟩ = some (.int .i64 0) := (blk_cell K2.out 7).trans rfl
  have hfz7 := blk_frozen K2.out 7
  go_wp2_with fail
  have B0 := blk_put (cs := #[.int .i64 0, .int .i64 0, .int .i64 0, .int .i64 0, .int .i64 0, .float .f64 0, .int .i64 0, .int .i64 0]) (cs' := #[.int .i64 0, .int .i64 0, .int .i64 0, .int .i64 0, .int .i64 0, .float .f64 0, .int .i64 0, .int .i64 0]) K2.out 0 (.int .i64 0) rfl
  have B1 := blk_put (cs := #[.int .i64 0, .int .i64 0, .int .i64 0, .int .i64 0, .int .i64 0, .float .f64 0, .int .i64 0, .int .i64 0]) (cs' := #[.int .i64 0, .int .i64 0, .int .i64 0, .int .i64 0, .int .i64 0, .float .f64 0, .int .i64 0, .int .i64 0]) B0 1 (.int .i64 0) rfl
  have B2 := blk_put (cs := #[.int .i64 0, .int .i64 0, .int .i64 0, .int .i64 0, .int .i64 0, .float .f64 0, .int .i64 0, .int .i64 0]) (cs' := #[.int .i64 0, .int .i64 0, .int .i64 0, .int .i64 0, .int .i64 0, .float .f64 0, .int .i64 0, .int .i64 0]) B1 2 (.int .i64 0) rfl
  have B3 := blk_put (cs := #[.int .i64 0, .int .i64 0, .int .i64 0, .int .i64 0, .int .i64 0, .float .f64 0, .int .i64 0, .int .i64 0]) (cs' := #[.int .i64 0, .int .i64 0, .int .i64 0, .int .i64 0, .int .i64 0, .float .f64 0, .int .i64 0, .int .i64 0]) B2 3 (.int .i64 0) rfl
  have B4 := blk_put (cs := #[.int .i64 0, .int .i64 0, .int .i64 0, .int .i64 0, .int .i64 0, .float .f64 0, .int .i64 0, .int .i64 0]) (cs' := #[.int .i64 0, .int .i64 0, .int .i64 0, .int .i64 0, .int .i64 0, .float .f64 0, .int .i64 0, .int .i64 0]) B3 4 (.int .i64 0) rfl
  have B5 := blk_put (cs := #[.int .i64 0, .int .i64 0, .int .i64 0, .int .i64 0, .int .i64 0, .float .f64 0, .int .i64 0, .int .i64 0]) (cs' := #[.int .i64 0, .int .i64 0, .int .i64 0, .int .i64 0, .int .i64 0, .float .f64 0, .int .i64 0, .int .i64 0]) B4 5 (.float .f64 0) rfl
  have B6 := blk_put (cs := #[.int .i64 0, .int .i64 0, .int .i64 0, .int .i64 0, .int .i64 0, .float .f64 0, .int .i64 0, .int .i64 0]) (cs' := #[.int .i64 0, .int .i64 0, .int .i64 0, .int .i64 0, .int .i64 0, .float .f64 0, .int .i64 0, .int .i64 0]) B5 6 (.int .i64 0) rfl
  have B7 := blk_put (cs := #[.int .i64 0, .int .i64 0, .int .i64 0, .int .i64 0, .int .i64 0, .float .f64 0, .int .i64 0, .int .i64 0]) (cs' := #[.int .i64 0, .int .i64 0, .int .i64 0, .int .i64 0, .int .i64 0, .float .f64 0, .int .i64 0, .int .i64 0]) B6 7 (.int .i64 0) rfl
  refine bodyPost_ret (results_ct rfl _ _ gb 37 #[.int .i64 0, .int .i64 0, .int .i64 0, .int .i64 0, .int .i64 0, .float .f64 0, .int .i64 0, .int .i64 0] (0, 0) _ rfl B7 Try.underlying37 rfl (by kernel_rfl)) rfl ⟨rfl, ?_⟩
  repeat (first | (with_reducible first | exact HBw2.out | refine below_set ?_ GE'.out) | exact HBw2.out)
end Go.Proofs.Ytomkhipfooafnaa.P
