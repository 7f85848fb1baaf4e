/- The statement CalendarBack holds of the given program: whole seconds that are broken down and joined are the same again, and a time inside its ranges that is joined and broken down is that time; what is handed in reads as before. Conditions: none. -/
import Derived.Test.YtomkhipfooafnaaRows
import Derived.Test.YtomkhipfooafnaaCalBack
import Derived.Test.YtomkhipfooafnaaFloatOpen
import Derived.WalkKit
import Derived.ProofKit
import Derived.OpenShut
import Derived.ShutString
import Derived.ChangeOld
import Derived.Below
import Derived.SizedLaws
set_option linter.unusedVariables false
namespace Go.Proofs.Ytomkhipfooafnaa.calendarBack
open Go.ChangeShapes Go.WideShapes Go.ChangeAt Go.RowKit Go.Proofs.YtomkhipfooafnaaW.FM
open Go.ChangeMaps (open_string shut_string)
theorem own : ownKnob Try.prog.godebug = none := by kernel_rfl
theorem laidOut : laidOutB Try.prog = true := by kernel_rfl
theorem c3 : Try.prog.cellsOf 3 = 1 := by kernel_rfl
theorem c35 : Try.prog.cellsOf 35 = 1 := by kernel_rfl
theorem c37 : Try.prog.cellsOf 37 = 8 := by kernel_rfl
theorem open_time {H : Type} {enc : TypeId × Value → H} {w : World} {r : Reach} {b0 base : Nat} {spare : Nat → Bool} {held : Bool} {v : Value} {d : DataW H} {p : List MemPlace}
    (hv : Value.okWide Try.prog w r b0 37 v) (h : DataW.Trod enc Try.prog w base spare held 37 v d p) :
    ∃ (a0 a1 a2 a3 a4 : Int) (a5 : Nat) (a6 a7 : Int), v = .agg #[.int .i64 a0, .int .i64 a1, .int .i64 a2, .int .i64 a3, .int .i64 a4, .float .f64 a5, .int .i64 a6, .int .i64 a7] ∧ a5 < 18446744073709551616 ∧
      (Lit.int .i64 a0).wf = true ∧ (Lit.int .i64 a1).wf = true ∧ (Lit.int .i64 a2).wf = true ∧ (Lit.int .i64 a3).wf = true ∧ (Lit.int .i64 a4).wf = true := by
  obtain ⟨cs, rfl, hsz⟩ := okWide_struct Try.underlying37 hv
  obtain ⟨fuel, hf⟩ := h
  obtain ⟨xs, n, _, _, hl, hlen, hf⟩ := DataW.trod_struct Try.underlying37 hf
  have hcs : (Value.cells (.agg cs)) = cs := rfl
  rw [hcs] at hf hl
  rw [c37] at hsz
  obtain ⟨l⟩ := cs
  simp only [List.size_toArray] at hf hl hsz
  match l, hsz with
  | [c0, c1, c2, c3', c4, c5, c6, c7], _ =>
    match xs, hlen with
    | [x0, x1, x2, x3, x4, x5, x6, x7], _ =>
      have f0 : DataW.trod enc Try.prog w base spare held n 3 [c0] = some x0 := by have h_ := hf 0 _ rfl; simpa [c3, c35] using h_
      have f1 : DataW.trod enc Try.prog w base spare held n 3 [c1] = some x1 := by have h_ := hf 1 _ rfl; simpa [c3, c35] using h_
      have f2 : DataW.trod enc Try.prog w base spare held n 3 [c2] = some x2 := by have h_ := hf 2 _ rfl; simpa [c3, c35] using h_
      have f3 : DataW.trod enc Try.prog w base spare held n 3 [c3'] = some x3 := by have h_ := hf 3 _ rfl; simpa [c3, c35] using h_
      have f4 : DataW.trod enc Try.prog w base spare held n 3 [c4] = some x4 := by have h_ := hf 4 _ rfl; simpa [c3, c35] using h_
      have f5 : DataW.trod enc Try.prog w base spare held n 35 [c5] = some x5 := by have h_ := hf 5 _ rfl; simpa [c3, c35] using h_
      have f6 : DataW.trod enc Try.prog w base spare held n 3 [c6] = some x6 := by have h_ := hf 6 _ rfl; simpa [c3, c35] using h_
      have f7 : DataW.trod enc Try.prog w base spare held n 3 [c7] = some x7 := by have h_ := hf 7 _ rfl; simpa [c3, c35] using h_
      obtain ⟨n0, e0, _, w0⟩ := DataW.trod_int Try.underlying3 f0
      obtain ⟨n1, e1, _, w1⟩ := DataW.trod_int Try.underlying3 f1
      obtain ⟨n2, e2, _, w2⟩ := DataW.trod_int Try.underlying3 f2
      obtain ⟨n3, e3, _, w3⟩ := DataW.trod_int Try.underlying3 f3
      obtain ⟨n4, e4, _, w4⟩ := DataW.trod_int Try.underlying3 f4
      obtain ⟨n5, e5, w5⟩ := trod_float Try.underlying35 f5
      obtain ⟨n6, e6, _, w6⟩ := DataW.trod_int Try.underlying3 f6
      obtain ⟨n7, e7, _, w7⟩ := DataW.trod_int Try.underlying3 f7
      simp at e0 e1 e2 e3 e4 e5 e6 e7
      subst e0 e1 e2 e3 e4 e5 e6 e7
      exact ⟨n0, n1, n2, n3, n4, n5, n6, n7, rfl, wf_f64 w5, w0, w1, w2, w3, w4⟩
set_option maxRecDepth 100000 in
theorem lifted (os : Os) (started : os.Started) (H : Type) (enc : TypeId × Value → H) :
    ReturnsInHanded {} Try.checked os 7 .any (Rows.calendarBackSpec.pre6 enc Try.prog Try.f7 Rows.calendarBackRow.domain false) (Rows.calendarBackSpec.post enc Try.prog Try.f7 false true false false) := by
  refine returnsInHanded_of_change_sized (C := Try.checked) own started (by kernel_rfl) Try.func7
    (ChangeSpec.witness6 (enc := enc) (C := Try.checked) false ⟨#[], #[.int .i64 0, .agg #[.int .i64 0, .int .i64 0, .int .i64 0, .int .i64 0, .int .i64 0, .float .f64 0, .int .i64 0, .int .i64 0]], []⟩ 8 (by kernel_rfl) (by kernel_rfl) (by kernel_rfl) (by kernel_rfl)) ?_
  intro W base args ds gs before hval0 hW hcnd hsz0 _
  have hsz : (DataW.weightsEach Try.prog (Try.f7.params.toList ++ Rows.calendarBackSpec.plain.varTypes Try.prog) (ds ++ gs)).all (· ≤ reachBytes) = true := hsz0
  have hval : ∀ (j : Nat) t v, Try.f7.params[j]? = some t → args[j]? = some v → Value.okWide Try.prog W .any base t v := hval0
  have hW' := hW
  obtain ⟨p, q, hA0, hV, rfl, hfz, hnd⟩ := hW
  have hA : DataW.TrodAll enc Try.prog W 0 (fun _ => true) true Try.f7.params.toList args.toList ds p := hA0
  rw [Try.params7] at hA hval hsz
  obtain ⟨v0, vs0, d0, ds0, p0, q0, hargs, rfl, rfl, h0, r0⟩ := trodAll_cons hA
  obtain ⟨v1, vs1, d1, ds1, p1, q1, rfl, rfl, rfl, h1, r1⟩ := trodAll_cons r0
  obtain ⟨rfl, rfl, rfl⟩ := trodAll_nil r1
  obtain rfl : args = #[v0, v1] := by cases args; simp_all
  obtain ⟨rfl, rfl⟩ := trodVars_none hV
  have k0 := h0
  have lt0 : ∀ x ∈ p0, x.block < W.heap.size := by obtain ⟨m, hm⟩ := k0; exact DataW.trod_lt m _ _ _ hm
  have k1 := h1
  have lt1 : ∀ x ∈ p1, x.block < W.heap.size := by obtain ⟨m, hm⟩ := k1; exact DataW.trod_lt m _ _ _ hm
  obtain ⟨s, rfl, _, _, w0⟩ := open_int Try.underlying3 (hval 0 3 v0 rfl rfl) h0
  obtain ⟨a0, a1, a2, a3, a4, a5, a6, a7, rfl, b5, _⟩ := open_time (hval 1 37 v1 rfl rfl) h1
  clear hA0 hval0 hsz0 hsz
  refine (P.colanderlaw11_CalendarBack.calls 600 s a0 a1 a2 a3 a4 a5 a6 a7 W (P.CalendarBackPure s a0 a1 a2 a3 a4 a5 a6 a7 b5)).mono fun e W' ⟨he, bel⟩ => ?_
  subst he
  exact ⟨_, rfl, _, _, _, [], _, [], hW', trodAll_mk1 (shut_bool Try.underlying4 _), (trodAll_cons_mk (Below.trod laidOut (by kernel_rfl) (of_decide_eq_true (by kernel_rfl)) k0 bel lt0) (trodAll_cons_mk (Below.trod laidOut (by kernel_rfl) (of_decide_eq_true (by kernel_rfl)) k1 bel lt1) trodAll_mk0)), rfl, bel.frame _, fun h => by cases h⟩
theorem over : Rows.calendarBackRow.holds Try.pinned (OpenSpec.ofChange Rows.calendarBackSpec) :=
  OpenClaim.holds_of_wide 7 Try.f7 rfl rfl rfl rfl rfl rfl rfl ⟨rfl, rfl, rfl, rfl, rfl⟩ rfl rfl rfl rfl rfl (by kernel_rfl) Try.func7 (by kernel_rfl)
    (of_decide_eq_true (by kernel_rfl)) (by unfold Func.isWrapper; first | (rw [if_pos (by decide +kernel)]; kernel_rfl) | (rw [if_neg (by decide +kernel)]; exact ⟨rfl, rfl⟩))
    (fun os started H enc _ => lifted os started H enc)
theorem proved : Rows.CalendarBackSaid := over
#print axioms proved
end Go.Proofs.Ytomkhipfooafnaa.calendarBack
namespace Go.Proofs.Ytomkhipfooafnaa
/-- The row, under a short name, for the claim. -/
theorem calendarBack_holds : Rows.CalendarBackSaid := calendarBack.proved
end Go.Proofs.Ytomkhipfooafnaa
