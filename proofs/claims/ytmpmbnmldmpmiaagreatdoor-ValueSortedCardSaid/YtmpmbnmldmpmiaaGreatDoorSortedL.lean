/- The law ValueSorted: Compare is an order on values without NaN. -/
import Derived.Test.YtmpmbnmldmpmiaaGreatDoorOrdQ
import Derived.Test.YtmpmbnmldmpmiaaGreatDoorOrderL
set_option linter.unusedVariables false
set_option linter.unusedSimpArgs false
set_option maxRecDepth 100000
namespace Go.Proofs.YtmpmbnmldmpmiaaGreatDoor.Sim
open Go Go.RowKit Go.Proofs.YtmpmbnmldmpmiaaGreatDoor.A Go.Proofs.YtmpmbnmldmpmiaaGreatDoorW.PrintWords Go.Proofs.YtmpmbnmldmpmiaaGreatDoorW.PrintLast Go.Proofs.YtmpmbnmldmpmiaaGreatDoorW.PrintMore
set_option maxHeartbeats 1000000 in
theorem plain_gv : ∀ (d : Nat) (x : S27), rightV d x = true → ∀ (v : World) (u : Value), Vr v x u → Gv Tryz.prog 32 [u] v fun u' _ => u' = .bool (plainV d x) := by
  intro d
  induction d with
  | zero => intro x h; simp [rightV] at h
  | succ d ih =>
  intro x h v u hx
  have kids := (rightV_open h).kids
  obtain ⟨A3, c3, A4, c4, rfl, h3, h4⟩ := hx
  rw [plainV]
  refine Gv.run Tryz.func32 (by kernel_rfl) rfl rfl rfl rfl fun b hb => ?_
  subst hb
  cases hn : fNan x.f1 with
  | true =>
    have hn' : (FloatKind.f64.format.order x.f1 x.f1 == some Ordering.eq) = false := by simpa [fNan] using hn
    first | refine WpB.row (by decide) (by decide) (ev ?_) | refine WpB.seq (WpB.row (by decide) (by decide) (ev ?_)) | refine WpB.seq (WpB.seq (WpB.row (by decide) (by decide) (ev ?_))) | refine WpB.seq (WpB.seq (WpB.seq (WpB.row (by decide) (by decide) (ev ?_))))
    first | refine WpB.row (by decide) (by decide) (evh ?_) | refine WpB.seq (WpB.row (by decide) (by decide) (evh ?_)) | refine WpB.seq (WpB.seq (WpB.row (by decide) (by decide) (evh ?_))) | refine WpB.seq (WpB.seq (WpB.seq (WpB.row (by decide) (by decide) (evh ?_))))
    first | refine WpB.cond (by decide) rfl (fun _ => ?_) (fun e => by cases e) | refine WpB.seq (WpB.cond (by decide) rfl (fun _ => ?_) (fun e => by cases e)) | refine WpB.seq (WpB.seq (WpB.cond (by decide) rfl (fun _ => ?_) (fun e => by cases e))) | refine WpB.seq (WpB.seq (WpB.seq (WpB.cond (by decide) rfl (fun _ => ?_) (fun e => by cases e))))
    first | refine WpB.row (by decide) (by decide) (evh ?_) | refine WpB.seq (WpB.row (by decide) (by decide) (evh ?_)) | refine WpB.seq (WpB.seq (WpB.row (by decide) (by decide) (evh ?_))) | refine WpB.seq (WpB.seq (WpB.seq (WpB.row (by decide) (by decide) (evh ?_))))
    refine WpB.ret ⟨.inr rfl, evr ?_⟩
    trivial
  | false =>
    have hn' : (FloatKind.f64.format.order x.f1 x.f1 == some Ordering.eq) = true := by simpa [fNan] using hn
    first | refine WpB.row (by decide) (by decide) (ev ?_) | refine WpB.seq (WpB.row (by decide) (by decide) (ev ?_)) | refine WpB.seq (WpB.seq (WpB.row (by decide) (by decide) (ev ?_))) | refine WpB.seq (WpB.seq (WpB.seq (WpB.row (by decide) (by decide) (ev ?_))))
    first | refine WpB.row (by decide) (by decide) (evh ?_) | refine WpB.seq (WpB.row (by decide) (by decide) (evh ?_)) | refine WpB.seq (WpB.seq (WpB.row (by decide) (by decide) (evh ?_))) | refine WpB.seq (WpB.seq (WpB.seq (WpB.row (by decide) (by decide) (evh ?_))))
    first | refine WpB.cond (by decide) rfl (fun e => by cases e) (fun _ => WpB.skip ?_) | refine WpB.seq (WpB.cond (by decide) rfl (fun e => by cases e) (fun _ => WpB.skip ?_)) | refine WpB.seq (WpB.seq (WpB.cond (by decide) rfl (fun e => by cases e) (fun _ => WpB.skip ?_))) | refine WpB.seq (WpB.seq (WpB.seq (WpB.cond (by decide) rfl (fun e => by cases e) (fun _ => WpB.skip ?_))))
    first | refine WpB.row (by decide) (by decide) (evh ?_) | refine WpB.seq (WpB.row (by decide) (by decide) (evh ?_)) | refine WpB.seq (WpB.seq (WpB.row (by decide) (by decide) (evh ?_))) | refine WpB.seq (WpB.seq (WpB.seq (WpB.row (by decide) (by decide) (evh ?_))))
    clear hn hn'
    first | refine WpB.block ?_ | refine WpB.seq (WpB.block ?_) | refine WpB.seq (WpB.seq (WpB.block ?_)) | refine WpB.seq (WpB.seq (WpB.seq (WpB.block ?_)))
    refine WpB.loop (fun m b' F S => ∃ (i : Nat), b' = b ∧ S = ⟨[(0, .row [.s (.int .i64 x.f0), .s (.float .f64 x.f1), .s (.string x.f2), .s (.slice A3 x.f3.length c3), .s (.slice A4 x.f4.length c4)] 27 none .no)], 1, 0⟩ ∧ F 1 = .ptr 0 0 ∧ F 3 = .s (.int .i64 (i : Int)) ∧ i ≤ x.f3.length ∧ m = x.f3.length - i ∧ (x.f3.drop i).all (plainV d) = x.f3.all (plainV d)) x.f3.length ⟨0, rfl, rfl, rfl, rfl, Nat.zero_le _, rfl, rfl⟩ ?_
    rintro m b' F S ⟨i, rfl, rfl, f1, f3, hi, rfl, hp⟩
    first | refine WpB.row (by decide) (by decide) (evh ?_) | refine WpB.seq (WpB.row (by decide) (by decide) (evh ?_)) | refine WpB.seq (WpB.seq (WpB.row (by decide) (by decide) (evh ?_))) | refine WpB.seq (WpB.seq (WpB.seq (WpB.row (by decide) (by decide) (evh ?_))))
    have hmax := h3.1.2.1
    by_cases hlt : i < x.f3.length
    · obtain ⟨k', off, cs, P3, p3, P4, p4, rfl, hw, hxx, r3, r4⟩ := h3.get hlt
      have hcall := ih _ (kids _ (List.getElem_mem hlt)) _ _ ⟨P3, p3, P4, p4, rfl, r3, r4⟩
      have g0 : (0 : Int) ≤ (i : Int) := by omega
      have g1 : (i : Int) < (x.f3.length : Int) := by omega
      have d7 : IntKind.i64.wrap ((i : Int) + 1) = ((i + 1 : Nat) : Int) := by rw [IntKind.wrap_i64]; omega
      rw [List.drop_eq_getElem_cons hlt, List.all_cons] at hp
      have HP := Hide.mk hp
      clear hp r3 r4
      first | refine WpB.cond (by decide) rfl (fun _ => WpB.skip ?_) (fun e => by first | (cases e; done) | exact absurd g1 (of_decide_eq_false e)) | refine WpB.seq (WpB.cond (by decide) rfl (fun _ => WpB.skip ?_) (fun e => by first | (cases e; done) | exact absurd g1 (of_decide_eq_false e))) | refine WpB.seq (WpB.seq (WpB.cond (by decide) rfl (fun _ => WpB.skip ?_) (fun e => by first | (cases e; done) | exact absurd g1 (of_decide_eq_false e)))) | refine WpB.seq (WpB.seq (WpB.seq (WpB.cond (by decide) rfl (fun _ => WpB.skip ?_) (fun e => by first | (cases e; done) | exact absurd g1 (of_decide_eq_false e)))))
      first | refine WpB.block ?_ | refine WpB.seq (WpB.block ?_) | refine WpB.seq (WpB.seq (WpB.block ?_)) | refine WpB.seq (WpB.seq (WpB.seq (WpB.block ?_)))
      first | refine WpB.row (by decide) (by decide) (evh ?_) | refine WpB.seq (WpB.row (by decide) (by decide) (evh ?_)) | refine WpB.seq (WpB.seq (WpB.row (by decide) (by decide) (evh ?_))) | refine WpB.seq (WpB.seq (WpB.seq (WpB.row (by decide) (by decide) (evh ?_))))
      refine SeqB.callQ (by decide) (hcall.okx _) (by decide) rfl rfl rfl rfl ?_
      rintro u S' ⟨rfl, rfl⟩ _
      clear hcall
      refine evh ?_
      cases hq : plainV d x.f3[i] with
      | true =>
        have hp := HP.out
        rw [hq, Bool.true_and] at hp
        clear HP
        first | refine WpB.cond (by decide) rfl (fun e => by cases e) (fun _ => WpB.skip ?_) | refine WpB.seq (WpB.cond (by decide) rfl (fun e => by cases e) (fun _ => WpB.skip ?_)) | refine WpB.seq (WpB.seq (WpB.cond (by decide) rfl (fun e => by cases e) (fun _ => WpB.skip ?_))) | refine WpB.seq (WpB.seq (WpB.seq (WpB.cond (by decide) rfl (fun e => by cases e) (fun _ => WpB.skip ?_))))
        first | refine WpB.row (by decide) (by decide) (evh ?_) | refine WpB.seq (WpB.row (by decide) (by decide) (evh ?_)) | refine WpB.seq (WpB.seq (WpB.row (by decide) (by decide) (evh ?_))) | refine WpB.seq (WpB.seq (WpB.seq (WpB.row (by decide) (by decide) (evh ?_))))
        exact ⟨x.f3.length - (i + 1), by omega, i + 1, rfl, rfl, f1, by rw [← d7]; rfl, hlt, rfl, hp⟩
      | false =>
        first | refine WpB.cond (by decide) rfl (fun _ => ?_) (fun e => by cases e) | refine WpB.seq (WpB.cond (by decide) rfl (fun _ => ?_) (fun e => by cases e)) | refine WpB.seq (WpB.seq (WpB.cond (by decide) rfl (fun _ => ?_) (fun e => by cases e))) | refine WpB.seq (WpB.seq (WpB.seq (WpB.cond (by decide) rfl (fun _ => ?_) (fun e => by cases e))))
        first | refine WpB.row (by decide) (by decide) (evh ?_) | refine WpB.seq (WpB.row (by decide) (by decide) (evh ?_)) | refine WpB.seq (WpB.seq (WpB.row (by decide) (by decide) (evh ?_))) | refine WpB.seq (WpB.seq (WpB.seq (WpB.row (by decide) (by decide) (evh ?_))))
        refine WpB.ret ⟨.inr rfl, evr ?_⟩
        have hp := HP.out
        rw [hq, Bool.false_and] at hp
        rw [← hp]
    · have g1 : ¬ ((i : Int) < (x.f3.length : Int)) := by omega
      have HP := Hide.mk hp
      clear hp
      first | refine WpB.cond (by decide) rfl (fun e => by first | (cases e; done) | exact absurd (of_decide_eq_true e) g1) (fun _ => WpB.exit ?_) | refine WpB.seq (WpB.cond (by decide) rfl (fun e => by first | (cases e; done) | exact absurd (of_decide_eq_true e) g1) (fun _ => WpB.exit ?_)) | refine WpB.seq (WpB.seq (WpB.cond (by decide) rfl (fun e => by first | (cases e; done) | exact absurd (of_decide_eq_true e) g1) (fun _ => WpB.exit ?_))) | refine WpB.seq (WpB.seq (WpB.seq (WpB.cond (by decide) rfl (fun e => by first | (cases e; done) | exact absurd (of_decide_eq_true e) g1) (fun _ => WpB.exit ?_))))
      first | refine WpB.row (by decide) (by decide) (evh ?_) | refine WpB.seq (WpB.row (by decide) (by decide) (evh ?_)) | refine WpB.seq (WpB.seq (WpB.row (by decide) (by decide) (evh ?_))) | refine WpB.seq (WpB.seq (WpB.seq (WpB.row (by decide) (by decide) (evh ?_))))
      refine WpB.ret ⟨.inr rfl, evr ?_⟩
      have hp := HP.out
      rw [List.drop_eq_nil_of_le (by omega)] at hp
      rw [← hp]
      rfl
theorem ng1 : pureV Tryz.prog (Op.unary .neg (.int .i64 (-1))) = some (.s (.int .i64 1), .no) := by kernel_rfl
theorem ng2 : pureV Tryz.prog (Op.unary .neg (.int .i64 0)) = some (.s (.int .i64 0), .no) := by kernel_rfl
theorem ng3 : pureV Tryz.prog (Op.unary .neg (.int .i64 1)) = some (.s (.int .i64 (-1)), .no) := by kernel_rfl
set_option maxHeartbeats 8000000 in
theorem vsorted_gv {v : World} {x y z : S27} {ux uy uz : Value} (hx : Vr v x ux) (hy : Vr v y uy) (hz : Vr v z uz) (gx : G27 x) (gy : G27 y) (gz : G27 z) (hT : Tab T (Bs.of v)) : Gv Tryz.prog 7 [ux, uy, uz] v fun u _ => u = .bool true := by
  have rx := right_gv hx gx
  have ry := right_gv hy gy
  have rz := right_gv hz gz
  have hh := heads_gv hT
  have px := fun h => plain_gv 10000 x h v ux hx
  have py := fun h => plain_gv 10000 y h v uy hy
  have pz := fun h => plain_gv 10000 z h v uz hz
  have laws : rightV 10000 x = true → rightV 10000 y = true → rightV 10000 z = true → plainV 10000 x = true → plainV 10000 y = true → plainV 10000 z = true → ∃ r1 r2 r3 : Int,
      (Gv Tryz.prog 20 [ux, uy] v fun u _ => u = .int .i64 r1) ∧ (Gv Tryz.prog 20 [uy, uz] v fun u _ => u = .int .i64 r2) ∧ (Gv Tryz.prog 20 [ux, uz] v fun u _ => u = .int .i64 r3) ∧
      (Gv Tryz.prog 20 [uy, ux] v fun u _ => u = .int .i64 (-r1)) ∧ (Gv Tryz.prog 20 [ux, ux] v fun u _ => u = .int .i64 0) ∧ (Gv Tryz.prog 22 [ux, uy] v fun u _ => u = .bool (r1 == 0)) ∧
      ((r1 = -1 ∨ r1 = 0 ∨ r1 = 1) ∧ (r2 = -1 ∨ r2 = 0 ∨ r2 = 1) ∧ (r3 = -1 ∨ r3 = 0 ∨ r3 = 1)) ∧ (r1 ≤ 0 ∧ r2 ≤ 0 → r3 ≤ 0) ∧ (0 ≤ r1 ∧ 0 ≤ r2 → 0 ≤ r3) := by
    intro a1 a2 a3 a4 a5 a6
    have o := cmp_ord 10000
    have fx : Fine 10000 x := ⟨gx, a1, a4⟩
    have fy : Fine 10000 y := ⟨gy, a2, a5⟩
    have fz : Fine 10000 z := ⟨gz, a3, a6⟩
    obtain ⟨r1, e1, b1, q1⟩ := o.two x y fx fy
    obtain ⟨r2, e2, b2, q2⟩ := o.two y z fy fz
    obtain ⟨r3, e3, b3, q3⟩ := o.two x z fx fz
    refine ⟨r1, r2, r3, cmp_gv _ _ _ _ e1 v _ _ hx hy, cmp_gv _ _ _ _ e2 v _ _ hy hz, cmp_gv _ _ _ _ e3 v _ _ hx hz, cmp_gv _ _ _ _ b1 v _ _ hy hx, cmp_gv _ _ _ _ (o.self fx) v _ _ hx hx, equal_gv e1 hx hy, ⟨q1, q2, q3⟩, fun h => o.tr x y z _ _ _ fx fy fz e1 e2 e3 h.1 h.2, fun h => ?_⟩
    have := o.tr z y x _ _ _ fz fy fx b2 b1 b3 (by omega) (by omega)
    omega
  obtain ⟨A3, c3, A4, c4, rfl, h3, h4⟩ := hx
  obtain ⟨B3, d3, B4, d4, rfl, k3, k4⟩ := hy
  obtain ⟨C3, e3, C4, e4, rfl, l3, l4⟩ := hz
  refine Gv.run Tryz.func7 (by kernel_rfl) rfl rfl rfl rfl fun b hb => ?_
  subst hb
  clear h3 h4 k3 k4 l3 l4 hT gx gy gz
  have PX := Hide.mk px
  have PY := Hide.mk py
  have PZ := Hide.mk pz
  have LW := Hide.mk laws
  clear px py pz laws
  first | refine WpB.row (by decide) (by decide) (ev ?_) | refine WpB.seq (WpB.row (by decide) (by decide) (ev ?_)) | refine WpB.seq (WpB.seq (WpB.row (by decide) (by decide) (ev ?_))) | refine WpB.seq (WpB.seq (WpB.seq (WpB.row (by decide) (by decide) (ev ?_))))
  first | refine WpB.row (by decide) (by decide) (evh ?_) | refine WpB.seq (WpB.row (by decide) (by decide) (evh ?_)) | refine WpB.seq (WpB.seq (WpB.row (by decide) (by decide) (evh ?_))) | refine WpB.seq (WpB.seq (WpB.seq (WpB.row (by decide) (by decide) (evh ?_))))
  refine SeqB.callQ (by decide) (Gv.okx rx _) (by decide) rfl rfl rfl rfl ?_
  rintro u S' ⟨rfl, rfl⟩ _
  cases a1 : rightV 10000 x with
  | false =>
    refine evh ?_
    first | refine WpB.cond (by decide) rfl (fun _ => ?_) (fun e => by cases e) | refine WpB.seq (WpB.cond (by decide) rfl (fun _ => ?_) (fun e => by cases e)) | refine WpB.seq (WpB.seq (WpB.cond (by decide) rfl (fun _ => ?_) (fun e => by cases e))) | refine WpB.seq (WpB.seq (WpB.seq (WpB.cond (by decide) rfl (fun _ => ?_) (fun e => by cases e))))
    first | refine WpB.row (by decide) (by decide) (evh ?_) | refine WpB.seq (WpB.row (by decide) (by decide) (evh ?_)) | refine WpB.seq (WpB.seq (WpB.row (by decide) (by decide) (evh ?_))) | refine WpB.seq (WpB.seq (WpB.seq (WpB.row (by decide) (by decide) (evh ?_))))
    refine SeqB.callQ (by decide) (hh.okx _) (by decide) rfl rfl rfl rfl ?_
    rintro u S' ⟨rfl, rfl⟩ _
    refine evh ?_
    refine WpB.ret ⟨.inr rfl, evr ?_⟩
    trivial
  | true =>
    have A1 := Hide.mk a1
    clear a1
    refine evh ?_
    refine SeqB.callQ (by decide) (Gv.okx ry _) (by decide) rfl rfl rfl rfl ?_
    rintro u S' ⟨rfl, rfl⟩ _
    cases a2 : rightV 10000 y with
    | false =>
      refine evh ?_
      first | refine WpB.cond (by decide) rfl (fun _ => ?_) (fun e => by cases e) | refine WpB.seq (WpB.cond (by decide) rfl (fun _ => ?_) (fun e => by cases e)) | refine WpB.seq (WpB.seq (WpB.cond (by decide) rfl (fun _ => ?_) (fun e => by cases e))) | refine WpB.seq (WpB.seq (WpB.seq (WpB.cond (by decide) rfl (fun _ => ?_) (fun e => by cases e))))
      first | refine WpB.row (by decide) (by decide) (evh ?_) | refine WpB.seq (WpB.row (by decide) (by decide) (evh ?_)) | refine WpB.seq (WpB.seq (WpB.row (by decide) (by decide) (evh ?_))) | refine WpB.seq (WpB.seq (WpB.seq (WpB.row (by decide) (by decide) (evh ?_))))
      refine SeqB.callQ (by decide) (hh.okx _) (by decide) rfl rfl rfl rfl ?_
      rintro u S' ⟨rfl, rfl⟩ _
      refine evh ?_
      refine WpB.ret ⟨.inr rfl, evr ?_⟩
      trivial
    | true =>
      have A2 := Hide.mk a2
      clear a2
      refine evh ?_
      refine SeqB.callQ (by decide) (Gv.okx rz _) (by decide) rfl rfl rfl rfl ?_
      rintro u S' ⟨rfl, rfl⟩ _
      cases a3 : rightV 10000 z with
      | false =>
        refine evh ?_
        first | refine WpB.cond (by decide) rfl (fun _ => ?_) (fun e => by cases e) | refine WpB.seq (WpB.cond (by decide) rfl (fun _ => ?_) (fun e => by cases e)) | refine WpB.seq (WpB.seq (WpB.cond (by decide) rfl (fun _ => ?_) (fun e => by cases e))) | refine WpB.seq (WpB.seq (WpB.seq (WpB.cond (by decide) rfl (fun _ => ?_) (fun e => by cases e))))
        first | refine WpB.row (by decide) (by decide) (evh ?_) | refine WpB.seq (WpB.row (by decide) (by decide) (evh ?_)) | refine WpB.seq (WpB.seq (WpB.row (by decide) (by decide) (evh ?_))) | refine WpB.seq (WpB.seq (WpB.seq (WpB.row (by decide) (by decide) (evh ?_))))
        refine SeqB.callQ (by decide) (hh.okx _) (by decide) rfl rfl rfl rfl ?_
        rintro u S' ⟨rfl, rfl⟩ _
        refine evh ?_
        refine WpB.ret ⟨.inr rfl, evr ?_⟩
        trivial
      | true =>
        have A3 := Hide.mk a3
        clear a3
        refine evh ?_
        refine SeqB.callQ (by decide) (Gv.okx (PX.out A1.out) _) (by decide) rfl rfl rfl rfl ?_
        rintro u S' ⟨rfl, rfl⟩ _
        cases a4 : plainV 10000 x with
        | false =>
          refine evh ?_
          first | refine WpB.cond (by decide) rfl (fun _ => ?_) (fun e => by cases e) | refine WpB.seq (WpB.cond (by decide) rfl (fun _ => ?_) (fun e => by cases e)) | refine WpB.seq (WpB.seq (WpB.cond (by decide) rfl (fun _ => ?_) (fun e => by cases e))) | refine WpB.seq (WpB.seq (WpB.seq (WpB.cond (by decide) rfl (fun _ => ?_) (fun e => by cases e))))
          first | refine WpB.row (by decide) (by decide) (evh ?_) | refine WpB.seq (WpB.row (by decide) (by decide) (evh ?_)) | refine WpB.seq (WpB.seq (WpB.row (by decide) (by decide) (evh ?_))) | refine WpB.seq (WpB.seq (WpB.seq (WpB.row (by decide) (by decide) (evh ?_))))
          refine SeqB.callQ (by decide) (hh.okx _) (by decide) rfl rfl rfl rfl ?_
          rintro u S' ⟨rfl, rfl⟩ _
          refine evh ?_
          refine WpB.ret ⟨.inr rfl, evr ?_⟩
          trivial
        | true =>
          have A4 := Hide.mk a4
          clear a4
          refine evh ?_
          refine SeqB.callQ (by decide) (Gv.okx (PY.out A2.out) _) (by decide) rfl rfl rfl rfl ?_
          rintro u S' ⟨rfl, rfl⟩ _
          cases a5 : plainV 10000 y with
          | false =>
            refine evh ?_
            first | refine WpB.cond (by decide) rfl (fun _ => ?_) (fun e => by cases e) | refine WpB.seq (WpB.cond (by decide) rfl (fun _ => ?_) (fun e => by cases e)) | refine WpB.seq (WpB.seq (WpB.cond (by decide) rfl (fun _ => ?_) (fun e => by cases e))) | refine WpB.seq (WpB.seq (WpB.seq (WpB.cond (by decide) rfl (fun _ => ?_) (fun e => by cases e))))
            first | refine WpB.row (by decide) (by decide) (evh ?_) | refine WpB.seq (WpB.row (by decide) (by decide) (evh ?_)) | refine WpB.seq (WpB.seq (WpB.row (by decide) (by decide) (evh ?_))) | refine WpB.seq (WpB.seq (WpB.seq (WpB.row (by decide) (by decide) (evh ?_))))
            refine SeqB.callQ (by decide) (hh.okx _) (by decide) rfl rfl rfl rfl ?_
            rintro u S' ⟨rfl, rfl⟩ _
            refine evh ?_
            refine WpB.ret ⟨.inr rfl, evr ?_⟩
            trivial
          | true =>
            have A5 := Hide.mk a5
            clear a5
            refine evh ?_
            refine SeqB.callQ (by decide) (Gv.okx (PZ.out A3.out) _) (by decide) rfl rfl rfl rfl ?_
            rintro u S' ⟨rfl, rfl⟩ _
            cases a6 : plainV 10000 z with
            | false =>
              refine evh ?_
              first | refine WpB.cond (by decide) rfl (fun _ => ?_) (fun e => by cases e) | refine WpB.seq (WpB.cond (by decide) rfl (fun _ => ?_) (fun e => by cases e)) | refine WpB.seq (WpB.seq (WpB.cond (by decide) rfl (fun _ => ?_) (fun e => by cases e))) | refine WpB.seq (WpB.seq (WpB.seq (WpB.cond (by decide) rfl (fun _ => ?_) (fun e => by cases e))))
              first | refine WpB.row (by decide) (by decide) (evh ?_) | refine WpB.seq (WpB.row (by decide) (by decide) (evh ?_)) | refine WpB.seq (WpB.seq (WpB.row (by decide) (by decide) (evh ?_))) | refine WpB.seq (WpB.seq (WpB.seq (WpB.row (by decide) (by decide) (evh ?_))))
              refine SeqB.callQ (by decide) (hh.okx _) (by decide) rfl rfl rfl rfl ?_
              rintro u S' ⟨rfl, rfl⟩ _
              refine evh ?_
              refine WpB.ret ⟨.inr rfl, evr ?_⟩
              trivial
            | true =>
              have A6 := Hide.mk a6
              clear a6
              refine evh ?_
              obtain ⟨r1, r2, r3, g1, g2, g3, g4, g5, g6, ⟨q1, q2, q3⟩, t1, t2⟩ := LW.out A1.out A2.out A3.out A4.out A5.out A6.out
              have T1 := Hide.mk t1
              have T2 := Hide.mk t2
              have Q1 := Hide.mk q1
              have Q2 := Hide.mk q2
              have Q3 := Hide.mk q3
              clear t1 t2 q1 q2 q3 rx ry rz A1 A2 A3 A4 A5 A6 PX PY PZ LW
              first | refine WpB.cond (by decide) rfl (fun e => by cases e) (fun _ => WpB.skip ?_) | refine WpB.seq (WpB.cond (by decide) rfl (fun e => by cases e) (fun _ => WpB.skip ?_)) | refine WpB.seq (WpB.seq (WpB.cond (by decide) rfl (fun e => by cases e) (fun _ => WpB.skip ?_))) | refine WpB.seq (WpB.seq (WpB.seq (WpB.cond (by decide) rfl (fun e => by cases e) (fun _ => WpB.skip ?_))))
              (first | refine WpB.draw (by kernel_rfl) (by decide) [0, 1, 3, 4, 6, 7, 2, 5, 8, 9, 10, 11] (by kernel_rfl) (by kernel_rfl) (by kernel_rfl) (by kernel_rfl) (by kernel_rfl) rfl ?_ | refine WpB.seq (WpB.draw (by kernel_rfl) (by decide) [0, 1, 3, 4, 6, 7, 2, 5, 8, 9, 10, 11] (by kernel_rfl) (by kernel_rfl) (by kernel_rfl) (by kernel_rfl) (by kernel_rfl) rfl ?_) | refine WpB.seq (WpB.seq (WpB.draw (by kernel_rfl) (by decide) [0, 1, 3, 4, 6, 7, 2, 5, 8, 9, 10, 11] (by kernel_rfl) (by kernel_rfl) (by kernel_rfl) (by kernel_rfl) (by kernel_rfl) rfl ?_)) | refine WpB.seq (WpB.seq (WpB.seq (WpB.draw (by kernel_rfl) (by decide) [0, 1, 3, 4, 6, 7, 2, 5, 8, 9, 10, 11] (by kernel_rfl) (by kernel_rfl) (by kernel_rfl) (by kernel_rfl) (by kernel_rfl) rfl ?_)))); simp (config := {maxSteps := 10000000}) only [opAt, List.map_cons, List.map_nil, List.getElem?_toArray, List.getElem?_cons_succ, List.getElem?_cons_zero, Option.getD_some]; refine evhL ?_
              refine EvOC.call rfl rfl rfl (CallB.of_ok (Gv.okx (g1) _)) ?_
              rintro b1 u ⟨rfl, rfl⟩
              refine evhL ?_
              refine EvOC.call rfl rfl rfl (CallB.of_ok (Gv.okx (g2) _)) ?_
              rintro b1 u ⟨rfl, rfl⟩
              refine evhL ?_
              refine EvOC.call rfl rfl rfl (CallB.of_ok (Gv.okx (g3) _)) ?_
              rintro b1 u ⟨rfl, rfl⟩
              refine evhL ?_
              have s1 : ¬ ((-1 : Int) > 0) := by decide
              have s2 : ¬ ((0 : Int) > 0) := by decide
              have s3 : (1 : Int) > 0 := by decide
              have s4 : ¬ ((-1 : Int) ≥ 0) := by decide
              have s5 : (0 : Int) ≥ 0 := by decide
              have s6 : (1 : Int) ≥ 0 := by decide
              have s7 : ¬ ((-1 : Int) > 1) := by decide
              have s8 : ¬ ((0 : Int) > 1) := by decide
              have s9 : ¬ ((1 : Int) > 1) := by decide
              have n1 := ng1
              have n2 := ng2
              have n3 := ng3
              clear g1 g2 g3
              have t1 := T1.out
              have t2 := T2.out
              have q2 := Q2.out
              have q3 := Q3.out
              rcases Q1.out with rfl | rfl | rfl
              all_goals
                first | refine WpB.row (by decide) (by decide) (evh ?_) | refine WpB.seq (WpB.row (by decide) (by decide) (evh ?_)) | refine WpB.seq (WpB.seq (WpB.row (by decide) (by decide) (evh ?_))) | refine WpB.seq (WpB.seq (WpB.seq (WpB.row (by decide) (by decide) (evh ?_))))
                refine SeqB.callQ (by decide) (g4.okx _) (by decide) rfl rfl rfl rfl ?_
                rintro u S' ⟨rfl, rfl⟩ _
                refine evh ?_
                refine SeqB.callQ (by decide) (g5.okx _) (by decide) rfl rfl rfl rfl ?_
                rintro u S' ⟨rfl, rfl⟩ _
                refine evh ?_
                first | refine WpB.cond (by decide) rfl (fun e => by cases e) (fun _ => WpB.skip ?_) | refine WpB.seq (WpB.cond (by decide) rfl (fun e => by cases e) (fun _ => WpB.skip ?_)) | refine WpB.seq (WpB.seq (WpB.cond (by decide) rfl (fun e => by cases e) (fun _ => WpB.skip ?_))) | refine WpB.seq (WpB.seq (WpB.seq (WpB.cond (by decide) rfl (fun e => by cases e) (fun _ => WpB.skip ?_))))
                rcases q2 with rfl | rfl | rfl
                all_goals
                  rcases q3 with rfl | rfl | rfl
                  all_goals first
                    | (exfalso; omega)
                    | skip
                  all_goals
                    clear t1 t2 T1 T2 Q1 Q2 Q3
                    first | refine WpB.row (by decide) (by decide) (evh ?_) | refine WpB.seq (WpB.row (by decide) (by decide) (evh ?_)) | refine WpB.seq (WpB.seq (WpB.row (by decide) (by decide) (evh ?_))) | refine WpB.seq (WpB.seq (WpB.seq (WpB.row (by decide) (by decide) (evh ?_))))
                    first | refine WpB.cond (by decide) rfl (fun e => by cases e) (fun _ => WpB.skip ?_) | refine WpB.seq (WpB.cond (by decide) rfl (fun e => by cases e) (fun _ => WpB.skip ?_)) | refine WpB.seq (WpB.seq (WpB.cond (by decide) rfl (fun e => by cases e) (fun _ => WpB.skip ?_))) | refine WpB.seq (WpB.seq (WpB.seq (WpB.cond (by decide) rfl (fun e => by cases e) (fun _ => WpB.skip ?_))))
                    first | refine WpB.row (by decide) (by decide) (evh ?_) | refine WpB.seq (WpB.row (by decide) (by decide) (evh ?_)) | refine WpB.seq (WpB.seq (WpB.row (by decide) (by decide) (evh ?_))) | refine WpB.seq (WpB.seq (WpB.seq (WpB.row (by decide) (by decide) (evh ?_))))
                    refine SeqB.callQ (by decide) (g6.okx _) (by decide) rfl rfl rfl rfl ?_
                    rintro u S' ⟨rfl, rfl⟩ _
                    refine evh ?_
                    refine SeqB.callQ (by decide) (hh.okx _) (by decide) rfl rfl rfl rfl ?_
                    rintro u S' ⟨rfl, rfl⟩ _
                    refine evh ?_
                    refine WpB.ret ⟨.inr rfl, evr ?_⟩
                    trivial
/-- .. as a call of the world. -/
theorem sorted_calls {w : World} {x y z : S27} {ux uy uz : Value} (hx : Vr w x ux) (hy : Vr w y uy) (hz : Vr w z uz) (gx : G27 x) (gy : G27 y) (gz : G27 z) (hT : Tabs w) : Calls Tryz.prog 7 #[ux, uy, uz] w fun e w' => e = .returned (.bool true) ∧ Below w.heap.size w w' :=
  ((vsorted_gv hx hy hz gx gy gz hT.tb).calls Tryz.func7 (by kernel_rfl) rfl).mono fun e w' ⟨u, v', he, hb, _, _, hu⟩ => ⟨by rw [he, hu], hb⟩
end Go.Proofs.YtmpmbnmldmpmiaaGreatDoor.Sim
