/- program.shape by hand: its closure 'plain' by a contract of its own. -/
import Derived.Test.YtlbcnacfgickcaaGreatDoorShort
import Derived.Test.YtlbcnacfgickcaaGreatDoorA1
set_option linter.unusedVariables false
namespace Go.Proofs.YtlbcnacfgickcaaGreatDoor.A
open Go.RowKit Go.Proofs.YtlbcnacfgickcaaGreatDoorW.PrintWords Go.Proofs.YtlbcnacfgickcaaGreatDoorW.PrintLast Go.Proofs.YtlbcnacfgickcaaGreatDoorW.PrintMore Go.Proofs.YtlbcnacfgickcaaGreatDoorW.Short
attribute [local go_sem] max2_int min2_int max_two min_two max_three min_three max_four min_four
def plainF (l : List S30) (i n : Int) : Option Bool :=
  (code_inside.f n (wrap64 (i - 1))).bind fun t => if t = true then (if 0 ≤ n then (if n < (l.length : Int) then some ((R3 l n).f1 == -1) else none) else none) else some false
set_option maxHeartbeats 8000000 in
set_option maxRecDepth 100000 in
theorem plainF.calls (gi gp : Nat) (i n : Int) (A : Option Addr) (c : Nat) (l : List S30) (v1 : Value) (r : Bool) (w : World) (BI : Ae (w.heap[gi]? = some (.cells #[.int .i64 i] 3 (0, 0)))) (BP : Ae (w.heap[gp]? = some (.cells #[.slice A l.length c, v1] 58 (0, 0))))
    (HR : Ae (Kd.C k30 w A l.length l)) (h : plainF l i n = some r) :
    Calls Tryz.prog 40 #[.int .i64 n, .pointer (some ⟨gi, 0, none⟩), .pointer (some ⟨gp, 0, none⟩)] w fun e w' => e = .returned (.bool r) ∧ Drawn0 w w' := by
  have ci : w.cell? ⟨gi, 0, none⟩ = some (.int .i64 i) := (bC BI.out 0).trans rfl
  have cp : w.cell? ⟨gp, 0, none⟩ = some (.slice A l.length c) := (bC BP.out 0).trans rfl
  unfold plainF at h
  obtain ⟨t, ht, h⟩ := Option.bind_eq_some_iff.mp h
  have A1 := Ae.mk ht
  clear ht
  cases t with
  | false =>
    obtain rfl := Option.some.inj h
    go_enter Tryz.func40, Tryz.ntmps40
    go_wp2_with (go_at_call 25; refine (code_inside.calls n (wrap64 (i - 1)) false _ A1.out).mono ?_; rintro e w1 ⟨rfl, ⟨nd, rfl⟩⟩)
    go_ret
    exact ⟨rfl, ⟨nd, rfl⟩⟩
  | true =>
    simp only [if_true] at h
    by_cases h0 : 0 ≤ n
    · rw [if_pos h0] at h
      by_cases h1 : n < (l.length : Int)
      · rw [if_pos h1] at h
        obtain rfl := Option.some.inj h
        obtain ⟨ad, a5, c5, e, x0, x1, x2, x3, x4, x5, _, _⟩ := at_T30 HR.out n h0 h1
        cases e
        go_enter Tryz.func40, Tryz.ntmps40
        go_wp2_with (go_at_call 25; refine (code_inside.calls n (wrap64 (i - 1)) true _ A1.out).mono ?_; rintro e w1 ⟨rfl, ⟨nd, rfl⟩⟩)
        go_ret
        exact ⟨rfl, ⟨nd, rfl⟩⟩
      · rw [if_neg h1] at h
        exact absurd h (by simp)
    · rw [if_neg h0] at h
      exact absurd h (by simp)
def code_program_shape.f (lA : List S30) (lB : List S36) (a1 : Int) : Option Bool :=
  if 0 ≤ a1 then (if a1 < (lA.length : Int) then (if ((R3 lA a1).f5.length : Int) = 0 then some false else
    if (R3 lA a1).f1 = -1 then
      (if (R3 lA a1).f2 = -1 then some true else plainF lA a1 (R3 lA a1).f2).bind fun t => if t = true then (code_inside.f (R3 lA a1).f3 32).bind fun u => if u = true then code_inside.f (R3 lA a1).f4 32768 else some false else some false
    else (plainF lA a1 (R3 lA a1).f1).bind fun t => some (t && ((R3 lA a1).f2 == -1 && ((R3 lA a1).f3 == 0 && (R3 lA a1).f4 == 0)))) else none) else none
set_option maxHeartbeats 8000000 in
set_option maxRecDepth 100000 in
theorem code_program_shape.calls (A0_0 : Option Addr) (c0_0 : Nat) (lA : List S30) (A0_1 : Option Addr) (c0_1 : Nat) (lB : List S36) (a1 : Int) (r : Bool) (w : World) (hr0_0 : Kd.C k30 w A0_0 lA.length lA) (hc0_0 : lA.length ≤ c0_0) (hr0_1 : Kd.C k36 w A0_1 lB.length lB) (hc0_1 : lB.length ≤ c0_1) (h : code_program_shape.f lA lB a1 = some r) :
    Calls Tryz.prog 20 #[.agg #[.slice A0_0 lA.length c0_0, .slice A0_1 lB.length c0_1], .int .i64 a1] w fun e w' => e = .returned (.bool r) ∧ Below w.heap.size w w' := by
  have HR := Ae.mk hr0_0
  have HB := Ae.mk (Below.refl w.heap.size w)
  clear hr0_0 hc0_0 hr0_1 hc0_1
  unfold code_program_shape.f at h
  by_cases h0 : 0 ≤ a1
  · rw [if_pos h0] at h
    by_cases h1 : a1 < (lA.length : Int)
    · rw [if_pos h1] at h
      obtain ⟨ad, a5, c5, e, x0, x1, x2, x3, x4, x5, _, _⟩ := at_T30 HR.out a1 h0 h1
      cases e
      obtain ⟨F, hF⟩ : ∃ F, R3 lA a1 = F := ⟨_, rfl⟩
      rw [hF] at h x0 x1 x2 x3 x4 x5
      have H := Ae.mk h
      clear h hF
      have hmf : ∀ (fn : Fn) (first cap : Array Value) (w : World), (Instr.makeFunc fn first cap).run Tryz.prog w = .ok (.func fn first cap) w := fun _ _ _ _ => rfl
      have h := H.out
      clear H
      by_cases c0 : (F.f5.length : Int) = 0
      · rw [if_pos c0] at h
        obtain rfl := Option.some.inj h
        go_enter Tryz.func20, Tryz.ntmps20
        go_wp2_with (first | ((with_reducible refine gD (N := 2) rfl ?_); refine bE ?hg (N := 2) ?hd (cs := #[.slice (some ad) lA.length c0_0, .slice A0_1 lB.length c0_1]) (t := 58) ?hr ?_; (case hd => rfl); (case hg => rfl); (case hr => first | (go_simp; done) | (go_simp; rfl)); intro gp hg w1 hbox hb; have GP := Ae.mk (bez hg : w.heap.size ≤ gp); have BP := Ae.mk hbox; have HB1 := bes hb; clear HB hb hbox hg; have HB := HB1; clear HB1) | ((with_reducible refine gD (N := 3) rfl ?_); refine bE ?hg (N := 3) ?hd (cs := #[.int .i64 a1]) (t := 3) ?hr ?_; (case hd => rfl); (case hg => rfl); (case hr => first | (go_simp; done) | (go_simp; rfl)); intro gi hg w2 hbox hb; have GI := Ae.mk (bez hg : w.heap.size ≤ gi); have BI := Ae.mk hbox; have NPI := Ae.mk (nlt BP hg); have BP1 := bb BP hb; have HB1 := bes hb; clear HB BP hb hbox hg; have HB := HB1; have BP := BP1; clear HB1 BP1; have cp := (bC BP.out 0).trans rfl; have ci := (bC BI.out 0).trans rfl; replace x0 := cq HB x0; replace x1 := cq HB x1; replace x2 := cq HB x2; replace x3 := cq HB x3; replace x4 := cq HB x4; replace x5 := cq HB x5) | ((with_reducible refine gD (N := 5) rfl ?_); refine bE ?hg (N := 5) ?hd (cs := #[.string (⟨#[]⟩ : ByteArray), .int .i64 0, .int .i64 0, .int .i64 0, .int .i64 0, .slice none 0 0]) (t := 30) ?hr ?_; (case hd => rfl); (case hg => rfl); (case hr => first | (go_simp; done) | (go_simp; rfl)); intro gf hg w3 hbox hb; have GF := Ae.mk (bez hg : w.heap.size ≤ gf); have BF := Ae.mk hbox; have NPF := Ae.mk (nlt BP hg); have NIF := Ae.mk (nlt BI hg); have BP1 := bb BP hb; have BI1 := bb BI hb; have HB1 := bes hb; clear HB BP BI hb hbox hg cp ci; have HB := HB1; have BP := BP1; have BI := BI1; clear HB1 BP1 BI1; have cf0 := (bC BF.out 0).trans rfl; have ff0 := bF BF.out 0; have cf1 := (bC BF.out 1).trans rfl; have ff1 := bF BF.out 1; have cf2 := (bC BF.out 2).trans rfl; have ff2 := bF BF.out 2; have cf3 := (bC BF.out 3).trans rfl; have ff3 := bF BF.out 3; have cf4 := (bC BF.out 4).trans rfl; have ff4 := bF BF.out 4; have cf5 := (bC BF.out 5).trans rfl; have ff5 := bF BF.out 5))
        go_ret
        exact fn
      · rw [if_neg c0] at h
        by_cases c1 : F.f1 = -1
        · rw [if_pos c1] at h
          obtain ⟨t, ht, h⟩ := Option.bind_eq_some_iff.mp h
          by_cases c2 : F.f2 = -1
          · rw [if_pos c2] at ht
            obtain rfl := Option.some.inj ht
            simp only [if_true] at h
            obtain ⟨u, hu, h⟩ := Option.bind_eq_some_iff.mp h
            have P2 := Ae.mk hu
            clear ht hu
            cases u with
            | false =>
              obtain rfl := Option.some.inj h
              go_enter Tryz.func20, Tryz.ntmps20
              go_wp2_with (first | ((with_reducible refine gD (N := 2) rfl ?_); refine bE ?hg (N := 2) ?hd (cs := #[.slice (some ad) lA.length c0_0, .slice A0_1 lB.length c0_1]) (t := 58) ?hr ?_; (case hd => rfl); (case hg => rfl); (case hr => first | (go_simp; done) | (go_simp; rfl)); intro gp hg w1 hbox hb; have GP := Ae.mk (bez hg : w.heap.size ≤ gp); have BP := Ae.mk hbox; have HB1 := bes hb; clear HB hb hbox hg; have HB := HB1; clear HB1) | ((with_reducible refine gD (N := 3) rfl ?_); refine bE ?hg (N := 3) ?hd (cs := #[.int .i64 a1]) (t := 3) ?hr ?_; (case hd => rfl); (case hg => rfl); (case hr => first | (go_simp; done) | (go_simp; rfl)); intro gi hg w2 hbox hb; have GI := Ae.mk (bez hg : w.heap.size ≤ gi); have BI := Ae.mk hbox; have NPI := Ae.mk (nlt BP hg); have BP1 := bb BP hb; have HB1 := bes hb; clear HB BP hb hbox hg; have HB := HB1; have BP := BP1; clear HB1 BP1; have cp := (bC BP.out 0).trans rfl; have ci := (bC BI.out 0).trans rfl; replace x0 := cq HB x0; replace x1 := cq HB x1; replace x2 := cq HB x2; replace x3 := cq HB x3; replace x4 := cq HB x4; replace x5 := cq HB x5) | ((with_reducible refine gD (N := 5) rfl ?_); refine bE ?hg (N := 5) ?hd (cs := #[.string (⟨#[]⟩ : ByteArray), .int .i64 0, .int .i64 0, .int .i64 0, .int .i64 0, .slice none 0 0]) (t := 30) ?hr ?_; (case hd => rfl); (case hg => rfl); (case hr => first | (go_simp; done) | (go_simp; rfl)); intro gf hg w3 hbox hb; have GF := Ae.mk (bez hg : w.heap.size ≤ gf); have BF := Ae.mk hbox; have NPF := Ae.mk (nlt BP hg); have NIF := Ae.mk (nlt BI hg); have BP1 := bb BP hb; have BI1 := bb BI hb; have HB1 := bes hb; clear HB BP BI hb hbox hg cp ci; have HB := HB1; have BP := BP1; have BI := BI1; clear HB1 BP1 BI1; have cf0 := (bC BF.out 0).trans rfl; have ff0 := bF BF.out 0; have cf1 := (bC BF.out 1).trans rfl; have ff1 := bF BF.out 1; have cf2 := (bC BF.out 2).trans rfl; have ff2 := bF BF.out 2; have cf3 := (bC BF.out 3).trans rfl; have ff3 := bF BF.out 3; have cf4 := (bC BF.out 4).trans rfl; have ff4 := bF BF.out 4; have cf5 := (bC BF.out 5).trans rfl; have ff5 := bF BF.out 5) | (go_at_call 25; (with_reducible refine (code_inside.calls F.f3 32 false _ P2.out).mono ?_); rintro e w5 ⟨rfl, ⟨nd5, rfl⟩⟩))
              go_ret
              exact fn
            | true =>
              simp only [if_true] at h
              have P3 := Ae.mk h
              clear h
              go_enter Tryz.func20, Tryz.ntmps20
              go_wp2_with (first | ((with_reducible refine gD (N := 2) rfl ?_); refine bE ?hg (N := 2) ?hd (cs := #[.slice (some ad) lA.length c0_0, .slice A0_1 lB.length c0_1]) (t := 58) ?hr ?_; (case hd => rfl); (case hg => rfl); (case hr => first | (go_simp; done) | (go_simp; rfl)); intro gp hg w1 hbox hb; have GP := Ae.mk (bez hg : w.heap.size ≤ gp); have BP := Ae.mk hbox; have HB1 := bes hb; clear HB hb hbox hg; have HB := HB1; clear HB1) | ((with_reducible refine gD (N := 3) rfl ?_); refine bE ?hg (N := 3) ?hd (cs := #[.int .i64 a1]) (t := 3) ?hr ?_; (case hd => rfl); (case hg => rfl); (case hr => first | (go_simp; done) | (go_simp; rfl)); intro gi hg w2 hbox hb; have GI := Ae.mk (bez hg : w.heap.size ≤ gi); have BI := Ae.mk hbox; have NPI := Ae.mk (nlt BP hg); have BP1 := bb BP hb; have HB1 := bes hb; clear HB BP hb hbox hg; have HB := HB1; have BP := BP1; clear HB1 BP1; have cp := (bC BP.out 0).trans rfl; have ci := (bC BI.out 0).trans rfl; replace x0 := cq HB x0; replace x1 := cq HB x1; replace x2 := cq HB x2; replace x3 := cq HB x3; replace x4 := cq HB x4; replace x5 := cq HB x5) | ((with_reducible refine gD (N := 5) rfl ?_); refine bE ?hg (N := 5) ?hd (cs := #[.string (⟨#[]⟩ : ByteArray), .int .i64 0, .int .i64 0, .int .i64 0, .int .i64 0, .slice none 0 0]) (t := 30) ?hr ?_; (case hd => rfl); (case hg => rfl); (case hr => first | (go_simp; done) | (go_simp; rfl)); intro gf hg w3 hbox hb; have GF := Ae.mk (bez hg : w.heap.size ≤ gf); have BF := Ae.mk hbox; have NPF := Ae.mk (nlt BP hg); have NIF := Ae.mk (nlt BI hg); have BP1 := bb BP hb; have BI1 := bb BI hb; have HB1 := bes hb; clear HB BP BI hb hbox hg cp ci; have HB := HB1; have BP := BP1; have BI := BI1; clear HB1 BP1 BI1; have cf0 := (bC BF.out 0).trans rfl; have ff0 := bF BF.out 0; have cf1 := (bC BF.out 1).trans rfl; have ff1 := bF BF.out 1; have cf2 := (bC BF.out 2).trans rfl; have ff2 := bF BF.out 2; have cf3 := (bC BF.out 3).trans rfl; have ff3 := bF BF.out 3; have cf4 := (bC BF.out 4).trans rfl; have ff4 := bF BF.out 4; have cf5 := (bC BF.out 5).trans rfl; have ff5 := bF BF.out 5) | (go_at_call 25; (with_reducible refine (code_inside.calls F.f3 32 true _ P2.out).mono ?_); rintro e w5 ⟨rfl, ⟨nd5, rfl⟩⟩) | (go_at_call 25; (with_reducible refine (code_inside.calls F.f4 32768 r _ P3.out).mono ?_); rintro e w6 ⟨rfl, ⟨nd6, rfl⟩⟩))
              go_ret
              exact fn
          · rw [if_neg c2] at ht
            have P1 := Ae.mk ht
            clear ht
            cases t with
            | false =>
              obtain rfl := Option.some.inj h
              go_enter Tryz.func20, Tryz.ntmps20
              go_wp2_with (first | ((with_reducible refine gD (N := 2) rfl ?_); refine bE ?hg (N := 2) ?hd (cs := #[.slice (some ad) lA.length c0_0, .slice A0_1 lB.length c0_1]) (t := 58) ?hr ?_; (case hd => rfl); (case hg => rfl); (case hr => first | (go_simp; done) | (go_simp; rfl)); intro gp hg w1 hbox hb; have GP := Ae.mk (bez hg : w.heap.size ≤ gp); have BP := Ae.mk hbox; have HB1 := bes hb; clear HB hb hbox hg; have HB := HB1; clear HB1) | ((with_reducible refine gD (N := 3) rfl ?_); refine bE ?hg (N := 3) ?hd (cs := #[.int .i64 a1]) (t := 3) ?hr ?_; (case hd => rfl); (case hg => rfl); (case hr => first | (go_simp; done) | (go_simp; rfl)); intro gi hg w2 hbox hb; have GI := Ae.mk (bez hg : w.heap.size ≤ gi); have BI := Ae.mk hbox; have NPI := Ae.mk (nlt BP hg); have BP1 := bb BP hb; have HB1 := bes hb; clear HB BP hb hbox hg; have HB := HB1; have BP := BP1; clear HB1 BP1; have cp := (bC BP.out 0).trans rfl; have ci := (bC BI.out 0).trans rfl; replace x0 := cq HB x0; replace x1 := cq HB x1; replace x2 := cq HB x2; replace x3 := cq HB x3; replace x4 := cq HB x4; replace x5 := cq HB x5) | ((with_reducible refine gD (N := 5) rfl ?_); refine bE ?hg (N := 5) ?hd (cs := #[.string (⟨#[]⟩ : ByteArray), .int .i64 0, .int .i64 0, .int .i64 0, .int .i64 0, .slice none 0 0]) (t := 30) ?hr ?_; (case hd => rfl); (case hg => rfl); (case hr => first | (go_simp; done) | (go_simp; rfl)); intro gf hg w3 hbox hb; have GF := Ae.mk (bez hg : w.heap.size ≤ gf); have BF := Ae.mk hbox; have NPF := Ae.mk (nlt BP hg); have NIF := Ae.mk (nlt BI hg); have BP1 := bb BP hb; have BI1 := bb BI hb; have HB1 := bes hb; clear HB BP BI hb hbox hg cp ci; have HB := HB1; have BP := BP1; have BI := BI1; clear HB1 BP1 BI1; have cf0 := (bC BF.out 0).trans rfl; have ff0 := bF BF.out 0; have cf1 := (bC BF.out 1).trans rfl; have ff1 := bF BF.out 1; have cf2 := (bC BF.out 2).trans rfl; have ff2 := bF BF.out 2; have cf3 := (bC BF.out 3).trans rfl; have ff3 := bF BF.out 3; have cf4 := (bC BF.out 4).trans rfl; have ff4 := bF BF.out 4; have cf5 := (bC BF.out 5).trans rfl; have ff5 := bF BF.out 5) | (go_at_call 40; (with_reducible refine (plainF.calls gi gp a1 F.f2 _ _ lA _ false _ ⟨bt⟩ ⟨bt⟩ ⟨Kd.C_below HR.out bel⟩ P1.out).mono ?_); rintro e w4 ⟨rfl, ⟨nd, rfl⟩⟩))
              go_ret
              exact fn
            | true =>
              simp only [if_true] at h
              obtain ⟨u, hu, h⟩ := Option.bind_eq_some_iff.mp h
              have P2 := Ae.mk hu
              clear hu
              cases u with
              | false =>
                obtain rfl := Option.some.inj h
                go_enter Tryz.func20, Tryz.ntmps20
                go_wp2_with (first | ((with_reducible refine gD (N := 2) rfl ?_); refine bE ?hg (N := 2) ?hd (cs := #[.slice (some ad) lA.length c0_0, .slice A0_1 lB.length c0_1]) (t := 58) ?hr ?_; (case hd => rfl); (case hg => rfl); (case hr => first | (go_simp; done) | (go_simp; rfl)); intro gp hg w1 hbox hb; have GP := Ae.mk (bez hg : w.heap.size ≤ gp); have BP := Ae.mk hbox; have HB1 := bes hb; clear HB hb hbox hg; have HB := HB1; clear HB1) | ((with_reducible refine gD (N := 3) rfl ?_); refine bE ?hg (N := 3) ?hd (cs := #[.int .i64 a1]) (t := 3) ?hr ?_; (case hd => rfl); (case hg => rfl); (case hr => first | (go_simp; done) | (go_simp; rfl)); intro gi hg w2 hbox hb; have GI := Ae.mk (bez hg : w.heap.size ≤ gi); have BI := Ae.mk hbox; have NPI := Ae.mk (nlt BP hg); have BP1 := bb BP hb; have HB1 := bes hb; clear HB BP hb hbox hg; have HB := HB1; have BP := BP1; clear HB1 BP1; have cp := (bC BP.out 0).trans rfl; have ci := (bC BI.out 0).trans rfl; replace x0 := cq HB x0; replace x1 := cq HB x1; replace x2 := cq HB x2; replace x3 := cq HB x3; replace x4 := cq HB x4; replace x5 := cq HB x5) | ((with_reducible refine gD (N := 5) rfl ?_); refine bE ?hg (N := 5) ?hd (cs := #[.string (⟨#[]⟩ : ByteArray), .int .i64 0, .int .i64 0, .int .i64 0, .int .i64 0, .slice none 0 0]) (t := 30) ?hr ?_; (case hd => rfl); (case hg => rfl); (case hr => first | (go_simp; done) | (go_simp; rfl)); intro gf hg w3 hbox hb; have GF := Ae.mk (bez hg : w.heap.size ≤ gf); have BF := Ae.mk hbox; have NPF := Ae.mk (nlt BP hg); have NIF := Ae.mk (nlt BI hg); have BP1 := bb BP hb; have BI1 := bb BI hb; have HB1 := bes hb; clear HB BP BI hb hbox hg cp ci; have HB := HB1; have BP := BP1; have BI := BI1; clear HB1 BP1 BI1; have cf0 := (bC BF.out 0).trans rfl; have ff0 := bF BF.out 0; have cf1 := (bC BF.out 1).trans rfl; have ff1 := bF BF.out 1; have cf2 := (bC BF.out 2).trans rfl; have ff2 := bF BF.out 2; have cf3 := (bC BF.out 3).trans rfl; have ff3 := bF BF.out 3; have cf4 := (bC BF.out 4).trans rfl; have ff4 := bF BF.out 4; have cf5 := (bC BF.out 5).trans rfl; have ff5 := bF BF.out 5) | (go_at_call 40; (with_reducible refine (plainF.calls gi gp a1 F.f2 _ _ lA _ true _ ⟨bt⟩ ⟨bt⟩ ⟨Kd.C_below HR.out bel⟩ P1.out).mono ?_); rintro e w4 ⟨rfl, ⟨nd, rfl⟩⟩) | (go_at_call 25; (with_reducible refine (code_inside.calls F.f3 32 false _ P2.out).mono ?_); rintro e w5 ⟨rfl, ⟨nd5, rfl⟩⟩))
                go_ret
                exact fn
              | true =>
                simp only [if_true] at h
                have P3 := Ae.mk h
                clear h
                go_enter Tryz.func20, Tryz.ntmps20
                go_wp2_with (first | ((with_reducible refine gD (N := 2) rfl ?_); refine bE ?hg (N := 2) ?hd (cs := #[.slice (some ad) lA.length c0_0, .slice A0_1 lB.length c0_1]) (t := 58) ?hr ?_; (case hd => rfl); (case hg => rfl); (case hr => first | (go_simp; done) | (go_simp; rfl)); intro gp hg w1 hbox hb; have GP := Ae.mk (bez hg : w.heap.size ≤ gp); have BP := Ae.mk hbox; have HB1 := bes hb; clear HB hb hbox hg; have HB := HB1; clear HB1) | ((with_reducible refine gD (N := 3) rfl ?_); refine bE ?hg (N := 3) ?hd (cs := #[.int .i64 a1]) (t := 3) ?hr ?_; (case hd => rfl); (case hg => rfl); (case hr => first | (go_simp; done) | (go_simp; rfl)); intro gi hg w2 hbox hb; have GI := Ae.mk (bez hg : w.heap.size ≤ gi); have BI := Ae.mk hbox; have NPI := Ae.mk (nlt BP hg); have BP1 := bb BP hb; have HB1 := bes hb; clear HB BP hb hbox hg; have HB := HB1; have BP := BP1; clear HB1 BP1; have cp := (bC BP.out 0).trans rfl; have ci := (bC BI.out 0).trans rfl; replace x0 := cq HB x0; replace x1 := cq HB x1; replace x2 := cq HB x2; replace x3 := cq HB x3; replace x4 := cq HB x4; replace x5 := cq HB x5) | ((with_reducible refine gD (N := 5) rfl ?_); refine bE ?hg (N := 5) ?hd (cs := #[.string (⟨#[]⟩ : ByteArray), .int .i64 0, .int .i64 0, .int .i64 0, .int .i64 0, .slice none 0 0]) (t := 30) ?hr ?_; (case hd => rfl); (case hg => rfl); (case hr => first | (go_simp; done) | (go_simp; rfl)); intro gf hg w3 hbox hb; have GF := Ae.mk (bez hg : w.heap.size ≤ gf); have BF := Ae.mk hbox; have NPF := Ae.mk (nlt BP hg); have NIF := Ae.mk (nlt BI hg); have BP1 := bb BP hb; have BI1 := bb BI hb; have HB1 := bes hb; clear HB BP BI hb hbox hg cp ci; have HB := HB1; have BP := BP1; have BI := BI1; clear HB1 BP1 BI1; have cf0 := (bC BF.out 0).trans rfl; have ff0 := bF BF.out 0; have cf1 := (bC BF.out 1).trans rfl; have ff1 := bF BF.out 1; have cf2 := (bC BF.out 2).trans rfl; have ff2 := bF BF.out 2; have cf3 := (bC BF.out 3).trans rfl; have ff3 := bF BF.out 3; have cf4 := (bC BF.out 4).trans rfl; have ff4 := bF BF.out 4; have cf5 := (bC BF.out 5).trans rfl; have ff5 := bF BF.out 5) | (go_at_call 40; (with_reducible refine (plainF.calls gi gp a1 F.f2 _ _ lA _ true _ ⟨bt⟩ ⟨bt⟩ ⟨Kd.C_below HR.out bel⟩ P1.out).mono ?_); rintro e w4 ⟨rfl, ⟨nd, rfl⟩⟩) | (go_at_call 25; (with_reducible refine (code_inside.calls F.f3 32 true _ P2.out).mono ?_); rintro e w5 ⟨rfl, ⟨nd5, rfl⟩⟩) | (go_at_call 25; (with_reducible refine (code_inside.calls F.f4 32768 r _ P3.out).mono ?_); rintro e w6 ⟨rfl, ⟨nd6, rfl⟩⟩))
                go_ret
                exact fn
        · rw [if_neg c1] at h
          obtain ⟨t, ht, h⟩ := Option.bind_eq_some_iff.mp h
          have P1 := Ae.mk ht
          clear ht
          obtain rfl := Option.some.inj h
          cases t with
          | false =>
            go_enter Tryz.func20, Tryz.ntmps20
            go_wp2_with (first | ((with_reducible refine gD (N := 2) rfl ?_); refine bE ?hg (N := 2) ?hd (cs := #[.slice (some ad) lA.length c0_0, .slice A0_1 lB.length c0_1]) (t := 58) ?hr ?_; (case hd => rfl); (case hg => rfl); (case hr => first | (go_simp; done) | (go_simp; rfl)); intro gp hg w1 hbox hb; have GP := Ae.mk (bez hg : w.heap.size ≤ gp); have BP := Ae.mk hbox; have HB1 := bes hb; clear HB hb hbox hg; have HB := HB1; clear HB1) | ((with_reducible refine gD (N := 3) rfl ?_); refine bE ?hg (N := 3) ?hd (cs := #[.int .i64 a1]) (t := 3) ?hr ?_; (case hd => rfl); (case hg => rfl); (case hr => first | (go_simp; done) | (go_simp; rfl)); intro gi hg w2 hbox hb; have GI := Ae.mk (bez hg : w.heap.size ≤ gi); have BI := Ae.mk hbox; have NPI := Ae.mk (nlt BP hg); have BP1 := bb BP hb; have HB1 := bes hb; clear HB BP hb hbox hg; have HB := HB1; have BP := BP1; clear HB1 BP1; have cp := (bC BP.out 0).trans rfl; have ci := (bC BI.out 0).trans rfl; replace x0 := cq HB x0; replace x1 := cq HB x1; replace x2 := cq HB x2; replace x3 := cq HB x3; replace x4 := cq HB x4; replace x5 := cq HB x5) | ((with_reducible refine gD (N := 5) rfl ?_); refine bE ?hg (N := 5) ?hd (cs := #[.string (⟨#[]⟩ : ByteArray), .int .i64 0, .int .i64 0, .int .i64 0, .int .i64 0, .slice none 0 0]) (t := 30) ?hr ?_; (case hd => rfl); (case hg => rfl); (case hr => first | (go_simp; done) | (go_simp; rfl)); intro gf hg w3 hbox hb; have GF := Ae.mk (bez hg : w.heap.size ≤ gf); have BF := Ae.mk hbox; have NPF := Ae.mk (nlt BP hg); have NIF := Ae.mk (nlt BI hg); have BP1 := bb BP hb; have BI1 := bb BI hb; have HB1 := bes hb; clear HB BP BI hb hbox hg cp ci; have HB := HB1; have BP := BP1; have BI := BI1; clear HB1 BP1 BI1; have cf0 := (bC BF.out 0).trans rfl; have ff0 := bF BF.out 0; have cf1 := (bC BF.out 1).trans rfl; have ff1 := bF BF.out 1; have cf2 := (bC BF.out 2).trans rfl; have ff2 := bF BF.out 2; have cf3 := (bC BF.out 3).trans rfl; have ff3 := bF BF.out 3; have cf4 := (bC BF.out 4).trans rfl; have ff4 := bF BF.out 4; have cf5 := (bC BF.out 5).trans rfl; have ff5 := bF BF.out 5) | (go_at_call 40; (with_reducible refine (plainF.calls gi gp a1 F.f1 _ _ lA _ false _ ⟨bt⟩ ⟨bt⟩ ⟨Kd.C_below HR.out bel⟩ P1.out).mono ?_); rintro e w4 ⟨rfl, ⟨nd, rfl⟩⟩))
            go_ret
            exact fn
          | true =>
            cases e2 : (F.f2 == -1) <;> cases e3 : (F.f3 == 0) <;> cases e4 : (F.f4 == 0)
            all_goals go_enter Tryz.func20, Tryz.ntmps20
            all_goals go_wp2_with (first | ((with_reducible refine gD (N := 2) rfl ?_); refine bE ?hg (N := 2) ?hd (cs := #[.slice (some ad) lA.length c0_0, .slice A0_1 lB.length c0_1]) (t := 58) ?hr ?_; (case hd => rfl); (case hg => rfl); (case hr => first | (go_simp; done) | (go_simp; rfl)); intro gp hg w1 hbox hb; have GP := Ae.mk (bez hg : w.heap.size ≤ gp); have BP := Ae.mk hbox; have HB1 := bes hb; clear HB hb hbox hg; have HB := HB1; clear HB1) | ((with_reducible refine gD (N := 3) rfl ?_); refine bE ?hg (N := 3) ?hd (cs := #[.int .i64 a1]) (t := 3) ?hr ?_; (case hd => rfl); (case hg => rfl); (case hr => first | (go_simp; done) | (go_simp; rfl)); intro gi hg w2 hbox hb; have GI := Ae.mk (bez hg : w.heap.size ≤ gi); have BI := Ae.mk hbox; have NPI := Ae.mk (nlt BP hg); have BP1 := bb BP hb; have HB1 := bes hb; clear HB BP hb hbox hg; have HB := HB1; have BP := BP1; clear HB1 BP1; have cp := (bC BP.out 0).trans rfl; have ci := (bC BI.out 0).trans rfl; replace x0 := cq HB x0; replace x1 := cq HB x1; replace x2 := cq HB x2; replace x3 := cq HB x3; replace x4 := cq HB x4; replace x5 := cq HB x5) | ((with_reducible refine gD (N := 5) rfl ?_); refine bE ?hg (N := 5) ?hd (cs := #[.string (⟨#[]⟩ : ByteArray), .int .i64 0, .int .i64 0, .int .i64 0, .int .i64 0, .slice none 0 0]) (t := 30) ?hr ?_; (case hd => rfl); (case hg => rfl); (case hr => first | (go_simp; done) | (go_simp; rfl)); intro gf hg w3 hbox hb; have GF := Ae.mk (bez hg : w.heap.size ≤ gf); have BF := Ae.mk hbox; have NPF := Ae.mk (nlt BP hg); have NIF := Ae.mk (nlt BI hg); have BP1 := bb BP hb; have BI1 := bb BI hb; have HB1 := bes hb; clear HB BP BI hb hbox hg cp ci; have HB := HB1; have BP := BP1; have BI := BI1; clear HB1 BP1 BI1; have cf0 := (bC BF.out 0).trans rfl; have ff0 := bF BF.out 0; have cf1 := (bC BF.out 1).trans rfl; have ff1 := bF BF.out 1; have cf2 := (bC BF.out 2).trans rfl; have ff2 := bF BF.out 2; have cf3 := (bC BF.out 3).trans rfl; have ff3 := bF BF.out 3; have cf4 := (bC BF.out 4).trans rfl; have ff4 := bF BF.out 4; have cf5 := (bC BF.out 5).trans rfl; have ff5 := bF BF.out 5) | (go_at_call 40; (with_reducible refine (plainF.calls gi gp a1 F.f1 _ _ lA _ true _ ⟨bt⟩ ⟨bt⟩ ⟨Kd.C_below HR.out bel⟩ P1.out).mono ?_); rintro e w4 ⟨rfl, ⟨nd, rfl⟩⟩))
            all_goals go_ret
            all_goals exact fn
    · rw [if_neg h1] at h
      exact absurd h (by simp)
  · rw [if_neg h0] at h
    exact absurd h (by simp)
end Go.Proofs.YtlbcnacfgickcaaGreatDoor.A
