/- Printed by this session's own copy of the printer (wip/tools/mkprint.py): functions, and that the Go code answers as they do. -/
import Derived.Test.YtmpmbnmldmpmiaaGreatDoorShort
import Derived.Test.YtmpmbnmldmpmiaaGreatDoorA0
namespace Go.Proofs.YtmpmbnmldmpmiaaGreatDoor.A
open Go.RowKit Go.Proofs.YtmpmbnmldmpmiaaGreatDoorW.PrintWords Go.Proofs.YtmpmbnmldmpmiaaGreatDoorW.PrintLast Go.Proofs.YtmpmbnmldmpmiaaGreatDoorW.PrintMore Go.Proofs.YtmpmbnmldmpmiaaGreatDoorW.Short
theorem bytesLess_leq : ∀ (a b : List UInt8), (Go.Op.bytesLess a b || a == b) = !Go.Op.bytesLess b a
  | [], [] => by simp [Go.Op.bytesLess]
  | [], y :: b => by simp [Go.Op.bytesLess]
  | x :: a, [] => by simp [Go.Op.bytesLess]
  | x :: a, y :: b => by
    have ih := bytesLess_leq a b
    have hxy : x = y ↔ x.toNat = y.toNat := ⟨fun h => by rw [h], fun h => UInt8.toNat_inj.1 h⟩
    simp only [Go.Op.bytesLess]
    by_cases h1 : x = y
    · subst h1
      simp [UInt8.lt_irrefl] at ih ⊢
      exact ih
    · by_cases h2 : x < y
      · have h3 : ¬ y < x := by simp only [UInt8.lt_iff_toNat_lt] at h2 ⊢; omega
        simp [h2, h3, Ne.symm h1]
      · have h3 : y < x := by simp only [UInt8.lt_iff_toNat_lt] at h2 ⊢; have : x.toNat ≠ y.toNat := fun e => h1 (hxy.2 e); omega
        simp [h1, h2, h3]
attribute [local go_sem] bytesLess_leq
attribute [local go_sem] max2_int min2_int max_two min_two max_three min_three max_four min_four   -- for this text's walks alone
set_option linter.unusedVariables false
set_option linter.unusedSimpArgs false
mutual
def colanderref03_Sorted.l0 : Nat → List ByteArray → List ByteArray → List ByteArray → Int → Int → Option (List ByteArray)
 | 0, _, _, _, _, _ => none
 | k + 1, x3, x4, x5, x6, x7 => if x6 < (x3.length : Int) then (colanderref03_Sorted.j1 k x3 x4 x5 x6 x7 true) else (colanderref03_Sorted.j1 k x3 x4 x5 x6 x7 (decide (x7 < (x4.length : Int))))
def colanderref03_Sorted.j1 : Nat → List ByteArray → List ByteArray → List ByteArray → Int → Int → Bool → Option (List ByteArray)
 | 0, _, _, _, _, _, _ => none
 | k + 1, x3, x4, x5, x6, x7, x35 => if x35 = true then (if x7 = (x4.length : Int) then (if 0 ≤ x6 then (if x6 < (x3.length : Int) then (if x5.length < 8796093022208 then (colanderref03_Sorted.l0 k x3 x4 (x5 ++ [rdOf ByteArray.empty x3 x6]) (wrap64 (x6 + 1)) x7) else (none)) else (none)) else (none)) else (if x6 < (x3.length : Int) then (if 0 ≤ x6 then (if 0 ≤ x7 then (if x7 < (x4.length : Int) then (if ((Op.bytesLess ((rdOf ByteArray.empty x4 x7).toList) ((rdOf ByteArray.empty x3 x6).toList)) = true) then (if x5.length < 8796093022208 then (colanderref03_Sorted.l0 k x3 x4 (x5 ++ [rdOf ByteArray.empty x4 x7]) x6 (wrap64 (x7 + 1))) else (none)) else (if x5.length < 8796093022208 then (colanderref03_Sorted.l0 k x3 x4 (x5 ++ [rdOf ByteArray.empty x3 x6]) (wrap64 (x6 + 1)) x7) else (none))) else (none)) else (none)) else (none)) else (if 0 ≤ x7 then (if x7 < (x4.length : Int) then (if x5.length < 8796093022208 then (colanderref03_Sorted.l0 k x3 x4 (x5 ++ [rdOf ByteArray.empty x4 x7]) x6 (wrap64 (x7 + 1))) else (none)) else (none)) else (none)))) else (some x5)
def colanderref03_Sorted.f : Nat → List ByteArray → Option (List ByteArray)
 | 0, _ => none
 | k + 1, l0 => if (l0.length : Int) < 2 then ((some (([] : List ByteArray) : List ByteArray)).bind fun y106 => (if y106.length + l0.length < 8796093022208 then (some (y106 ++ l0)) else (none))) else (if 0 ≤ (wrap64 ((l0.length : Int) / 2)) then (if (wrap64 ((l0.length : Int) / 2)) ≤ (l0.length : Int) then ((colanderref03_Sorted.f k (l0.take ((wrap64 ((l0.length : Int) / 2)) : Int).toNat)).bind fun t113 => ((colanderref03_Sorted.f k (l0.drop ((wrap64 ((l0.length : Int) / 2)) : Int).toNat)).bind fun t117 => (colanderref03_Sorted.l0 k t113 t117 ([] : List ByteArray) 0 0))) else (none)) else (none))
end
set_option maxHeartbeats 8000000 in
set_option maxRecDepth 100000 in
theorem colanderref03_Sorted.calls (k : Nat) : ∀ (A0 : Option Addr) (c0 : Nat) (l0 : List ByteArray) (r : List ByteArray) (w : World) (hr0 : Kd.C Kd.string w A0 l0.length l0) (hc0 : l0.length ≤ c0) (h : colanderref03_Sorted.f k l0 = some r),
  Calls Tryz.prog 87 #[.slice A0 l0.length c0] w fun e w' => ∃ v0_ : Value, e = .returned (v0_) ∧ Kd.R Kd.string 9 w' w.heap.size (fun _ => True) v0_ r ∧ Below w.heap.size w w' := by
 induction k using Nat.strongRecOn with
 | _ k ih =>
 intro A0 c0 l0 r w hr0 hc0 h
 cases k with
 | zero => exact absurd h (by simp [colanderref03_Sorted.f])
 | succ k =>
 simp only [colanderref03_Sorted.f] at h
 have HR0 := Aside0.mk hr0
 have HC0 := Aside0.mk hc0
 clear hr0 hc0
 have HB := Aside0.mk (Below.refl w.heap.size w)
 have H : (if (l0.length : Int) < 2 then ((some (([] : List ByteArray) : List ByteArray)).bind fun y106 => (if y106.length + l0.length < 8796093022208 then (some (y106 ++ l0)) else (none))) else (if 0 ≤ (wrap64 ((l0.length : Int) / 2)) then (if (wrap64 ((l0.length : Int) / 2)) ≤ (l0.length : Int) then ((colanderref03_Sorted.f k (l0.take ((wrap64 ((l0.length : Int) / 2)) : Int).toNat)).bind fun t113 => ((colanderref03_Sorted.f k (l0.drop ((wrap64 ((l0.length : Int) / 2)) : Int).toNat)).bind fun t117 => (colanderref03_Sorted.l0 k t113 t117 ([] : List ByteArray) 0 0))) else (none)) else (none))) = some r := h
 clear h
 by_cases c2 : (l0.length : Int) < 2
 ·rw [if_pos c2] at H
  have c2b0 : decide ((l0.length : Int) < 2) = true := decide_eq_true c2
  have c2b1 : decide (l0.length < 2) = true := decide_eq_true (by omega)
  clear c2
  obtain ⟨y106, hy106⟩ : ∃ y_ : List ByteArray, y_ = (([] : List ByteArray)) := ⟨_, rfl⟩
  replace H : (if y106.length + l0.length < 8796093022208 then (some (y106 ++ l0)) else (none)) = some r := by first | (rw [hy106]; with_reducible exact H) | (have H2_ := (Option.bind_some _ _).symm.trans H; rw [hy106]; with_reducible exact H2_) | (have H2_ := (Option.bind_some _ _).symm.trans H; with_reducible exact H2_) | with_reducible exact H | (rw [hy106]; exact H) | exact H
  have Ny106 := Aside0.mk hy106
  clear hy106
  by_cases c3 : y106.length + l0.length < 8796093022208
  ·rw [if_pos c3] at H
   have LMc3 := Aside0.mk c3
   clear c3
   obtain ⟨y109, hy109⟩ : ∃ y_ : List ByteArray, y_ = (y106 ++ l0) := ⟨_, rfl⟩
   replace H : (some y109) = some r := by first | (rw [hy109]; with_reducible exact H) | (have H2_ := (Option.bind_some _ _).symm.trans H; rw [hy109]; with_reducible exact H2_) | (have H2_ := (Option.bind_some _ _).symm.trans H; with_reducible exact H2_) | with_reducible exact H | (rw [hy109]; exact H) | exact H
   have Ny109 := Aside0.mk hy109
   clear hy109
   obtain rfl := Option.some.inj H
   go_enter Tryz.func87, Tryz.ntmps87
   go_wp2_with (first | ((with_reducible refine gate_dst (N := 11) rfl ?_); (try (refine gate_guard (by rfl) ?_; dsimp only)); refine Kd.R_lit Kd.string _ 9 ?hg (N := 11) ?hd (xs := ([] : List ByteArray)) (inner := []) (ok := fun _ => True) (okp := fun _ => True) ?hr ?hp (fun _ hk => hk) trivial (Below.refl _ _) (Nat.le_refl _) (by simp) ?_; (case hd => rfl); (case hg => rfl); (case hr => first | (go_simp; done) | (go_simp; rfl)); (case hp => exact (Reps.none _ _)); intro v107 w4 ho5 hb hg_ hnew_; clear hg_ hnew_; (first | rw [← Ny106.out] at ho5 | (simp only [Int.reduceToNat] at ho5; rw [← Ny106.out] at ho5)); have n0_ := Aside0.mk (Kd.R_lower ho5 (below_size bel)); have n1_ := bes hb; clear HB; have HO108 := n0_; have HB := n1_; clear n0_ n1_; clear hb ho5) | ((with_reducible refine gate_builtin (b := .append) (xs := #[.tmp 11, .tmp 12]) rfl ?_); (try (refine gate_guard (by rfl) ?_; dsimp only)); at_builtin; refine Kd.R_append_rows Kd.string (w0 := w) w.heap.size rfl (.tmp 11) (.tmp 12) 25 9 (.string ⟨#[]⟩) 16 rfl Tryz.underlying25 info9 rfl (by decide) (by omega) v107 y106 l0 _ _ _ (fun _ => True) (fun _ => False) rfl rfl ?aO ?aR (fun _ _ h => h) (fun _ h => h.elim) ?aF ?aB ?aS ?aL ?_; (case aR => repeat (first | exact (Kd.C_below HR0.out HB.out) | (with_reducible refine Kd.C_alloc ?_ _) | (with_reducible refine Kd.C_drewN ?_ _) | (with_reducible refine Kd.C_drew ?_))); (case aB => exact bel); (case aF => exact (fun _ _ => trivial)); (case aO => exact (rt HO108)); (case aS => exact (below_size bel)); (case aL => have := LMc3.out; omega); intro v110 w6 ho hb hg hat; rw [← Ny109.out] at ho; have n0_ := Aside0.mk (hb); have n1_ := Aside0.mk (ho); clear HB; clear HO108; have HB := n0_; have HO111 := n1_; clear n0_ n1_; clear ho hb hg hat))
   repeat (go_quiet (first | ((with_reducible refine gate_dst (N := 11) rfl ?_); (try (refine gate_guard (by rfl) ?_; dsimp only)); refine Kd.R_lit Kd.string _ 9 ?hg (N := 11) ?hd (xs := ([] : List ByteArray)) (inner := []) (ok := fun _ => True) (okp := fun _ => True) ?hr ?hp (fun _ hk => hk) trivial (Below.refl _ _) (Nat.le_refl _) (by simp) ?_; (case hd => rfl); (case hg => rfl); (case hr => first | (go_simp; done) | (go_simp; rfl)); (case hp => exact (Reps.none _ _)); intro v107 w4 ho5 hb hg_ hnew_; clear hg_ hnew_; (first | rw [← Ny106.out] at ho5 | (simp only [Int.reduceToNat] at ho5; rw [← Ny106.out] at ho5)); have n0_ := Aside0.mk (Kd.R_lower ho5 (below_size bel)); have n1_ := bes hb; clear HB; have HO108 := n0_; have HB := n1_; clear n0_ n1_; clear hb ho5) | ((with_reducible refine gate_builtin (b := .append) (xs := #[.tmp 11, .tmp 12]) rfl ?_); (try (refine gate_guard (by rfl) ?_; dsimp only)); at_builtin; refine Kd.R_append_rows Kd.string (w0 := w) w.heap.size rfl (.tmp 11) (.tmp 12) 25 9 (.string ⟨#[]⟩) 16 rfl Tryz.underlying25 info9 rfl (by decide) (by omega) v107 y106 l0 _ _ _ (fun _ => True) (fun _ => False) rfl rfl ?aO ?aR (fun _ _ h => h) (fun _ h => h.elim) ?aF ?aB ?aS ?aL ?_; (case aR => repeat (first | exact (Kd.C_below HR0.out HB.out) | (with_reducible refine Kd.C_alloc ?_ _) | (with_reducible refine Kd.C_drewN ?_ _) | (with_reducible refine Kd.C_drew ?_))); (case aB => exact bel); (case aF => exact (fun _ _ => trivial)); (case aO => exact (rt HO108)); (case aS => exact (below_size bel)); (case aL => have := LMc3.out; omega); intro v110 w6 ho hb hg hat; rw [← Ny109.out] at ho; have n0_ := Aside0.mk (hb); have n1_ := Aside0.mk (ho); clear HB; clear HO108; have HB := n0_; have HO111 := n1_; clear n0_ n1_; clear ho hb hg hat)); try go_wp2_with (first | ((with_reducible refine gate_dst (N := 11) rfl ?_); (try (refine gate_guard (by rfl) ?_; dsimp only)); refine Kd.R_lit Kd.string _ 9 ?hg (N := 11) ?hd (xs := ([] : List ByteArray)) (inner := []) (ok := fun _ => True) (okp := fun _ => True) ?hr ?hp (fun _ hk => hk) trivial (Below.refl _ _) (Nat.le_refl _) (by simp) ?_; (case hd => rfl); (case hg => rfl); (case hr => first | (go_simp; done) | (go_simp; rfl)); (case hp => exact (Reps.none _ _)); intro v107 w4 ho5 hb hg_ hnew_; clear hg_ hnew_; (first | rw [← Ny106.out] at ho5 | (simp only [Int.reduceToNat] at ho5; rw [← Ny106.out] at ho5)); have n0_ := Aside0.mk (Kd.R_lower ho5 (below_size bel)); have n1_ := bes hb; clear HB; have HO108 := n0_; have HB := n1_; clear n0_ n1_; clear hb ho5) | ((with_reducible refine gate_builtin (b := .append) (xs := #[.tmp 11, .tmp 12]) rfl ?_); (try (refine gate_guard (by rfl) ?_; dsimp only)); at_builtin; refine Kd.R_append_rows Kd.string (w0 := w) w.heap.size rfl (.tmp 11) (.tmp 12) 25 9 (.string ⟨#[]⟩) 16 rfl Tryz.underlying25 info9 rfl (by decide) (by omega) v107 y106 l0 _ _ _ (fun _ => True) (fun _ => False) rfl rfl ?aO ?aR (fun _ _ h => h) (fun _ h => h.elim) ?aF ?aB ?aS ?aL ?_; (case aR => repeat (first | exact (Kd.C_below HR0.out HB.out) | (with_reducible refine Kd.C_alloc ?_ _) | (with_reducible refine Kd.C_drewN ?_ _) | (with_reducible refine Kd.C_drew ?_))); (case aB => exact bel); (case aF => exact (fun _ _ => trivial)); (case aO => exact (rt HO108)); (case aS => exact (below_size bel)); (case aL => have := LMc3.out; omega); intro v110 w6 ho hb hg hat; rw [← Ny109.out] at ho; have n0_ := Aside0.mk (hb); have n1_ := Aside0.mk (ho); clear HB; clear HO108; have HB := n0_; have HO111 := n1_; clear n0_ n1_; clear ho hb hg hat)))
   go_ret
   exact ⟨_, by first | rfl | (simp [errW_none, errW_some] <;> rfl) | (simp [*, errW_none, errW_some] <;> rfl), rt HO111, bel⟩
  ·rw [if_neg c3] at H
   exact absurd H (by simp)
 ·rw [if_neg c2] at H
  have c2b0 : decide ((l0.length : Int) < 2) = false := decide_eq_false c2
  have c2b1 : decide (l0.length < 2) = false := decide_eq_false (by omega)
  clear c2
  obtain ⟨ji7, hji7⟩ : ∃ j_ : Int, (wrap64 ((l0.length : Int) / 2)) = j_ := ⟨_, rfl⟩
  replace H : (if 0 ≤ (ji7) then (if (ji7) ≤ (l0.length : Int) then ((colanderref03_Sorted.f k (l0.take ((ji7) : Int).toNat)).bind fun t113 => ((colanderref03_Sorted.f k (l0.drop ((ji7) : Int).toNat)).bind fun t117 => (colanderref03_Sorted.l0 k t113 t117 ([] : List ByteArray) 0 0))) else (none)) else (none)) = some r := by first | (rw [hji7] at H; exact H) | (simp only [hji7] at H ⊢; exact H)
  have hji7w : (IntKind.i64.wrap ((l0.length : Int) / 2)) = ji7 := (i64_w _).trans hji7
  by_cases c8 : 0 ≤ (ji7)
  ·rw [if_pos c8] at H
   have c8b0 := eq_true c8
   have c8b1 : decide (0 ≤ (ji7)) = true := decide_eq_true c8
   clear c8
   by_cases c9 : (ji7) ≤ (l0.length : Int)
   ·rw [if_pos c9] at H
    have c9b0 := eq_true c9
    have c9b1 : decide ((ji7) ≤ (l0.length : Int)) = true := decide_eq_true c9
    clear c9
    replace H := Option.bind_eq_some_iff.mp H
    obtain ⟨t113, A100, H⟩ := H
    replace H : ((colanderref03_Sorted.f k (l0.drop ((ji7) : Int).toNat)).bind fun t117 => (colanderref03_Sorted.l0 k t113 t117 ([] : List ByteArray) 0 0)) = some r := H
    have A10 := Aside0.mk A100
    clear A100
    have c11b0 := eq_true (of_decide_eq_true ass : 0 ≤ (ji7))
    have c12b0 := eq_true (of_decide_eq_true ass : (ji7) ≤ (l0.length : Int))
    replace H := Option.bind_eq_some_iff.mp H
    obtain ⟨t117, A130, H⟩ := H
    replace H : (colanderref03_Sorted.l0 k t113 t117 ([] : List ByteArray) 0 0) = some r := H
    have A13 := Aside0.mk A130
    clear A130
    have H' := Aside0.mk H
    clear H
    obtain ⟨i014, hi014, _, hsz14, _⟩ := info_parts info9
    obtain ⟨hcut14, hA14, hC14⟩ := print_take_of (P := Tryz.prog) Value.string (⟨#[]⟩ : ByteArray) 25 9 .i64 Tryz.underlying25 hi014 hsz14 A0 c0 l0 (ji7) (of_decide_eq_true ass) (of_decide_eq_true ass) HC0.out
    have HR112 := Aside0.mk (Kd.C_of_reads (h1 := fun _ => rfl) (hA14 _ (Kd.reads_of_C HR0.out)))
    have HC112 := Aside0.mk hC14
    clear hA14 hC14 hi014 hsz14
    have hl1 : (l0.take ((ji7) : Int).toNat).length = ((ji7) : Int).toNat := by
     have h9 : ji7 ≤ (l0.length : Int) := of_decide_eq_true c9b1
     rw [List.length_take]
     omega
    have hl2 : (l0.drop ((ji7) : Int).toNat).length = l0.length - ((ji7) : Int).toNat := List.length_drop
    have hl3 : (l0.drop ((ji7) : Int).toNat).length = ((l0.length : Int) - ji7).toNat := by
     have h9 : ji7 ≤ (l0.length : Int) := of_decide_eq_true c9b1
     have h8 : 0 ≤ ji7 := by first | exact of_decide_eq_true c8b1 | (have := c8b0; simpa using this) | omega
     rw [List.length_drop]
     omega
    have ihG : ∀ (A : Option Addr) (c : Nat) (l' t : List ByteArray) (n : Nat), l'.length = n → colanderref03_Sorted.f k l' = some t → l'.length ≤ c → ∀ w2, Kd.C Kd.string w2 A l'.length l' → Calls Tryz.prog 87 #[.slice A n c] w2 fun e w' => ∃ v0_, e = .returned v0_ ∧ Kd.R Kd.string 9 w' w2.heap.size (fun _ => True) v0_ t ∧ Below w2.heap.size w2 w' := by
     rintro A c l' t _ rfl h1 h2 w2 h3
     exact ih k (by omega) _ _ _ _ _ h3 h2 h1
    go_enter Tryz.func87, Tryz.ntmps87
    go_wp2_with (first | (go_at_call 87; (with_reducible refine (ihG _ _ (l0.take ((ji7) : Int).toNat) t113 _ ?side3 A10.out ?side2 _ ?side1).mono ?_); (case side3 => (first | exact hl1 | exact hl2 | exact hl3)); (case side1 => repeat (first | exact HR112.out | (with_reducible refine Kd.C_alloc ?_ _) | (with_reducible refine Kd.C_drewN ?_ _) | (with_reducible refine Kd.C_drew ?_))); (case side2 => exact HC112.out); rintro e w15 ⟨v114, rfl, ho0, hb⟩; have n0_ := Aside0.mk (Kd.R_lower ho0 (below_size bel)); have n1_ := bes hb; clear HB; have HO115 := n0_; have HB := n1_; clear n0_ n1_; (try clear hb); (try clear hb2); (try clear hk); (try clear hi); (try clear ho0); obtain ⟨i016, hi016, _, hsz16, _⟩ := info_parts info9; obtain ⟨A16, hcut16, hA16, hC16⟩ := print_drop_of (P := Tryz.prog) Value.string (⟨#[]⟩ : ByteArray) 25 9 .i64 Tryz.underlying25 hi016 hsz16 A0 c0 l0 (ji7) (of_decide_eq_true ass) (of_decide_eq_true ass) HC0.out; have HR116 := Aside0.mk (Kd.C_of_reads (h1 := fun _ => rfl) (hA16 _ (Kd.reads_of_C HR0.out))); have HC116 := Aside0.mk hC16; clear hA16 hC16 hi016 hsz16) | (go_at_call 87; (with_reducible refine (ihG _ _ (l0.drop ((ji7) : Int).toNat) t117 _ ?side3 A13.out ?side2 _ ?side1).mono ?_); (case side3 => (first | exact hl1 | exact hl2 | exact hl3)); (case side1 => exact cb HR116); (case side2 => exact HC116.out); rintro e w17 ⟨v118, rfl, ho0, hb⟩; have n0_ := Aside0.mk (Kd.R_elder' (rt HO115) (Kd.R_base ho0) hb); have n1_ := Aside0.mk (Kd.R_lower (Kd.R_new' ho0 (Kd.R_lt (rt HO115))) (below_size bel)); have n2_ := bes hb; clear HO115; clear HB; have HO115 := n0_; have HO119 := n1_; have HB := n2_; clear n0_ n1_ n2_; (try clear hb); (try clear hb2); (try clear hk); (try clear hi); (try clear ho0)))
    repeat (go_quiet (first | (go_at_call 87; (with_reducible refine (ihG _ _ (l0.take ((ji7) : Int).toNat) t113 _ ?side3 A10.out ?side2 _ ?side1).mono ?_); (case side3 => (first | exact hl1 | exact hl2 | exact hl3)); (case side1 => repeat (first | exact HR112.out | (with_reducible refine Kd.C_alloc ?_ _) | (with_reducible refine Kd.C_drewN ?_ _) | (with_reducible refine Kd.C_drew ?_))); (case side2 => exact HC112.out); rintro e w15 ⟨v114, rfl, ho0, hb⟩; have n0_ := Aside0.mk (Kd.R_lower ho0 (below_size bel)); have n1_ := bes hb; clear HB; have HO115 := n0_; have HB := n1_; clear n0_ n1_; (try clear hb); (try clear hb2); (try clear hk); (try clear hi); (try clear ho0); obtain ⟨i016, hi016, _, hsz16, _⟩ := info_parts info9; obtain ⟨A16, hcut16, hA16, hC16⟩ := print_drop_of (P := Tryz.prog) Value.string (⟨#[]⟩ : ByteArray) 25 9 .i64 Tryz.underlying25 hi016 hsz16 A0 c0 l0 (ji7) (of_decide_eq_true ass) (of_decide_eq_true ass) HC0.out; have HR116 := Aside0.mk (Kd.C_of_reads (h1 := fun _ => rfl) (hA16 _ (Kd.reads_of_C HR0.out))); have HC116 := Aside0.mk hC16; clear hA16 hC16 hi016 hsz16) | (go_at_call 87; (with_reducible refine (ihG _ _ (l0.drop ((ji7) : Int).toNat) t117 _ ?side3 A13.out ?side2 _ ?side1).mono ?_); (case side3 => (first | exact hl1 | exact hl2 | exact hl3)); (case side1 => exact cb HR116); (case side2 => exact HC116.out); rintro e w17 ⟨v118, rfl, ho0, hb⟩; have n0_ := Aside0.mk (Kd.R_elder' (rt HO115) (Kd.R_base ho0) hb); have n1_ := Aside0.mk (Kd.R_lower (Kd.R_new' ho0 (Kd.R_lt (rt HO115))) (below_size bel)); have n2_ := bes hb; clear HO115; clear HB; have HO115 := n0_; have HO119 := n1_; have HB := n2_; clear n0_ n1_ n2_; (try clear hb); (try clear hb2); (try clear hk); (try clear hi); (try clear ho0))); try go_wp2_with (first | (go_at_call 87; (with_reducible refine (ihG _ _ (l0.take ((ji7) : Int).toNat) t113 _ ?side3 A10.out ?side2 _ ?side1).mono ?_); (case side3 => (first | exact hl1 | exact hl2 | exact hl3)); (case side1 => repeat (first | exact HR112.out | (with_reducible refine Kd.C_alloc ?_ _) | (with_reducible refine Kd.C_drewN ?_ _) | (with_reducible refine Kd.C_drew ?_))); (case side2 => exact HC112.out); rintro e w15 ⟨v114, rfl, ho0, hb⟩; have n0_ := Aside0.mk (Kd.R_lower ho0 (below_size bel)); have n1_ := bes hb; clear HB; have HO115 := n0_; have HB := n1_; clear n0_ n1_; (try clear hb); (try clear hb2); (try clear hk); (try clear hi); (try clear ho0); obtain ⟨i016, hi016, _, hsz16, _⟩ := info_parts info9; obtain ⟨A16, hcut16, hA16, hC16⟩ := print_drop_of (P := Tryz.prog) Value.string (⟨#[]⟩ : ByteArray) 25 9 .i64 Tryz.underlying25 hi016 hsz16 A0 c0 l0 (ji7) (of_decide_eq_true ass) (of_decide_eq_true ass) HC0.out; have HR116 := Aside0.mk (Kd.C_of_reads (h1 := fun _ => rfl) (hA16 _ (Kd.reads_of_C HR0.out))); have HC116 := Aside0.mk hC16; clear hA16 hC16 hi016 hsz16) | (go_at_call 87; (with_reducible refine (ihG _ _ (l0.drop ((ji7) : Int).toNat) t117 _ ?side3 A13.out ?side2 _ ?side1).mono ?_); (case side3 => (first | exact hl1 | exact hl2 | exact hl3)); (case side1 => exact cb HR116); (case side2 => exact HC116.out); rintro e w17 ⟨v118, rfl, ho0, hb⟩; have n0_ := Aside0.mk (Kd.R_elder' (rt HO115) (Kd.R_base ho0) hb); have n1_ := Aside0.mk (Kd.R_lower (Kd.R_new' ho0 (Kd.R_lt (rt HO115))) (below_size bel)); have n2_ := bes hb; clear HO115; clear HB; have HO115 := n0_; have HO119 := n1_; have HB := n2_; clear n0_ n1_ n2_; (try clear hb); (try clear hb2); (try clear hk); (try clear hi); (try clear ho0))))
    go_loopg [5, 6, 7] k (fun kq v5 v6 v7 w' => ∃ (x5_1 : List ByteArray) (x6_1 : Int) (x7_1 : Int), v6 = .int .i64 x6_1 ∧ v7 = .int .i64 x7_1 ∧ Aside0 (colanderref03_Sorted.l0 kq t113 t117 x5_1 x6_1 x7_1 = some r) ∧ Aside0 (kq ≤ k) ∧ Aside0 (Kd.R Kd.string 9 w' w.heap.size (fun k_ => some k_ ≠ (v118 : Value).ownBlock ∧ some k_ ≠ (v5 : Value).ownBlock) v114 t113) ∧ Aside0 (Kd.R Kd.string 9 w' w.heap.size (fun k_ => some k_ ≠ (v114 : Value).ownBlock ∧ some k_ ≠ (v5 : Value).ownBlock) v118 t117) ∧ Aside0 (Kd.R Kd.string 9 w' w.heap.size (fun k_ => some k_ ≠ (v114 : Value).ownBlock ∧ some k_ ≠ (v118 : Value).ownBlock) v5 x5_1) ∧ Aside0 (Below w.heap.size w w'))
    case atStart => exact ⟨(([] : List ByteArray)), (0), (0), pv, pv, H', ⟨Nat.le_refl _⟩, ⟨by (with_reducible repeat (first | apply Kd.R_alloc | apply Kd.R_drewN | apply Kd.R_drew)); exact Kd.R_mono HO115.out (fun _ hk => ⟨hk.2, (by simp [Value.ownBlock])⟩)⟩, ⟨by (with_reducible repeat (first | apply Kd.R_alloc | apply Kd.R_drewN | apply Kd.R_drew)); exact Kd.R_mono HO119.out (fun _ hk => ⟨hk.2, (by simp [Value.ownBlock])⟩)⟩, ⟨by first | exact Kd.R_nil _ _ _ _ _ | exact Kd.N_nil _ _ _ _ _ | exact Kd.V_nil _ _ _ _ _ | exact Kd.Q_nil _ _ _ _ _ | exact Kd.S_nil _ _ _ _ _⟩, ⟨bel⟩⟩
    case round =>
     clear H'
     (try clear c1);(try clear c2);(try clear c2b0);(try clear c2b1);(try clear p2);(try clear c3);(try clear p6);(try clear c8);(try clear c8b0);(try clear c8b1);(try clear c9);(try clear c9b0);(try clear c9b1);(try clear c11);(try clear c11b0);(try clear c12);(try clear c12b0)
     obtain ⟨x5_1, x6_1, x7_1, rfl, rfl, HA, HK1, HO_3, HO_4, HO_5, HB⟩ := hrel
     cases gk with
     | zero => exact absurd HA.out (by simp [colanderref03_Sorted.l0])
     | succ k1 =>
      have H := HA.out
      clear HA
      simp only [colanderref03_Sorted.l0] at H
      have HC18 := Aside0.mk H
      clear H
      go_upto_region 7 with (fail)
      repeat (go_quiet (fail); go_upto_region 7 with (fail))
      go_cut [35] (fun v35 wc => ∃ (kq : Nat) (x35_17 : Bool), v35 = .bool x35_17 ∧ Aside0 (colanderref03_Sorted.j1 kq t113 t117 x5_1 x6_1 x7_1 x35_17 = some r) ∧ Aside0 (kq ≤ k1) ∧ Aside0 (Kd.R Kd.string 9 wc w.heap.size (fun k_ => some k_ ≠ (v118 : Value).ownBlock ∧ some k_ ≠ (u5 : Value).ownBlock) v114 t113) ∧ Aside0 (Kd.R Kd.string 9 wc w.heap.size (fun k_ => some k_ ≠ (v114 : Value).ownBlock ∧ some k_ ≠ (u5 : Value).ownBlock) v118 t117) ∧ Aside0 (Kd.R Kd.string 9 wc w.heap.size (fun k_ => some k_ ≠ (v114 : Value).ownBlock ∧ some k_ ≠ (v118 : Value).ownBlock) u5 x5_1) ∧ Aside0 (Below w.heap.size w wc))
      case first =>
       have H := HC18.out
       clear HC18
       by_cases c19 : x6_1 < (t113.length : Int)
       ·rw [if_pos c19] at H
        have c19b0 : decide (x6_1 < (t113.length : Int)) = true := decide_eq_true c19
        clear c19
        (first | rw [c19b0] | (simp only [i64_w, i32_w]; rw [c19b0]) | skip)
        have H' := Aside0.mk H
        clear H
        obtain ⟨Ao20, co20, eo20⟩ := Kd.R_slice HO_3.out
        subst eo20
        go_wp2
        repeat (go_quiet (fail); try go_wp2)
        go_meet
        case rel => exact ⟨_, (true), pv, H', ⟨by have := HK1.out; first | omega | exact Nat.le_refl _⟩, ⟨rt HO_3⟩, ⟨rt HO_4⟩, ⟨rt HO_5⟩, ⟨bel⟩⟩
       ·rw [if_neg c19] at H
        have c19b0 : decide (x6_1 < (t113.length : Int)) = false := decide_eq_false c19
        clear c19
        (first | rw [c19b0] | (simp only [i64_w, i32_w]; rw [c19b0]) | skip)
        have H' := Aside0.mk H
        clear H
        obtain ⟨Ao21, co21, eo21⟩ := Kd.R_slice HO_3.out
        subst eo21
        obtain ⟨Ao22, co22, eo22⟩ := Kd.R_slice HO_4.out
        subst eo22
        go_wp2
        repeat (go_quiet (fail); try go_wp2)
        go_meet
        case rel => exact ⟨_, (decide (x7_1 < (t117.length : Int))), pv, H', ⟨by have := HK1.out; first | omega | exact Nat.le_refl _⟩, ⟨rt HO_3⟩, ⟨rt HO_4⟩, ⟨rt HO_5⟩, ⟨bel⟩⟩
      case rest =>
       clear HC18
       (try clear c1);(try clear c2);(try clear c2b0);(try clear c2b1);(try clear p2);(try clear c3);(try clear p6);(try clear c8);(try clear c8b0);(try clear c8b1);(try clear c9);(try clear c9b0);(try clear c9b1);(try clear c11);(try clear c11b0);(try clear c12);(try clear c12b0);(try clear c19);(try clear c19b0);(try clear p2);(try clear p6)
       obtain ⟨kq, x35_17, rfl, HA, HJ17, HO_3, HO_4, HO_5, HB⟩ := hcut
       cases kq with
       | zero => exact absurd HA.out (by simp [colanderref03_Sorted.j1])
       | succ kj17 =>
        have H := HA.out
        clear HA
        simp only [colanderref03_Sorted.j1] at H
        by_cases c23 : x35_17 = true
        ·subst c23
         have H1 : (if x7_1 = (t117.length : Int) then (if 0 ≤ x6_1 then (if x6_1 < (t113.length : Int) then (if x5_1.length < 8796093022208 then (colanderref03_Sorted.l0 kj17 t113 t117 (x5_1 ++ [rdOf ByteArray.empty t113 x6_1]) (wrap64 (x6_1 + 1)) x7_1) else (none)) else (none)) else (none)) else (if x6_1 < (t113.length : Int) then (if 0 ≤ x6_1 then (if 0 ≤ x7_1 then (if x7_1 < (t117.length : Int) then (if ((Op.bytesLess ((rdOf ByteArray.empty t117 x7_1).toList) ((rdOf ByteArray.empty t113 x6_1).toList)) = true) then (if x5_1.length < 8796093022208 then (colanderref03_Sorted.l0 kj17 t113 t117 (x5_1 ++ [rdOf ByteArray.empty t117 x7_1]) x6_1 (wrap64 (x7_1 + 1))) else (none)) else (if x5_1.length < 8796093022208 then (colanderref03_Sorted.l0 kj17 t113 t117 (x5_1 ++ [rdOf ByteArray.empty t113 x6_1]) (wrap64 (x6_1 + 1)) x7_1) else (none))) else (none)) else (none)) else (none)) else (if 0 ≤ x7_1 then (if x7_1 < (t117.length : Int) then (if x5_1.length < 8796093022208 then (colanderref03_Sorted.l0 kj17 t113 t117 (x5_1 ++ [rdOf ByteArray.empty t117 x7_1]) x6_1 (wrap64 (x7_1 + 1))) else (none)) else (none)) else (none)))) = some r := by rw [if_pos rfl] at H; exact H
         clear H
         have H := H1
         clear H1
         by_cases c24 : x7_1 = (t117.length : Int)
         ·rw [if_pos c24] at H
          have c24b0 : (x7_1 == (t117.length : Int)) = true := beq_iff_eq.mpr c24
          have c24b1 : (x7_1 != (t117.length : Int)) = false := bne_eq_false_iff_eq.mpr c24
          clear c24
          by_cases c25 : 0 ≤ x6_1
          ·rw [if_pos c25] at H
           have c25b0 : decide (0 ≤ x6_1) = true := decide_eq_true c25
           clear c25
           by_cases c26 : x6_1 < (t113.length : Int)
           ·rw [if_pos c26] at H
            have c26b0 : decide (x6_1 < (t113.length : Int)) = true := decide_eq_true c26
            clear c26
            by_cases c27 : x5_1.length < 8796093022208
            ·rw [if_pos c27] at H
             have LMc27 := Aside0.mk c27
             clear c27
             obtain ⟨y121, hy121⟩ : ∃ y_ : List ByteArray, y_ = (x5_1 ++ [rdOf ByteArray.empty t113 x6_1]) := ⟨_, rfl⟩
             replace H : (colanderref03_Sorted.l0 kj17 t113 t117 y121 (wrap64 (x6_1 + 1)) x7_1) = some r := by first | (rw [hy121]; with_reducible exact H) | (have H2_ := (Option.bind_some _ _).symm.trans H; rw [hy121]; with_reducible exact H2_) | (have H2_ := (Option.bind_some _ _).symm.trans H; with_reducible exact H2_) | with_reducible exact H | (rw [hy121]; exact H) | exact H
             have Ny121 := Aside0.mk hy121
             clear hy121
             have H' := Aside0.mk H
             clear H
             obtain ⟨Ao28, co28, eo28⟩ := Kd.R_slice HO_4.out
             subst eo28
             obtain ⟨Ao29, co29, eo29⟩ := Kd.R_slice HO_3.out
             subst eo29
             have p120 : 0 ≤ (x6_1 : Int) := of_decide_eq_true ass
             have q120 : x6_1 < (t113.length : Int) := of_decide_eq_true ass
             obtain ⟨ad120, e120, hx120_0⟩ := Kd.at_string (Kd.R_reads' HO_3.out).2.2 x6_1 p120 q120
             cases e120
             replace p120 := eq_true p120
             replace q120 := eq_true q120
             go_wp2_with (first | ((with_reducible refine gate_builtin (b := .append) (xs := #[.tmp 57, .tmp 62]) rfl ?_); (try (refine gate_guard (by rfl) ?_; dsimp only)); at_builtin; refine Kd.R_append Kd.string (w0 := w) w.heap.size rfl (.tmp 57) (.tmp 62) 25 9 (.string ⟨#[]⟩) 16 rfl Tryz.underlying25 info9 rfl (by decide) (by omega) u5 x5_1 (rdOf ByteArray.empty t113 x6_1) [.string (rdOf ByteArray.empty t113 x6_1)] (fun k_ => some k_ ≠ (.slice (some ad120) t113.length co29 : Value).ownBlock ∧ some k_ ≠ (.slice Ao28 t117.length co28 : Value).ownBlock) (fun _ => False) rfl rfl ?aP (fun _ hk => hk.elim) ?aF ?aO ?aB ?aS ?aL ?_; (case aP => exact rfl); (case aB => exact bel); (case aF => exact (fun k_ hk => ⟨Kd.fresh' (Kd.R_lt (rt HO_3)) k_ hk, Kd.fresh' (Kd.R_lt (rt HO_4)) k_ hk⟩)); (case aO => exact (rt HO_5)); (case aS => exact (below_size bel)); (case aL => have := LMc27.out; omega); intro v122 w30 ho hb hg hat; rw [← Ny121.out] at ho; have n0_ := Aside0.mk (Kd.R_after (ok := (fun k_ => some k_ ≠ (.slice Ao28 t117.length co28 : Value).ownBlock)) (rt HO_3) hg hat); have n1_ := Aside0.mk (Kd.R_after (ok := (fun k_ => some k_ ≠ (.slice (some ad120) t113.length co29 : Value).ownBlock)) (rt HO_4) hg hat); have n2_ := Aside0.mk (hb); have n3_ := Aside0.mk (ho); clear HO_3; clear HO_4; clear HB; clear HO_5; have HO_3 := n0_; have HO_4 := n1_; have HB := n2_; have HO123 := n3_; clear n0_ n1_ n2_ n3_; clear ho hb hg hat))
             repeat (go_quiet (first | ((with_reducible refine gate_builtin (b := .append) (xs := #[.tmp 57, .tmp 62]) rfl ?_); (try (refine gate_guard (by rfl) ?_; dsimp only)); at_builtin; refine Kd.R_append Kd.string (w0 := w) w.heap.size rfl (.tmp 57) (.tmp 62) 25 9 (.string ⟨#[]⟩) 16 rfl Tryz.underlying25 info9 rfl (by decide) (by omega) u5 x5_1 (rdOf ByteArray.empty t113 x6_1) [.string (rdOf ByteArray.empty t113 x6_1)] (fun k_ => some k_ ≠ (.slice (some ad120) t113.length co29 : Value).ownBlock ∧ some k_ ≠ (.slice Ao28 t117.length co28 : Value).ownBlock) (fun _ => False) rfl rfl ?aP (fun _ hk => hk.elim) ?aF ?aO ?aB ?aS ?aL ?_; (case aP => exact rfl); (case aB => exact bel); (case aF => exact (fun k_ hk => ⟨Kd.fresh' (Kd.R_lt (rt HO_3)) k_ hk, Kd.fresh' (Kd.R_lt (rt HO_4)) k_ hk⟩)); (case aO => exact (rt HO_5)); (case aS => exact (below_size bel)); (case aL => have := LMc27.out; omega); intro v122 w30 ho hb hg hat; rw [← Ny121.out] at ho; have n0_ := Aside0.mk (Kd.R_after (ok := (fun k_ => some k_ ≠ (.slice Ao28 t117.length co28 : Value).ownBlock)) (rt HO_3) hg hat); have n1_ := Aside0.mk (Kd.R_after (ok := (fun k_ => some k_ ≠ (.slice (some ad120) t113.length co29 : Value).ownBlock)) (rt HO_4) hg hat); have n2_ := Aside0.mk (hb); have n3_ := Aside0.mk (ho); clear HO_3; clear HO_4; clear HB; clear HO_5; have HO_3 := n0_; have HO_4 := n1_; have HB := n2_; have HO123 := n3_; clear n0_ n1_ n2_ n3_; clear ho hb hg hat)); try go_wp2_with (first | ((with_reducible refine gate_builtin (b := .append) (xs := #[.tmp 57, .tmp 62]) rfl ?_); (try (refine gate_guard (by rfl) ?_; dsimp only)); at_builtin; refine Kd.R_append Kd.string (w0 := w) w.heap.size rfl (.tmp 57) (.tmp 62) 25 9 (.string ⟨#[]⟩) 16 rfl Tryz.underlying25 info9 rfl (by decide) (by omega) u5 x5_1 (rdOf ByteArray.empty t113 x6_1) [.string (rdOf ByteArray.empty t113 x6_1)] (fun k_ => some k_ ≠ (.slice (some ad120) t113.length co29 : Value).ownBlock ∧ some k_ ≠ (.slice Ao28 t117.length co28 : Value).ownBlock) (fun _ => False) rfl rfl ?aP (fun _ hk => hk.elim) ?aF ?aO ?aB ?aS ?aL ?_; (case aP => exact rfl); (case aB => exact bel); (case aF => exact (fun k_ hk => ⟨Kd.fresh' (Kd.R_lt (rt HO_3)) k_ hk, Kd.fresh' (Kd.R_lt (rt HO_4)) k_ hk⟩)); (case aO => exact (rt HO_5)); (case aS => exact (below_size bel)); (case aL => have := LMc27.out; omega); intro v122 w30 ho hb hg hat; rw [← Ny121.out] at ho; have n0_ := Aside0.mk (Kd.R_after (ok := (fun k_ => some k_ ≠ (.slice Ao28 t117.length co28 : Value).ownBlock)) (rt HO_3) hg hat); have n1_ := Aside0.mk (Kd.R_after (ok := (fun k_ => some k_ ≠ (.slice (some ad120) t113.length co29 : Value).ownBlock)) (rt HO_4) hg hat); have n2_ := Aside0.mk (hb); have n3_ := Aside0.mk (ho); clear HO_3; clear HO_4; clear HB; clear HO_5; have HO_3 := n0_; have HO_4 := n1_; have HB := n2_; have HO123 := n3_; clear n0_ n1_ n2_ n3_; clear ho hb hg hat)))
             go_roundg kj17
             case measure => have := HK1.out; have := HJ17.out; omega
             case rel => exact ⟨(y121), (wrap64 (x6_1 + 1)), (x7_1), pv, pv, H', ⟨by have := HK1.out; have := HJ17.out; omega⟩, ⟨rt HO_3⟩, ⟨rt HO_4⟩, ⟨rt HO123⟩, ⟨bel⟩⟩
            ·rw [if_neg c27] at H
             exact absurd H (by simp)
           ·rw [if_neg c26] at H
            exact absurd H (by simp)
          ·rw [if_neg c25] at H
           exact absurd H (by simp)
         ·rw [if_neg c24] at H
          have c24b0 : (x7_1 == (t117.length : Int)) = false := beq_eq_false_iff_ne.mpr c24
          have c24b1 : (x7_1 != (t117.length : Int)) = true := bne_iff_ne.mpr c24
          by_cases c31 : x6_1 < (t113.length : Int)
          ·rw [if_pos c31] at H
           have c31b0 : decide (x6_1 < (t113.length : Int)) = true := decide_eq_true c31
           clear c31
           by_cases c32 : 0 ≤ x6_1
           ·rw [if_pos c32] at H
            have c32b0 : decide (0 ≤ x6_1) = true := decide_eq_true c32
            clear c32
            by_cases c33 : 0 ≤ x7_1
            ·rw [if_pos c33] at H
             have c33b0 : decide (0 ≤ x7_1) = true := decide_eq_true c33
             clear c33
             by_cases c34 : x7_1 < (t117.length : Int)
             ·rw [if_pos c34] at H
              have c34b0 : decide (x7_1 < (t117.length : Int)) = true := decide_eq_true c34
              clear c34
              by_cases c35 : ((Op.bytesLess ((rdOf ByteArray.empty t117 x7_1).toList) ((rdOf ByteArray.empty t113 x6_1).toList)) = true)
              ·rw [if_pos c35] at H
               have c35b0 : (Op.bytesLess ((rdOf ByteArray.empty t117 x7_1).toList) ((rdOf ByteArray.empty t113 x6_1).toList)) = true := c35
               clear c35
               by_cases c36 : x5_1.length < 8796093022208
               ·rw [if_pos c36] at H
                have LMc36 := Aside0.mk c36
                clear c36
                obtain ⟨y127, hy127⟩ : ∃ y_ : List ByteArray, y_ = (x5_1 ++ [rdOf ByteArray.empty t117 x7_1]) := ⟨_, rfl⟩
                replace H : (colanderref03_Sorted.l0 kj17 t113 t117 y127 x6_1 (wrap64 (x7_1 + 1))) = some r := by first | (rw [hy127]; with_reducible exact H) | (have H2_ := (Option.bind_some _ _).symm.trans H; rw [hy127]; with_reducible exact H2_) | (have H2_ := (Option.bind_some _ _).symm.trans H; with_reducible exact H2_) | with_reducible exact H | (rw [hy127]; exact H) | exact H
                have Ny127 := Aside0.mk hy127
                clear hy127
                have H' := Aside0.mk H
                clear H
                obtain ⟨Ao37, co37, eo37⟩ := Kd.R_slice HO_4.out
                subst eo37
                obtain ⟨Ao38, co38, eo38⟩ := Kd.R_slice HO_3.out
                subst eo38
                have p124 : 0 ≤ (x6_1 : Int) := of_decide_eq_true ass
                have q124 : x6_1 < (t113.length : Int) := of_decide_eq_true ass
                obtain ⟨ad124, e124, hx124_0⟩ := Kd.at_string (Kd.R_reads' HO_3.out).2.2 x6_1 p124 q124
                cases e124
                replace p124 := eq_true p124
                replace q124 := eq_true q124
                have p125 : 0 ≤ (x7_1 : Int) := of_decide_eq_true ass
                have q125 : x7_1 < (t117.length : Int) := of_decide_eq_true ass
                obtain ⟨ad125, e125, hx125_0⟩ := Kd.at_string (Kd.R_reads' HO_4.out).2.2 x7_1 p125 q125
                cases e125
                replace p125 := eq_true p125
                replace q125 := eq_true q125
                have p126 : 0 ≤ (x7_1 : Int) := of_decide_eq_true ass
                have q126 : x7_1 < (t117.length : Int) := of_decide_eq_true ass
                obtain ⟨ad126, e126, hx126_0⟩ := Kd.at_string (Kd.R_reads' HO_4.out).2.2 x7_1 p126 q126
                obtain rfl : ad125 = ad126 := (by injection e126)
                replace p126 := eq_true p126
                replace q126 := eq_true q126
                go_wp2_with (first | ((with_reducible refine gate_builtin (b := .append) (xs := #[.tmp 66, .tmp 71]) rfl ?_); (try (refine gate_guard (by rfl) ?_; dsimp only)); at_builtin; refine Kd.R_append Kd.string (w0 := w) w.heap.size rfl (.tmp 66) (.tmp 71) 25 9 (.string ⟨#[]⟩) 16 rfl Tryz.underlying25 info9 rfl (by decide) (by omega) u5 x5_1 (rdOf ByteArray.empty t117 x7_1) [.string (rdOf ByteArray.empty t117 x7_1)] (fun k_ => some k_ ≠ (.slice (some ad124) t113.length co38 : Value).ownBlock ∧ some k_ ≠ (.slice (some ad125) t117.length co37 : Value).ownBlock) (fun _ => False) rfl rfl ?aP (fun _ hk => hk.elim) ?aF ?aO ?aB ?aS ?aL ?_; (case aP => exact rfl); (case aB => exact bel); (case aF => exact (fun k_ hk => ⟨Kd.fresh' (Kd.R_lt (rt HO_3)) k_ hk, Kd.fresh' (Kd.R_lt (rt HO_4)) k_ hk⟩)); (case aO => exact (rt HO_5)); (case aS => exact (below_size bel)); (case aL => have := LMc36.out; omega); intro v128 w39 ho hb hg hat; rw [← Ny127.out] at ho; have n0_ := Aside0.mk (Kd.R_after (ok := (fun k_ => some k_ ≠ (.slice (some ad125) t117.length co37 : Value).ownBlock)) (rt HO_3) hg hat); have n1_ := Aside0.mk (Kd.R_after (ok := (fun k_ => some k_ ≠ (.slice (some ad124) t113.length co38 : Value).ownBlock)) (rt HO_4) hg hat); have n2_ := Aside0.mk (hb); have n3_ := Aside0.mk (ho); clear HO_3; clear HO_4; clear HB; clear HO_5; have HO_3 := n0_; have HO_4 := n1_; have HB := n2_; have HO129 := n3_; clear n0_ n1_ n2_ n3_; clear ho hb hg hat))
                repeat (go_quiet (first | ((with_reducible refine gate_builtin (b := .append) (xs := #[.tmp 66, .tmp 71]) rfl ?_); (try (refine gate_guard (by rfl) ?_; dsimp only)); at_builtin; refine Kd.R_append Kd.string (w0 := w) w.heap.size rfl (.tmp 66) (.tmp 71) 25 9 (.string ⟨#[]⟩) 16 rfl Tryz.underlying25 info9 rfl (by decide) (by omega) u5 x5_1 (rdOf ByteArray.empty t117 x7_1) [.string (rdOf ByteArray.empty t117 x7_1)] (fun k_ => some k_ ≠ (.slice (some ad124) t113.length co38 : Value).ownBlock ∧ some k_ ≠ (.slice (some ad125) t117.length co37 : Value).ownBlock) (fun _ => False) rfl rfl ?aP (fun _ hk => hk.elim) ?aF ?aO ?aB ?aS ?aL ?_; (case aP => exact rfl); (case aB => exact bel); (case aF => exact (fun k_ hk => ⟨Kd.fresh' (Kd.R_lt (rt HO_3)) k_ hk, Kd.fresh' (Kd.R_lt (rt HO_4)) k_ hk⟩)); (case aO => exact (rt HO_5)); (case aS => exact (below_size bel)); (case aL => have := LMc36.out; omega); intro v128 w39 ho hb hg hat; rw [← Ny127.out] at ho; have n0_ := Aside0.mk (Kd.R_after (ok := (fun k_ => some k_ ≠ (.slice (some ad125) t117.length co37 : Value).ownBlock)) (rt HO_3) hg hat); have n1_ := Aside0.mk (Kd.R_after (ok := (fun k_ => some k_ ≠ (.slice (some ad124) t113.length co38 : Value).ownBlock)) (rt HO_4) hg hat); have n2_ := Aside0.mk (hb); have n3_ := Aside0.mk (ho); clear HO_3; clear HO_4; clear HB; clear HO_5; have HO_3 := n0_; have HO_4 := n1_; have HB := n2_; have HO129 := n3_; clear n0_ n1_ n2_ n3_; clear ho hb hg hat)); try go_wp2_with (first | ((with_reducible refine gate_builtin (b := .append) (xs := #[.tmp 66, .tmp 71]) rfl ?_); (try (refine gate_guard (by rfl) ?_; dsimp only)); at_builtin; refine Kd.R_append Kd.string (w0 := w) w.heap.size rfl (.tmp 66) (.tmp 71) 25 9 (.string ⟨#[]⟩) 16 rfl Tryz.underlying25 info9 rfl (by decide) (by omega) u5 x5_1 (rdOf ByteArray.empty t117 x7_1) [.string (rdOf ByteArray.empty t117 x7_1)] (fun k_ => some k_ ≠ (.slice (some ad124) t113.length co38 : Value).ownBlock ∧ some k_ ≠ (.slice (some ad125) t117.length co37 : Value).ownBlock) (fun _ => False) rfl rfl ?aP (fun _ hk => hk.elim) ?aF ?aO ?aB ?aS ?aL ?_; (case aP => exact rfl); (case aB => exact bel); (case aF => exact (fun k_ hk => ⟨Kd.fresh' (Kd.R_lt (rt HO_3)) k_ hk, Kd.fresh' (Kd.R_lt (rt HO_4)) k_ hk⟩)); (case aO => exact (rt HO_5)); (case aS => exact (below_size bel)); (case aL => have := LMc36.out; omega); intro v128 w39 ho hb hg hat; rw [← Ny127.out] at ho; have n0_ := Aside0.mk (Kd.R_after (ok := (fun k_ => some k_ ≠ (.slice (some ad125) t117.length co37 : Value).ownBlock)) (rt HO_3) hg hat); have n1_ := Aside0.mk (Kd.R_after (ok := (fun k_ => some k_ ≠ (.slice (some ad124) t113.length co38 : Value).ownBlock)) (rt HO_4) hg hat); have n2_ := Aside0.mk (hb); have n3_ := Aside0.mk (ho); clear HO_3; clear HO_4; clear HB; clear HO_5; have HO_3 := n0_; have HO_4 := n1_; have HB := n2_; have HO129 := n3_; clear n0_ n1_ n2_ n3_; clear ho hb hg hat)))
                go_roundg kj17
                case measure => have := HK1.out; have := HJ17.out; omega
                case rel => exact ⟨(y127), (x6_1), (wrap64 (x7_1 + 1)), pv, pv, H', ⟨by have := HK1.out; have := HJ17.out; omega⟩, ⟨rt HO_3⟩, ⟨rt HO_4⟩, ⟨rt HO129⟩, ⟨bel⟩⟩
               ·rw [if_neg c36] at H
                exact absurd H (by simp)
              ·rw [if_neg c35] at H
               have c35b0 : (Op.bytesLess ((rdOf ByteArray.empty t117 x7_1).toList) ((rdOf ByteArray.empty t113 x6_1).toList)) = false := by simpa using c35
               clear c35
               by_cases c40 : x5_1.length < 8796093022208
               ·rw [if_pos c40] at H
                have LMc40 := Aside0.mk c40
                clear c40
                obtain ⟨y131, hy131⟩ : ∃ y_ : List ByteArray, y_ = (x5_1 ++ [rdOf ByteArray.empty t113 x6_1]) := ⟨_, rfl⟩
                replace H : (colanderref03_Sorted.l0 kj17 t113 t117 y131 (wrap64 (x6_1 + 1)) x7_1) = some r := by first | (rw [hy131]; with_reducible exact H) | (have H2_ := (Option.bind_some _ _).symm.trans H; rw [hy131]; with_reducible exact H2_) | (have H2_ := (Option.bind_some _ _).symm.trans H; with_reducible exact H2_) | with_reducible exact H | (rw [hy131]; exact H) | exact H
                have Ny131 := Aside0.mk hy131
                clear hy131
                have H' := Aside0.mk H
                clear H
                obtain ⟨Ao41, co41, eo41⟩ := Kd.R_slice HO_4.out
                subst eo41
                obtain ⟨Ao42, co42, eo42⟩ := Kd.R_slice HO_3.out
                subst eo42
                have p124 : 0 ≤ (x6_1 : Int) := of_decide_eq_true ass
                have q124 : x6_1 < (t113.length : Int) := of_decide_eq_true ass
                obtain ⟨ad124, e124, hx124_0⟩ := Kd.at_string (Kd.R_reads' HO_3.out).2.2 x6_1 p124 q124
                cases e124
                replace p124 := eq_true p124
                replace q124 := eq_true q124
                have p125 : 0 ≤ (x7_1 : Int) := of_decide_eq_true ass
                have q125 : x7_1 < (t117.length : Int) := of_decide_eq_true ass
                obtain ⟨ad125, e125, hx125_0⟩ := Kd.at_string (Kd.R_reads' HO_4.out).2.2 x7_1 p125 q125
                cases e125
                replace p125 := eq_true p125
                replace q125 := eq_true q125
                have p130 : 0 ≤ (x6_1 : Int) := of_decide_eq_true ass
                have q130 : x6_1 < (t113.length : Int) := of_decide_eq_true ass
                obtain ⟨ad130, e130, hx130_0⟩ := Kd.at_string (Kd.R_reads' HO_3.out).2.2 x6_1 p130 q130
                obtain rfl : ad124 = ad130 := (by injection e130)
                replace p130 := eq_true p130
                replace q130 := eq_true q130
                go_wp2_with (first | ((with_reducible refine gate_builtin (b := .append) (xs := #[.tmp 57, .tmp 62]) rfl ?_); (try (refine gate_guard (by rfl) ?_; dsimp only)); at_builtin; refine Kd.R_append Kd.string (w0 := w) w.heap.size rfl (.tmp 57) (.tmp 62) 25 9 (.string ⟨#[]⟩) 16 rfl Tryz.underlying25 info9 rfl (by decide) (by omega) u5 x5_1 (rdOf ByteArray.empty t113 x6_1) [.string (rdOf ByteArray.empty t113 x6_1)] (fun k_ => some k_ ≠ (.slice (some ad124) t113.length co42 : Value).ownBlock ∧ some k_ ≠ (.slice (some ad125) t117.length co41 : Value).ownBlock) (fun _ => False) rfl rfl ?aP (fun _ hk => hk.elim) ?aF ?aO ?aB ?aS ?aL ?_; (case aP => exact rfl); (case aB => exact bel); (case aF => exact (fun k_ hk => ⟨Kd.fresh' (Kd.R_lt (rt HO_3)) k_ hk, Kd.fresh' (Kd.R_lt (rt HO_4)) k_ hk⟩)); (case aO => exact (rt HO_5)); (case aS => exact (below_size bel)); (case aL => have := LMc40.out; omega); intro v132 w43 ho hb hg hat; rw [← Ny131.out] at ho; have n0_ := Aside0.mk (Kd.R_after (ok := (fun k_ => some k_ ≠ (.slice (some ad125) t117.length co41 : Value).ownBlock)) (rt HO_3) hg hat); have n1_ := Aside0.mk (Kd.R_after (ok := (fun k_ => some k_ ≠ (.slice (some ad124) t113.length co42 : Value).ownBlock)) (rt HO_4) hg hat); have n2_ := Aside0.mk (hb); have n3_ := Aside0.mk (ho); clear HO_3; clear HO_4; clear HB; clear HO_5; have HO_3 := n0_; have HO_4 := n1_; have HB := n2_; have HO133 := n3_; clear n0_ n1_ n2_ n3_; clear ho hb hg hat))
                repeat (go_quiet (first | ((with_reducible refine gate_builtin (b := .append) (xs := #[.tmp 57, .tmp 62]) rfl ?_); (try (refine gate_guard (by rfl) ?_; dsimp only)); at_builtin; refine Kd.R_append Kd.string (w0 := w) w.heap.size rfl (.tmp 57) (.tmp 62) 25 9 (.string ⟨#[]⟩) 16 rfl Tryz.underlying25 info9 rfl (by decide) (by omega) u5 x5_1 (rdOf ByteArray.empty t113 x6_1) [.string (rdOf ByteArray.empty t113 x6_1)] (fun k_ => some k_ ≠ (.slice (some ad124) t113.length co42 : Value).ownBlock ∧ some k_ ≠ (.slice (some ad125) t117.length co41 : Value).ownBlock) (fun _ => False) rfl rfl ?aP (fun _ hk => hk.elim) ?aF ?aO ?aB ?aS ?aL ?_; (case aP => exact rfl); (case aB => exact bel); (case aF => exact (fun k_ hk => ⟨Kd.fresh' (Kd.R_lt (rt HO_3)) k_ hk, Kd.fresh' (Kd.R_lt (rt HO_4)) k_ hk⟩)); (case aO => exact (rt HO_5)); (case aS => exact (below_size bel)); (case aL => have := LMc40.out; omega); intro v132 w43 ho hb hg hat; rw [← Ny131.out] at ho; have n0_ := Aside0.mk (Kd.R_after (ok := (fun k_ => some k_ ≠ (.slice (some ad125) t117.length co41 : Value).ownBlock)) (rt HO_3) hg hat); have n1_ := Aside0.mk (Kd.R_after (ok := (fun k_ => some k_ ≠ (.slice (some ad124) t113.length co42 : Value).ownBlock)) (rt HO_4) hg hat); have n2_ := Aside0.mk (hb); have n3_ := Aside0.mk (ho); clear HO_3; clear HO_4; clear HB; clear HO_5; have HO_3 := n0_; have HO_4 := n1_; have HB := n2_; have HO133 := n3_; clear n0_ n1_ n2_ n3_; clear ho hb hg hat)); try go_wp2_with (first | ((with_reducible refine gate_builtin (b := .append) (xs := #[.tmp 57, .tmp 62]) rfl ?_); (try (refine gate_guard (by rfl) ?_; dsimp only)); at_builtin; refine Kd.R_append Kd.string (w0 := w) w.heap.size rfl (.tmp 57) (.tmp 62) 25 9 (.string ⟨#[]⟩) 16 rfl Tryz.underlying25 info9 rfl (by decide) (by omega) u5 x5_1 (rdOf ByteArray.empty t113 x6_1) [.string (rdOf ByteArray.empty t113 x6_1)] (fun k_ => some k_ ≠ (.slice (some ad124) t113.length co42 : Value).ownBlock ∧ some k_ ≠ (.slice (some ad125) t117.length co41 : Value).ownBlock) (fun _ => False) rfl rfl ?aP (fun _ hk => hk.elim) ?aF ?aO ?aB ?aS ?aL ?_; (case aP => exact rfl); (case aB => exact bel); (case aF => exact (fun k_ hk => ⟨Kd.fresh' (Kd.R_lt (rt HO_3)) k_ hk, Kd.fresh' (Kd.R_lt (rt HO_4)) k_ hk⟩)); (case aO => exact (rt HO_5)); (case aS => exact (below_size bel)); (case aL => have := LMc40.out; omega); intro v132 w43 ho hb hg hat; rw [← Ny131.out] at ho; have n0_ := Aside0.mk (Kd.R_after (ok := (fun k_ => some k_ ≠ (.slice (some ad125) t117.length co41 : Value).ownBlock)) (rt HO_3) hg hat); have n1_ := Aside0.mk (Kd.R_after (ok := (fun k_ => some k_ ≠ (.slice (some ad124) t113.length co42 : Value).ownBlock)) (rt HO_4) hg hat); have n2_ := Aside0.mk (hb); have n3_ := Aside0.mk (ho); clear HO_3; clear HO_4; clear HB; clear HO_5; have HO_3 := n0_; have HO_4 := n1_; have HB := n2_; have HO133 := n3_; clear n0_ n1_ n2_ n3_; clear ho hb hg hat)))
                go_roundg kj17
                case measure => have := HK1.out; have := HJ17.out; omega
                case rel => exact ⟨(y131), (wrap64 (x6_1 + 1)), (x7_1), pv, pv, H', ⟨by have := HK1.out; have := HJ17.out; omega⟩, ⟨rt HO_3⟩, ⟨rt HO_4⟩, ⟨rt HO133⟩, ⟨bel⟩⟩
               ·rw [if_neg c40] at H
                exact absurd H (by simp)
             ·rw [if_neg c34] at H
              exact absurd H (by simp)
            ·rw [if_neg c33] at H
             exact absurd H (by simp)
           ·rw [if_neg c32] at H
            exact absurd H (by simp)
          ·rw [if_neg c31] at H
           have c31b0 : decide (x6_1 < (t113.length : Int)) = false := decide_eq_false c31
           clear c31
           by_cases c44 : 0 ≤ x7_1
           ·rw [if_pos c44] at H
            have c44b0 : decide (0 ≤ x7_1) = true := decide_eq_true c44
            clear c44
            by_cases c45 : x7_1 < (t117.length : Int)
            ·rw [if_pos c45] at H
             have c45b0 : decide (x7_1 < (t117.length : Int)) = true := decide_eq_true c45
             clear c45
             by_cases c46 : x5_1.length < 8796093022208
             ·rw [if_pos c46] at H
              have LMc46 := Aside0.mk c46
              clear c46
              obtain ⟨y135, hy135⟩ : ∃ y_ : List ByteArray, y_ = (x5_1 ++ [rdOf ByteArray.empty t117 x7_1]) := ⟨_, rfl⟩
              replace H : (colanderref03_Sorted.l0 kj17 t113 t117 y135 x6_1 (wrap64 (x7_1 + 1))) = some r := by first | (rw [hy135]; with_reducible exact H) | (have H2_ := (Option.bind_some _ _).symm.trans H; rw [hy135]; with_reducible exact H2_) | (have H2_ := (Option.bind_some _ _).symm.trans H; with_reducible exact H2_) | with_reducible exact H | (rw [hy135]; exact H) | exact H
              have Ny135 := Aside0.mk hy135
              clear hy135
              have H' := Aside0.mk H
              clear H
              obtain ⟨Ao47, co47, eo47⟩ := Kd.R_slice HO_4.out
              subst eo47
              obtain ⟨Ao48, co48, eo48⟩ := Kd.R_slice HO_3.out
              subst eo48
              have p134 : 0 ≤ (x7_1 : Int) := of_decide_eq_true ass
              have q134 : x7_1 < (t117.length : Int) := of_decide_eq_true ass
              obtain ⟨ad134, e134, hx134_0⟩ := Kd.at_string (Kd.R_reads' HO_4.out).2.2 x7_1 p134 q134
              cases e134
              replace p134 := eq_true p134
              replace q134 := eq_true q134
              go_wp2_with (first | ((with_reducible refine gate_builtin (b := .append) (xs := #[.tmp 66, .tmp 71]) rfl ?_); (try (refine gate_guard (by rfl) ?_; dsimp only)); at_builtin; refine Kd.R_append Kd.string (w0 := w) w.heap.size rfl (.tmp 66) (.tmp 71) 25 9 (.string ⟨#[]⟩) 16 rfl Tryz.underlying25 info9 rfl (by decide) (by omega) u5 x5_1 (rdOf ByteArray.empty t117 x7_1) [.string (rdOf ByteArray.empty t117 x7_1)] (fun k_ => some k_ ≠ (.slice Ao48 t113.length co48 : Value).ownBlock ∧ some k_ ≠ (.slice (some ad134) t117.length co47 : Value).ownBlock) (fun _ => False) rfl rfl ?aP (fun _ hk => hk.elim) ?aF ?aO ?aB ?aS ?aL ?_; (case aP => exact rfl); (case aB => exact bel); (case aF => exact (fun k_ hk => ⟨Kd.fresh' (Kd.R_lt (rt HO_3)) k_ hk, Kd.fresh' (Kd.R_lt (rt HO_4)) k_ hk⟩)); (case aO => exact (rt HO_5)); (case aS => exact (below_size bel)); (case aL => have := LMc46.out; omega); intro v136 w49 ho hb hg hat; rw [← Ny135.out] at ho; have n0_ := Aside0.mk (Kd.R_after (ok := (fun k_ => some k_ ≠ (.slice (some ad134) t117.length co47 : Value).ownBlock)) (rt HO_3) hg hat); have n1_ := Aside0.mk (Kd.R_after (ok := (fun k_ => some k_ ≠ (.slice Ao48 t113.length co48 : Value).ownBlock)) (rt HO_4) hg hat); have n2_ := Aside0.mk (hb); have n3_ := Aside0.mk (ho); clear HO_3; clear HO_4; clear HB; clear HO_5; have HO_3 := n0_; have HO_4 := n1_; have HB := n2_; have HO137 := n3_; clear n0_ n1_ n2_ n3_; clear ho hb hg hat))
              repeat (go_quiet (first | ((with_reducible refine gate_builtin (b := .append) (xs := #[.tmp 66, .tmp 71]) rfl ?_); (try (refine gate_guard (by rfl) ?_; dsimp only)); at_builtin; refine Kd.R_append Kd.string (w0 := w) w.heap.size rfl (.tmp 66) (.tmp 71) 25 9 (.string ⟨#[]⟩) 16 rfl Tryz.underlying25 info9 rfl (by decide) (by omega) u5 x5_1 (rdOf ByteArray.empty t117 x7_1) [.string (rdOf ByteArray.empty t117 x7_1)] (fun k_ => some k_ ≠ (.slice Ao48 t113.length co48 : Value).ownBlock ∧ some k_ ≠ (.slice (some ad134) t117.length co47 : Value).ownBlock) (fun _ => False) rfl rfl ?aP (fun _ hk => hk.elim) ?aF ?aO ?aB ?aS ?aL ?_; (case aP => exact rfl); (case aB => exact bel); (case aF => exact (fun k_ hk => ⟨Kd.fresh' (Kd.R_lt (rt HO_3)) k_ hk, Kd.fresh' (Kd.R_lt (rt HO_4)) k_ hk⟩)); (case aO => exact (rt HO_5)); (case aS => exact (below_size bel)); (case aL => have := LMc46.out; omega); intro v136 w49 ho hb hg hat; rw [← Ny135.out] at ho; have n0_ := Aside0.mk (Kd.R_after (ok := (fun k_ => some k_ ≠ (.slice (some ad134) t117.length co47 : Value).ownBlock)) (rt HO_3) hg hat); have n1_ := Aside0.mk (Kd.R_after (ok := (fun k_ => some k_ ≠ (.slice Ao48 t113.length co48 : Value).ownBlock)) (rt HO_4) hg hat); have n2_ := Aside0.mk (hb); have n3_ := Aside0.mk (ho); clear HO_3; clear HO_4; clear HB; clear HO_5; have HO_3 := n0_; have HO_4 := n1_; have HB := n2_; have HO137 := n3_; clear n0_ n1_ n2_ n3_; clear ho hb hg hat)); try go_wp2_with (first | ((with_reducible refine gate_builtin (b := .append) (xs := #[.tmp 66, .tmp 71]) rfl ?_); (try (refine gate_guard (by rfl) ?_; dsimp only)); at_builtin; refine Kd.R_append Kd.string (w0 := w) w.heap.size rfl (.tmp 66) (.tmp 71) 25 9 (.string ⟨#[]⟩) 16 rfl Tryz.underlying25 info9 rfl (by decide) (by omega) u5 x5_1 (rdOf ByteArray.empty t117 x7_1) [.string (rdOf ByteArray.empty t117 x7_1)] (fun k_ => some k_ ≠ (.slice Ao48 t113.length co48 : Value).ownBlock ∧ some k_ ≠ (.slice (some ad134) t117.length co47 : Value).ownBlock) (fun _ => False) rfl rfl ?aP (fun _ hk => hk.elim) ?aF ?aO ?aB ?aS ?aL ?_; (case aP => exact rfl); (case aB => exact bel); (case aF => exact (fun k_ hk => ⟨Kd.fresh' (Kd.R_lt (rt HO_3)) k_ hk, Kd.fresh' (Kd.R_lt (rt HO_4)) k_ hk⟩)); (case aO => exact (rt HO_5)); (case aS => exact (below_size bel)); (case aL => have := LMc46.out; omega); intro v136 w49 ho hb hg hat; rw [← Ny135.out] at ho; have n0_ := Aside0.mk (Kd.R_after (ok := (fun k_ => some k_ ≠ (.slice (some ad134) t117.length co47 : Value).ownBlock)) (rt HO_3) hg hat); have n1_ := Aside0.mk (Kd.R_after (ok := (fun k_ => some k_ ≠ (.slice Ao48 t113.length co48 : Value).ownBlock)) (rt HO_4) hg hat); have n2_ := Aside0.mk (hb); have n3_ := Aside0.mk (ho); clear HO_3; clear HO_4; clear HB; clear HO_5; have HO_3 := n0_; have HO_4 := n1_; have HB := n2_; have HO137 := n3_; clear n0_ n1_ n2_ n3_; clear ho hb hg hat)))
              go_roundg kj17
              case measure => have := HK1.out; have := HJ17.out; omega
              case rel => exact ⟨(y135), (x6_1), (wrap64 (x7_1 + 1)), pv, pv, H', ⟨by have := HK1.out; have := HJ17.out; omega⟩, ⟨rt HO_3⟩, ⟨rt HO_4⟩, ⟨rt HO137⟩, ⟨bel⟩⟩
             ·rw [if_neg c46] at H
              exact absurd H (by simp)
            ·rw [if_neg c45] at H
             exact absurd H (by simp)
           ·rw [if_neg c44] at H
            exact absurd H (by simp)
        ·replace c23 := Bool.eq_false_iff.mpr c23
         subst c23
         have H1 : (some x5_1) = some r := by rw [if_neg (show ¬ (false = true) by decide)] at H; exact H
         clear H
         have H := H1
         clear H1
         obtain rfl := Option.some.inj H
         go_wp2
         repeat (go_quiet (fail); try go_wp2)
         go_ret
         exact ⟨_, by first | rfl | (simp [errW_none, errW_some] <;> rfl) | (simp only [← hji7]; first | rfl | (simp [errW_none, errW_some] <;> rfl)) | (simp [*, errW_none, errW_some] <;> rfl), by (with_reducible repeat (first | apply Kd.R_alloc | apply Kd.R_drewN | apply Kd.R_drew)); exact Kd.R_mono HO_5.out (fun _ hk => trivial), bel⟩
   ·rw [if_neg c9] at H
    exact absurd H (by simp)
  ·rw [if_neg c8] at H
   exact absurd H (by simp)
end Go.Proofs.YtmpmbnmldmpmiaaGreatDoor.A
