/- value.apart by hand: a map of strings as a set: the keys are valid and unlike each other. -/
import Derived.Test.YtmpmbnmldmpmiaaGreatDoorShort
import Derived.Test.YtmpmbnmldmpmiaaGreatDoorHandTabs
import Derived.Test.YtmpmbnmldmpmiaaGreatDoorA25
import Derived.Maps.OwnSet
import Derived.Maps.Views
import Derived.StringKeys
set_option linter.unusedVariables false
namespace Go.Proofs.YtmpmbnmldmpmiaaGreatDoor.A
open Go.RowKit Go.Maps Go.Proofs.YtmpmbnmldmpmiaaGreatDoorW.PrintWords Go.Proofs.YtmpmbnmldmpmiaaGreatDoorW.PrintLast Go.Proofs.YtmpmbnmldmpmiaaGreatDoorW.PrintMore Go.Proofs.YtmpmbnmldmpmiaaGreatDoorW.Short
/-- Each of the keys is valid, and none of those that were seen, nor of those ahead of it. -/
def apartB : List (List UInt8) → List ByteArray → Bool
  | _, [] => true
  | seen, x :: r => Lib.validD x.data.toList && (!seen.contains x.data.toList && apartB (x.data.toList :: seen) r)
def value_apart.f (l : List ByteArray) : Option Bool :=
  if l.length ≤ 140737488351232 ∧ (l.all fun x => decide (x.size ≤ 9223372036854775807)) = true then some (apartB [] l) else none
theorem keyed_apart : Keyed Tryz.prog 9 := string_keyed Tryz.underlying9
theorem zero_apart (w : World) : (zeroValue 3).run Tryz.prog w = .ok (.int .i64 0) w := by kernel_rfl
theorem make_apart (n : Int) (w : World) : (Instr.makeMap 119 (some (.int .i64 n))).run Tryz.prog w = .ok (.map (some w.heap.size)) (w.alloc (.map #[] 0)) := by kernel_rfl
theorem runes_Valid.f_eq (s : ByteArray) (h : s.size ≤ 9223372036854775807) : runes_Valid.f s = some (Lib.validD s.data.toList) := by
  simp [runes_Valid.f, utf8_ValidString.f, h]
theorem apart_step {D : DataW Unit} {seen : List (List UInt8)} (hm : IsMap D) (hs : ∀ x, has D (.string x) = seen.contains x) (y : List UInt8) (d : DataW Unit) :
    IsMap (D.put (.string y) d) ∧ ∀ x, has (D.put (.string y) d) (.string x) = (y :: seen).contains x := by
  refine ⟨hm.put _ _, fun x => ?_⟩
  by_cases e : x = y
  · subst e
    rw [has_put_same hm (show WideAt.IsKeyLit (.string x) from trivial)]
    simp
  · rw [has_put_other (by simpa using e), hs]
    simp [e]
theorem own_below {w w1 : World} {P : Program} {k : TypeId} {R : Value → Option (DataW Unit × List MemPlace)} {b n : Nat} {D : DataW Unit} (h : w.ownsMap P k R b n D) (hb : Below w.heap.size w w1) : w1.ownsMap P k R b n D := by
  obtain ⟨es, clock, h1, h2⟩ := h
  exact ⟨es, clock, (hb.block b (Array.getElem?_eq_some_iff.1 h1).1).trans h1, h2⟩
set_option maxHeartbeats 8000000 in
set_option maxRecDepth 100000 in
theorem value_apart.calls (A0 : Option Addr) (c0 : Nat) (l0 : List ByteArray) (r : Bool) (w : World) (hr0 : Kd.C Kd.string w A0 l0.length l0) (hc0 : l0.length ≤ c0) (hT : Tabs w) (h : value_apart.f l0 = some r) :
    Calls Tryz.prog 103 #[.slice A0 l0.length c0] w fun e w' => e = .returned (.bool r) ∧ Below w.heap.size w w' := by
  unfold value_apart.f at h
  split at h
  case isFalse => exact absurd h (by simp)
  rename_i hcond
  obtain ⟨hlen, hsz⟩ := hcond
  have hsz : ∀ x ∈ l0, x.size ≤ 9223372036854775807 := by simpa using hsz
  have HS := Aside0.mk hsz
  clear hsz
  have H := Aside0.mk (Option.some.inj h)
  clear h
  have HR0 := Aside0.mk hr0
  have HC0 := Aside0.mk hc0
  clear hr0 hc0
  have hmm := make_apart
  go_enter Tryz.func103, Tryz.ntmps103
  go_wp2
  go_loopg [13] (l0.length + 1) (fun g v wr => ∃ (i : Int) (D : DataW Unit) (seen : List (List UInt8)), v = .int .i64 i ∧ 0 ≤ i ∧ Aside0 (i ≤ l0.length ∧ g = l0.length + 1 - i.toNat) ∧
    Aside0 (wr.ownsMap Tryz.prog 9 (plainElem Tryz.prog 3) w.heap.size i.toNat D) ∧ Aside0 (IsMap D ∧ ∀ x, has D (.string x) = seen.contains x) ∧ Aside0 (apartB seen (l0.drop i.toNat) = r) ∧ Aside0 (Below w.heap.size w wr))
  case atStart => exact ⟨0, .map [], [], rfl, Int.le_refl _, ⟨by omega, by simp⟩, ⟨World.ownsMap_made _ _ _ _⟩, ⟨isMap_empty, fun x => rfl⟩, ⟨by simpa using H.out⟩, ⟨(Below.refl _ _).alloc (Nat.le_refl _) _⟩⟩
  case round =>
    obtain ⟨i, D, seen, rfl, hi0, HG, HM, HD, HA, HB⟩ := hrel
    clear H
    by_cases hlt : i < (l0.length : Int)
    · have hpos : i.toNat < l0.length := by omega
      have hdrop : l0.drop i.toNat = rdOf ByteArray.empty l0 i :: l0.drop (i.toNat + 1) := by
        rw [List.drop_eq_getElem_cons hpos]
        congr 1
        simp [rdOf, hpos]
      have HR := Kd.C_below HR0.out HB.out
      obtain ⟨ad, e, hx⟩ := Kd.at_string HR i hi0 hlt
      cases e
      obtain ⟨x, hxe⟩ : ∃ x, rdOf ByteArray.empty l0 i = x := ⟨_, rfl⟩
      rw [hxe] at hx hdrop
      have hxs : x.size ≤ 9223372036854775807 := HS.out x (List.mem_of_mem_drop (i := i.toNat) (by rw [hdrop]; simp))
      have hkey : keyOf Tryz.prog 9 (.string x) = some (.string x.data.toList) := WideMaps.keyOf_string_mk Tryz.underlying9 (by unfold maxLen; omega)
      have hA := HA.out
      rw [hdrop] at hA
      simp only [apartB] at hA
      have hV := runes_Valid.f_eq x hxs
      have hwf : (Lit.int .i64 i).wf = true := WalkArith.wf_i64 (by omega)
      have hww : wrap64 (i + 1) = i + 1 := by unfold wrap64; omega
      clear hxe hdrop HR
      have HA' := Aside0.mk hA
      have HD1 := HD.out.2 x.data.toList
      clear hA
      cases hv : Lib.validD x.data.toList with
      | false =>
        have hr : r = false := by have := HA'.out; rw [hv] at this; simpa using this.symm
        subst hr
        rw [hv] at hV
        go_wp2_with (first | (go_at_call 102; refine (runes_Valid.calls x _ _ (tabs_below hT HB.out) hV).mono ?_; rintro e w1 ⟨rfl, hb1⟩; have hown1 := own_below HM.out hb1))
        go_ret
        exact ⟨rfl, below_step HB.out hb1⟩
      | true =>
        rw [hv] at hV
        cases hc : has D (.string x.data.toList) with
        | true =>
          have hr : r = false := by have := HA'.out; rw [hv, ← HD1, hc] at this; simpa using this.symm
          subst hr
          go_wp2_with (first | (go_at_call 102; refine (runes_Valid.calls x _ _ (tabs_below hT HB.out) hV).mono ?_; rintro e w1 ⟨rfl, hb1⟩; have hown1 := own_below HM.out hb1) | (at_lookup; refine wpList_lookup_own_ok_int _ rfl _ _ 119 rfl 9 3 .i64 keyed_apart Tryz.underlying119 Tryz.underlying3 (zero_apart _) w.heap.size i.toNat D rfl hown1 _ _ rfl hkey ?_; intro c hat hwc; rw [hc]))
          go_ret
          exact ⟨rfl, below_step HB.out hb1⟩
        | false =>
          have hr : apartB (x.data.toList :: seen) (l0.drop (i.toNat + 1)) = r := by have := HA'.out; rw [hv, ← HD1, hc] at this; simpa using this
          go_wp2_with (first | (go_at_call 102; refine (runes_Valid.calls x _ _ (tabs_below hT HB.out) hV).mono ?_; rintro e w1 ⟨rfl, hb1⟩; have hown1 := own_below HM.out hb1) | (at_lookup; refine wpList_lookup_own_ok_int _ rfl _ _ 119 rfl 9 3 .i64 keyed_apart Tryz.underlying119 Tryz.underlying3 (zero_apart _) w.heap.size i.toNat D rfl hown1 _ _ rfl hkey ?_; intro c hat hwc; rw [hc]) | (at_mapUpdate; refine wpList_mapUpdate_own _ rfl _ _ _ 119 rfl 9 3 keyed_apart Tryz.underlying119 (plainElem Tryz.prog 3) w.heap.size i.toNat D rfl hown1 (by unfold maxLen; omega) _ _ _ rfl rfl hkey _ [] (plainElem_int Tryz.underlying3 hwf) ?_; intro w2 hown2 hgrow2))
          go_roundg (l0.length + 1 - (i.toNat + 1))
          case measure => have := HG.out; omega
          case rel =>
            have hi1 : (i + 1).toNat = i.toNat + 1 := by omega
            have hb2 := below_step HB.out hb1
            have hst := apart_step HD.out.1 HD.out.2 x.data.toList (.lit (.int .i64 i))
            refine ⟨i + 1, _, x.data.toList :: seen, by first | rfl | (simp [hww]; done), by omega, ⟨by omega, by omega⟩, ⟨by rw [hi1]; exact hown2⟩, ⟨hst⟩, ⟨by rw [hi1]; exact hr⟩, ⟨pw_below_grown hb2 _ hb2.size hgrow2 (fun k hk => by cases hk; exact Nat.le_refl _)⟩⟩
    · have hge : i.toNat = l0.length := by have := HG.out.1; omega
      have hr : r = true := by have := HA.out; rw [hge, List.drop_length] at this; simpa [apartB] using this.symm
      subst hr
      go_wp2
      go_ret
      exact ⟨rfl, HB.out⟩
end Go.Proofs.YtmpmbnmldmpmiaaGreatDoor.A
