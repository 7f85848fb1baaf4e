/- strings.Fields by the shelf's contract, at ASCII texts. -/
import Derived.Test.YtlbcnacfgickcaaGreatDoorHandTabs
import Derived.Test.YtlbcnacfgickcaaGreatDoorShelfA
import Derived.Test.YtlbcnacfgickcaaGreatDoorWWords
set_option linter.unusedVariables false
namespace Go.Proofs.YtlbcnacfgickcaaGreatDoor.A
open Go.RowKit Go.Proofs.YtlbcnacfgickcaaGreatDoorW.PrintWords Go.Proofs.YtlbcnacfgickcaaGreatDoorW.PrintLast Go.Proofs.YtlbcnacfgickcaaGreatDoorW.PrintMore
def strings_Fields.f (s : ByteArray) : Option (List ByteArray) :=
  if s.size < 4294967281 ∧ (s.data.toList.all fun b => decide (b.toNat < 128)) = true then some ((Lib.fields s.data.toList).map fun l => ⟨l.toArray⟩) else none
theorem cnt_le : ∀ (l : List UInt8) (b : Bool), Lib.cntF b l ≤ l.length
  | [], _ => Nat.le_refl _
  | x :: l, b => by
    have := cnt_le l (Lib.isSp x)
    simp only [Lib.cntF, List.length_cons]
    split <;> omega
theorem strings_Fields.calls (s : ByteArray) (r : List ByteArray) (w : World) (hT : Tabs w) (h : strings_Fields.f s = some r) :
    Calls Tryz.prog 31 #[.string s] w fun e w' => ∃ v0_ : Value, e = .returned (v0_) ∧ Kd.R Kd.string 9 w' w.heap.size (fun _ => True) v0_ r ∧ Below w.heap.size w w' := by
  unfold strings_Fields.f at h
  by_cases hs : s.size < 4294967281 ∧ (s.data.toList.all fun b => decide (b.toNat < 128)) = true
  · rw [if_pos hs] at h
    obtain rfl := Option.some.inj h
    obtain ⟨h1, h2⟩ := hs
    have h3 : ∀ (j : Nat) b, s.data.toList[j]? = some b → b.toNat < 128 := fun j b hb => by
      have := List.all_eq_true.1 h2 b (List.mem_of_getElem? hb)
      simpa using this
    refine (Tryz.strings_Fields s w h1 h3 hT.sp).mono ?_
    rintro e w' ⟨rfl, rfl⟩
    have hN : (Lib.fields s.data.toList).length ≤ s.size := by rw [Lib.fields_length, Lib.size_eq]; exact cnt_le _ _
    have ho := World.ownsRow_lit (base := w.heap.size) (e := 9) (size := 1) w ((Lib.fields s.data.toList).map fun l => Value.string ⟨l.toArray⟩).toArray (Lib.fields s.data.toList).length (Nat.le_refl _) (by unfold maxLen; omega) (by simp)
    refine ⟨_, rfl, Kd.R_of_own ?_ (fun _ _ => trivial), (Below.refl _ w).alloc (Nat.le_refl _) _⟩
    simpa [encs, Function.comp_def] using ho
  · rw [if_neg hs] at h
    exact absurd h (by simp)
end Go.Proofs.YtlbcnacfgickcaaGreatDoor.A
