/- JSON values in memory: what is known of them, by the trees that they are. -/
import Derived.Test.YtmpmbnmldmpmiaaGreatDoorSimU
import Derived.Test.YtmpmbnmldmpmiaaGreatDoorSimKd
import Derived.Test.YtmpmbnmldmpmiaaGreatDoorA0
set_option linter.unusedVariables false
set_option linter.unusedSimpArgs false
namespace Go.Proofs.YtmpmbnmldmpmiaaGreatDoor.Sim
open Go Go.RowKit Go.Proofs.YtmpmbnmldmpmiaaGreatDoor.A Go.Proofs.YtmpmbnmldmpmiaaGreatDoorW.PrintWords Go.Proofs.YtmpmbnmldmpmiaaGreatDoorW.PrintLast Go.Proofs.YtmpmbnmldmpmiaaGreatDoorW.PrintMore
def KdUp {α : Type} (d : Kd α) : Prop := ∀ (v v' : World) (x : α) (cs : List Value), Known v v' → d.K v x cs → d.K v' x cs
theorem C_up {α : Type} {d : Kd α} (h : KdUp d) {v v' : World} (k : Known v v') {A : Option Addr} {n : Nat} {xs : List α} (c : Kd.C d v A n xs) : Kd.C d v' A n xs := by
  obtain ⟨h1, h2, h3⟩ := c
  refine ⟨h1, h2, fun hn => ?_⟩
  obtain ⟨ad, hA, hc⟩ := h3 hn
  refine ⟨ad, hA, fun j p hj => ?_⟩
  obtain ⟨c, q1, q2, q3⟩ := hc j p hj
  exact ⟨c, q1, h _ _ _ _ k q2, fun i u hu => k.cell (q3 i u hu)⟩
theorem up_scalar {α : Type} {enc : α → Value} {h1 : ∀ x, (enc x).oneCell' = true} : KdUp (Kd.scalar enc h1) := fun _ _ _ _ _ h => h
theorem up_slice {α : Type} {e : Nat} {d : Kd α} (h : KdUp d) : KdUp (Kd.slice e d) := by
  rintro v v' xs cs k ⟨A, c, rfl, hl, hr⟩
  exact ⟨A, c, rfl, hl, C_up h k hr⟩
theorem up_pair {α β : Type} {a : Kd α} {b : Kd β} (h : KdUp a) (h' : KdUp b) : KdUp (Kd.pair a b) := by
  rintro v v' x cs k ⟨c0, c1, rfl, q0, q1⟩
  exact ⟨c0, c1, rfl, h _ _ _ _ k q0, h' _ _ _ _ k q1⟩
theorem up_iso {α β : Type} {d : Kd α} {f : β → α} (h : KdUp d) : KdUp (Kd.iso d f) := fun v v' x cs k q => h v v' (f x) cs k q
theorem up_upto {α : Type} {F : Kd α → Kd α} {sz : Nat} {E : List Nat} (h : ∀ d, KdUp d → KdUp (F d)) : ∀ n, KdUp (Kd.upto F sz E n)
  | 0 => fun _ _ _ _ _ q => q.elim
  | n + 1 => h _ (up_upto h n)
theorem k27_up : KdUp k27 := by
  rintro v v' x cs k ⟨n, h⟩
  exact ⟨n, up_upto (fun d hd => up_iso (up_pair up_scalar (up_pair up_scalar (up_pair up_scalar (up_pair (up_slice hd) (up_slice up_scalar)))))) n _ _ _ _ k h⟩
theorem str_up : KdUp Kd.string := up_scalar
def Fl {α : Type} (d : Kd α) (w : World) (l : List α) (xs : List Value) : Prop := xs.length = l.length * d.sz ∧ ∀ j p, l[j]? = some p → d.K w p ((xs.drop (j * d.sz)).take d.sz)
section
variable {α : Type} {d : Kd α} {w w' : World}
theorem Fl.nil : Fl d w [] [] := ⟨by simp, fun j p h => by simp at h⟩
theorem Fl.up (h : KdUp d) (k : Known w w') {l : List α} {xs : List Value} (f : Fl d w l xs) : Fl d w' l xs := ⟨f.1, fun j p hj => h _ _ _ _ k (f.2 j p hj)⟩
theorem Fl.one {x : α} {cs : List Value} (h : d.K w x cs) : Fl d w [x] cs := by
  have hl := d.K_len h
  refine ⟨by simp [hl], fun j p hj => ?_⟩
  cases j with
  | zero => simp at hj; subst hj; rw [Nat.zero_mul, List.drop_zero, List.take_of_length_le (by omega)]; exact h
  | succ j => simp at hj
theorem Fl.append {l m : List α} {xs ys : List Value} (h : Fl d w l xs) (k : Fl d w m ys) : Fl d w (l ++ m) (xs ++ ys) := by
  refine ⟨by rw [List.length_append, List.length_append, h.1, k.1, Nat.add_mul], fun j p hj => ?_⟩
  rcases Nat.lt_or_ge j l.length with h1 | h1
  · rw [List.getElem?_append_left h1] at hj
    have h2 : j * d.sz + d.sz ≤ xs.length := by rw [h.1, ← Nat.succ_mul]; exact Nat.mul_le_mul_right _ h1
    rw [List.drop_append_of_le_length (by omega), List.take_append_of_le_length (by rw [List.length_drop]; omega)]
    exact h.2 j p hj
  · rw [List.getElem?_append_right h1] at hj
    have := k.2 _ _ hj
    obtain ⟨m', rfl⟩ : ∃ m', j = l.length + m' := ⟨j - l.length, by omega⟩
    rw [Nat.add_sub_cancel_left] at this
    rw [Nat.add_mul, ← h.1, List.drop_append, List.drop_eq_nil_of_le (by omega), Nat.add_sub_cancel_left, List.nil_append]
    exact this
theorem Fl.take {l : List α} {xs : List Value} (h : Fl d w l xs) (n : Nat) : Fl d w (l.take n) (xs.take (n * d.sz)) := by
  refine ⟨by rw [List.length_take, List.length_take, h.1, ← Nat.mul_min_mul_right], fun j p hj => ?_⟩
  have hjn : j < n := by
    rcases Nat.lt_or_ge j n with h1 | h1
    · exact h1
    · rw [List.getElem?_eq_none (by rw [List.length_take]; omega)] at hj; cases hj
  rw [List.getElem?_take_of_lt hjn] at hj
  have := h.2 j p hj
  have h2 : j * d.sz + d.sz ≤ n * d.sz := by rw [← Nat.succ_mul]; exact Nat.mul_le_mul_right _ hjn
  rw [List.drop_take, List.take_take, Nat.min_eq_left (by omega)]
  exact this
theorem Fl.drop {l : List α} {xs : List Value} (h : Fl d w l xs) (n : Nat) : Fl d w (l.drop n) (xs.drop (n * d.sz)) := by
  refine ⟨by rw [List.length_drop, List.length_drop, h.1, Nat.sub_mul], fun j p hj => ?_⟩
  rw [List.getElem?_drop] at hj
  have := h.2 _ p hj
  rw [List.drop_drop, ← Nat.add_mul]
  exact this
theorem Fl.rows {e : TypeId} {fr : Nat × Nat} {k : Nat} {l : List α} {xs ys : List Value} (h : Fl d w l xs) (hb : w.heap[k]? = some (.cells (xs ++ ys).toArray e fr)) (hn : l.length ≤ 9223372036854775807) : Kd.C d w (some ⟨k, 0, none⟩) l.length l := by
  refine C_of_block hb rfl hn fun j p hj => ?_
  have hjl := (List.getElem?_eq_some_iff.1 hj).1
  have h2 : j * d.sz + d.sz ≤ xs.length := by rw [h.1, ← Nat.succ_mul]; exact Nat.mul_le_mul_right _ hjl
  refine ⟨_, by rw [List.length_take, List.length_drop]; omega, h.2 j p hj, fun i u hu => ?_⟩
  have hi : i < d.sz := by
    have := (List.getElem?_eq_some_iff.1 hu).1
    rw [List.length_take] at this
    omega
  rw [List.getElem?_take_of_lt hi, List.getElem?_drop] at hu
  rw [Nat.zero_add, List.getElem?_append_left (by omega)]
  exact hu
theorem C_flat {A : Option Addr} {c : Nat} {l : List α} (h : Kd.C d w A l.length l) (hs : 0 < d.sz) : ∃ xs, Fl d w l xs ∧ ∀ H, srcX (whole w) d.sz (.s (.slice A l.length c)) H = some (l.length, xs.map .s) := by
  rcases Nat.eq_zero_or_pos l.length with h0 | h0
  · have : l = [] := List.eq_nil_of_length_eq_zero h0
    subst this
    exact ⟨[], Fl.nil, fun H => srcX_empty _ _ _ _ _⟩
  · obtain ⟨k, off, cs, rfl, hw, hl, hc⟩ := C_rows h h0 hs
    refine ⟨(cs.drop off).take (l.length * d.sz), ⟨by rw [List.length_take, List.length_drop]; omega, fun j p hj => ?_⟩, fun H => srcX_base hw hl H⟩
    have hjl := (List.getElem?_eq_some_iff.1 hj).1
    have h2 : j * d.sz + d.sz ≤ l.length * d.sz := by rw [← Nat.succ_mul]; exact Nat.mul_le_mul_right _ hjl
    have := hc j p hj
    rw [List.drop_take, List.drop_drop, List.take_take, Nat.min_eq_left (by omega)]
    exact this
end
theorem find_skip {p : Nat} {B : Blk} {X H : Heap} (h : ∀ i b, find i X = some b → find i H = some b) (hp : find p X = none) : ∀ i b, find i X = some b → find i ((p, B) :: H) = some b := by
  intro i b hb
  rw [find_cons]
  split
  · rename_i e; rw [← e, hp] at hb; cases hb
  · exact h i b hb
theorem find_both {a : Nat} {A : Blk} {X H : Heap} (h : ∀ i b, find i X = some b → find i H = some b) : ∀ i b, find i ((a, A) :: X) = some b → find i ((a, A) :: H) = some b := by
  intro i b hb
  rw [find_cons] at hb ⊢
  split at hb
  · rename_i e; rw [if_pos e]; exact hb
  · rename_i e; rw [if_neg e]; exact h i b hb
theorem find_same {H : Heap} : ∀ i b, find i H = some b → find i H = some b := fun _ _ h => h
def Rw (w : World) (l : List S27) (A : Option Addr) (c : Nat) : Prop := Kd.C k27 w A l.length l ∧ l.length ≤ c
def Sw (w : World) (l : List ByteArray) (A : Option Addr) (c : Nat) : Prop := Kd.C Kd.string w A l.length l ∧ l.length ≤ c
theorem Rw.up {w w' : World} {l : List S27} {A : Option Addr} {c : Nat} (h : Rw w l A c) (k : Known w w') : Rw w' l A c := ⟨C_up k27_up k h.1, h.2⟩
theorem Sw.up {w w' : World} {l : List ByteArray} {A : Option Addr} {c : Nat} (h : Sw w l A c) (k : Known w w') : Sw w' l A c := ⟨C_up str_up k h.1, h.2⟩
def Vr (w : World) (x : S27) (u : Value) : Prop := ∃ A3 c3 A4 c4, u = .agg #[.int .i64 x.f0, .float .f64 x.f1, .string x.f2, .slice A3 x.f3.length c3, .slice A4 x.f4.length c4] ∧ Rw w x.f3 A3 c3 ∧ Sw w x.f4 A4 c4
theorem Vr.up {w w' : World} {x : S27} {u : Value} (h : Vr w x u) (k : Known w w') : Vr w' x u := by
  obtain ⟨A3, c3, A4, c4, rfl, h3, h4⟩ := h
  exact ⟨A3, c3, A4, c4, rfl, h3.up k, h4.up k⟩
theorem Vr.K {w : World} {x : S27} {A3 A4 : Option Addr} {c3 c4 : Nat} (h3 : Rw w x.f3 A3 c3) (h4 : Sw w x.f4 A4 c4) : k27.K w x [.int .i64 x.f0, .float .f64 x.f1, .string x.f2, .slice A3 x.f3.length c3, .slice A4 x.f4.length c4] := k27_mk w x h3.2 h3.1 h4.2 h4.1
theorem Rw.nil {w : World} {A : Option Addr} {c : Nat} : Rw w [] A c := ⟨⟨rfl, Nat.zero_le _, fun h => absurd h (Nat.lt_irrefl _)⟩, Nat.zero_le _⟩
theorem Sw.nil {w : World} {A : Option Addr} {c : Nat} : Sw w [] A c := ⟨⟨rfl, Nat.zero_le _, fun h => absurd h (Nat.lt_irrefl _)⟩, Nat.zero_le _⟩
/-- An element read. -/
theorem Rw.get {w : World} {l : List S27} {A : Option Addr} {c : Nat} (h : Rw w l A c) {i : Nat} (hi : i < l.length) : ∃ k off cs A3 c3 A4 c4, A = some ⟨k, off, none⟩ ∧ whole w k = some cs ∧
    ((cs.map V.s).drop (off + i * 5)).take 5 = [.s (.int .i64 l[i].f0), .s (.float .f64 l[i].f1), .s (.string l[i].f2), .s (.slice A3 l[i].f3.length c3), .s (.slice A4 l[i].f4.length c4)] ∧ Rw w l[i].f3 A3 c3 ∧ Sw w l[i].f4 A4 c4 := by
  obtain ⟨k, off, cs, rfl, hw, _, hc⟩ := C_rows h.1 (by omega) (show 0 < k27.sz by decide)
  obtain ⟨A3, c3, A4, c4, x0, q1, q2, q3, q4⟩ := k27_open (hc i _ (List.getElem?_eq_getElem hi))
  have x0 : (cs.drop (off + i * 5)).take 5 = _ := x0
  refine ⟨k, off, cs, A3, c3, A4, c4, rfl, hw, ?_, ⟨q2, q1⟩, ⟨q4, q3⟩⟩
  rw [← List.map_drop, ← List.map_take, x0]
  rfl
theorem Sw.get {w : World} {l : List ByteArray} {A : Option Addr} {c : Nat} (h : Sw w l A c) {i : Nat} (hi : i < l.length) : ∃ k off, A = some ⟨k, off, none⟩ ∧ cellT (whole w) k (off + i) = some (.string l[i]) := by
  obtain ⟨k, off, cs, rfl, hw, hle, hc⟩ := C_rows h.1 (by omega) (show 0 < Kd.string.sz by decide)
  refine ⟨k, off, rfl, ?_⟩
  have h1 : (cs.drop (off + i * 1)).take 1 = [.string l[i]] := hc i _ (List.getElem?_eq_getElem hi)
  have h2 : ((cs.drop (off + i * 1)).take 1)[0]? = some (.string l[i]) := by rw [h1]; rfl
  rw [List.getElem?_take_of_lt (by omega), List.getElem?_drop, Nat.mul_one, Nat.add_zero] at h2
  unfold cellT
  rw [hw]
  exact h2
end Go.Proofs.YtmpmbnmldmpmiaaGreatDoor.Sim
