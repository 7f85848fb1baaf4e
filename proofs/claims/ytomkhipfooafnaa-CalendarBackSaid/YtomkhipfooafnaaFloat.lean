/- Words for float64 beside the printer's own: a float's bits as a kind of cell; what arithmetic and the conversions give, where the result is fixed. -/
import Derived.Test.YtomkhipfooafnaaWMore
import Derived.Test.YtomkhipfooafnaaWFoot
import Derived.WalkLawsBesides
import Derived.Laws.StructEq
namespace Go.Proofs.YtomkhipfooafnaaW.PrintWords
open Go.RowKit
namespace Kd
section
variable {w : World} {A : Option Addr} {n : Nat} {ad : Addr}
def float (k : FloatKind) : Kd Nat := scalar (Value.float k) (fun _ => rfl)
theorem heap_float (k : FloatKind) : Heap (Kd.float k) := ⟨fun _ h => h⟩
theorem at_float {k : FloatKind} {xs : List Nat} (h : (Kd.float k).C w A n xs) (i : Int) (h0 : 0 ≤ i) (h1 : i < n) : ∃ ad, A = some ad ∧ w.cell? (ad.add i.toNat) = some (.float k (rdOf (0 : Nat) xs i)) :=
  ReadsOf.at_ (reads_of_C (enc := Value.float k) (d := (0 : Nat)) (h1 := fun _ => rfl) h) i h0 h1
theorem foot_float {k : FloatKind} {l : List Nat} (h : (Kd.float k).C w (some ad) n l) (i : Int) (h0 : 0 ≤ i) (h1 : i < n) : w.cell? (ad.add i.toNat) = some (.float k (rdOf (0 : Nat) l i)) := by
  obtain ⟨ad', he, hc⟩ := at_float h i h0 h1
  injection he with he
  subst he
  exact hc
end
end Kd
def fok (op : BinOp) (x y : Nat) : Bool := (floatBits op .f64 x y).isSome
def fval (op : BinOp) (x y : Nat) : Nat := (floatBits op .f64 x y).getD 0
theorem run_fok {P : Program} (t : TypeId) (w : World) {op : BinOp} {x y : Nat} (h : fok op x y = true) :
    (binOp op t (.float .f64 x) (.float .f64 y)).run P w = .ok (.float .f64 (fval op x y)) w := by
  obtain ⟨r, hr⟩ := Option.isSome_iff_exists.1 h
  have e : fval op x y = r := by unfold fval; rw [hr]; rfl
  rw [e]
  exact run_float_arith w op t .f64 x y r hr
def f2iok (k : IntKind) (x : Nat) : Bool := (floatToIntVal .f64 x k).isSome
def f2i (k : IntKind) (x : Nat) : Int := (floatToIntVal .f64 x k).getD 0
theorem run_f2iok {P : Program} {src dst : TypeId} {k : IntKind} {x : Nat} {w : World} (hs : (P.underlying src).isSome = true) (hd : P.underlying dst = some (.int k)) (h : f2iok k x = true) :
    (convert src dst (.float .f64 x)).run P w = .ok (.int k (f2i k x)) w := by
  obtain ⟨n, hn⟩ := Option.isSome_iff_exists.1 h
  have e : f2i k x = n := by unfold f2i; rw [hn]; rfl
  rw [e]
  exact run_convert_float_int w src dst .f64 k x n hs hd hn
@[go_sem] theorem run_store_float {P : Program} {w : World} {a : Addr} {m : Mode} (k : FloatKind) (b : Nat) : (store a (.float k b) m).run P w = stored P w a (.float k b) m := run_store P w a _ m rfl
@[go_sem] theorem unary_neg_float (k : FloatKind) (b : Nat) : Op.unary .neg (.float k b) = pure (.float k (Op.negFloat k b)) := rfl
@[go_sem] theorem run_equalIn_float {P : Program} {w : World} (d : Nat) (t : TypeId) (k k' : FloatKind) (a b : Nat) (h : P.underlying t = some (.float k')) :
    (Op.equalIn (d + 1) t (.float k a) (.float k b)).run P w = .ok (k.format.order a b == some Ordering.eq) w := by
  simp [Op.equalIn, run_underlying h, Op.floatEq]
/-! what has no body of its own -/
def wholeOk (x : Nat) : Bool := match FloatKind.f64.decode x with
  | .nan _ t => FloatKind.f64.format.quiet t == t
  | _ => true
def wholeV (way : Ieee.Toward) (x : Nat) : Nat := match FloatKind.f64.decode x with
  | .nan _ _ => x
  | d => FloatKind.f64.encode (d.integral way)
section
variable {P : Program} {f : FuncId} {fn : Func}
theorem run_ext_bits (hf : P.funcs[f]? = some fn) (hname : (fn.name == "runtime.NumGoroutine") = false) (hb : fn.body.isNone = true) (hn : Extern.findNext fn = none)
    (he : Extern.find fn = some Extern.MathFloatBits.float64bits) (x : Nat) (w : World) : (callFunc f #[.float .f64 x]).run P w = .ok (.value (.int .u64 x)) w := by
  rw [run_callFunc_extern hf hname hb hn he]; rfl
theorem run_ext_from (hf : P.funcs[f]? = some fn) (hname : (fn.name == "runtime.NumGoroutine") = false) (hb : fn.body.isNone = true) (hn : Extern.findNext fn = none)
    (he : Extern.find fn = some Extern.MathFloatBits.float64frombits) (x : Int) (w : World) : (callFunc f #[.int .u64 x]).run P w = .ok (.value (.float .f64 x.toNat)) w := by
  rw [run_callFunc_extern hf hname hb hn he]; rfl
theorem run_whole (s : String) (way : Ieee.Toward) (x : Nat) (w : World) (h : wholeOk x = true) : (Extern.MathFloor.toIntegral s way #[.float .f64 x]).run P w = .ok (.float .f64 (wholeV way x)) w := by
  unfold wholeOk at h
  unfold wholeV
  change Sem.run P ((match FloatKind.f64.decode x with
    | .nan s t => if FloatKind.f64.format.quiet t = t then pure (.float .f64 x) else do
        let kept ← choose (.extern "math.Floor,Ceil,Trunc,RoundToEven.signallingNaN kept" 2)
        pure (.float .f64 (if kept == 1 then x else FloatKind.f64.encode (.nan s (FloatKind.f64.format.quiet t))))
    | d => pure (.float .f64 (FloatKind.f64.encode (d.integral way)))) : Sem Value) w = _
  cases hd : FloatKind.f64.decode x with
  | nan a t =>
    rw [hd] at h
    have ht : FloatKind.f64.format.quiet t = t := by simpa using h
    simp [ht]
  | number a b c => simp
  | infinity a => simp
theorem run_ext_floor (hf : P.funcs[f]? = some fn) (hname : (fn.name == "runtime.NumGoroutine") = false) (hb : fn.body.isNone = true) (hn : Extern.findNext fn = none)
    (he : Extern.find fn = some (Extern.MathFloor.toIntegral "math.archFloor" .down)) (x : Nat) (w : World) (h : wholeOk x = true) : (callFunc f #[.float .f64 x]).run P w = .ok (.value (.float .f64 (wholeV .down x))) w := by
  rw [run_callFunc_extern hf hname hb hn he, run_whole _ _ _ _ h]; rfl
theorem run_ext_trunc (hf : P.funcs[f]? = some fn) (hname : (fn.name == "runtime.NumGoroutine") = false) (hb : fn.body.isNone = true) (hn : Extern.findNext fn = none)
    (he : Extern.find fn = some (Extern.MathFloor.toIntegral "math.archTrunc" .zero)) (x : Nat) (w : World) (h : wholeOk x = true) : (callFunc f #[.float .f64 x]).run P w = .ok (.value (.float .f64 (wholeV .zero x))) w := by
  rw [run_callFunc_extern hf hname hb hn he, run_whole _ _ _ _ h]; rfl
end
end Go.Proofs.YtomkhipfooafnaaW.PrintWords
