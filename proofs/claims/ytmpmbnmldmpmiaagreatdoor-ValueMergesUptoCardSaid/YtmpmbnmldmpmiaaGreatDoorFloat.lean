/- Words for float64 beside the printer's own: a float's bits as a kind of cell; what arithmetic and the conversions give, where the result is fixed. -/
import Derived.Test.YtmpmbnmldmpmiaaGreatDoorWWords
import Derived.WalkLawsBesides
import Derived.Laws.StructEq
namespace Go.Proofs.YtmpmbnmldmpmiaaGreatDoorW.PrintWords
open Go.RowKit
namespace Kd
section
variable {w : World} {A : Option Addr} {n : Nat} {ad : Addr}
def float (k : FloatKind) : Kd Nat := scalar (Value.float k) (fun _ => rfl)
end
end Kd
section
variable {P : Program} {f : FuncId} {fn : Func}
theorem run_ext_bits (hf : P.funcs[f]? = some fn) (hname : (fn.name == "runtime.NumGoroutine") = false) (hb : fn.body.isNone = true) (hn : Extern.findNext fn = none)
    (he : Extern.find fn = some Extern.MathFloatBits.float64bits) (x : Nat) (w : World) : (callFunc f #[.float .f64 x]).run P w = .ok (.value (.int .u64 x)) w := by
  rw [run_callFunc_extern hf hname hb hn he]; rfl
end
end Go.Proofs.YtmpmbnmldmpmiaaGreatDoorW.PrintWords
