/- Printed by this session's own copy of the printer (wip/tools/mkprint.py): functions, and that the Go code answers as they do. -/
import Derived.Test.YtomkhipfooafnaaProg
import Derived.Below
import Derived.Deep.Draws
import Derived.Deep.AppendLies
import Derived.Maps.AppendAt
import Derived.OwnWalk
import Derived.Laws.BytesArg
import Derived.Laws.MakeOwn
import Derived.Laws.OwnMore
import Derived.Deep.OwnRows
import Derived.Tactics
import Derived.Lib.ConvBytes
import Derived.Laws.Slices
import Derived.WalkKit
import Derived.KernelRfl
import Derived.RowKit3
import Derived.Deep.LoopGhost
import Derived.Deep.QuietTactic
import Derived.BigQuiet
import Derived.WideLaws
import Derived.Deep.DeepCutAuto
import Derived.Deep.CutBlock
import Derived.Deep.RegionHeld3
import Derived.Laws.Rows
import Derived.Lib.AppendStr
import Derived.ArgAppend
import Derived.Laws.IdiomCopy
import Derived.OrdersHeld
import Derived.Laws.BitsLemmas
import Derived.RowKit
import Derived.Test.YtomkhipfooafnaaWWords
import Derived.Test.YtomkhipfooafnaaWLast
import Derived.Test.YtomkhipfooafnaaWTab
import Derived.Test.YtomkhipfooafnaaWFour
import Derived.Test.YtomkhipfooafnaaWQPut
import Derived.Test.YtomkhipfooafnaaWApart
import Derived.Test.YtomkhipfooafnaaWArr
import Derived.Test.YtomkhipfooafnaaWZeros
import Derived.Test.YtomkhipfooafnaaWFoot
import Derived.Test.YtomkhipfooafnaaWKept
import Derived.Test.YtomkhipfooafnaaWShare
import Derived.Test.YtomkhipfooafnaaWN
import Derived.Test.YtomkhipfooafnaaWFootNe
import Derived.Test.YtomkhipfooafnaaWAt
import Derived.Test.YtomkhipfooafnaaWEqStruct
import Derived.Test.YtomkhipfooafnaaWRepsOne
import Derived.Test.YtomkhipfooafnaaWInv
import Derived.Test.YtomkhipfooafnaaWInvWords
import Derived.Test.YtomkhipfooafnaaWGuard
import Derived.Test.YtomkhipfooafnaaWNEv
import Derived.Test.YtomkhipfooafnaaWMore
import Derived.Test.YtomkhipfooafnaaFloat
namespace Go.Proofs.Ytomkhipfooafnaa.P
open Go.RowKit Go.Proofs.YtomkhipfooafnaaW.PrintWords Go.Proofs.YtomkhipfooafnaaW.PrintLast Go.Proofs.YtomkhipfooafnaaW.PrintMore
attribute [local go_sem] max2_int min2_int max_two min_two max_three min_three max_four min_four   -- for this text's walks alone
set_option linter.unusedVariables false
set_option linter.unusedSimpArgs false



def errW : Option Int → Value
  | none => .nilIface
  | some c => .iface 0 (.int .i64 c)
theorem errW_none : errW none = .nilIface := rfl
theorem errW_some (c : Int) : errW (some c) = .iface 0 (.int .i64 c) := rfl

-- the values' own types

end Go.Proofs.Ytomkhipfooafnaa.P
