-- Laid by gen.py of this session (over the kit's printing program): what the law FnExactPayload reaches, as Lean functions, and that Go comes to just that.
import Derived.Test.YtkbkohknnfejlaaProg
import Derived.Below
import Derived.Deep.Draws
import Derived.Deep.AppendLies
import Derived.Maps.AppendAt
import Derived.OwnWalk
import Derived.Laws.BytesArg
import Derived.Laws.MakeOwn
import Derived.Laws.OwnMore
import Derived.Deep.OwnRows
import Derived.Tactics
import Derived.Lib.ConvBytes
import Derived.Laws.Slices
import Derived.WalkKit
import Derived.KernelRfl
import Derived.RowKit3
import Derived.Deep.LoopGhost
import Derived.Deep.QuietTactic
import Derived.BigQuiet
import Derived.WideLaws
import Derived.Deep.DeepCutAuto
import Derived.Deep.CutBlock
import Derived.Deep.RegionHeld3
import Derived.Laws.Rows
import Derived.Lib.AppendStr
import Derived.ArgAppend
import Derived.Laws.IdiomCopy
import Derived.OrdersHeld
import Derived.Laws.BitsLemmas
import Derived.RowKit
import Derived.Test.YtkbkohknnfejlaaWOpen
import Derived.Test.YtkbkohknnfejlaaShelf
import Derived.Test.YtkbkohknnfejlaaWGl
import Derived.Test.YtkbkohknnfejlaaWWords
import Derived.Test.YtkbkohknnfejlaaWLast
import Derived.Test.YtkbkohknnfejlaaWTab
import Derived.Test.YtkbkohknnfejlaaWFour
import Derived.Test.YtkbkohknnfejlaaWQPut
import Derived.Test.YtkbkohknnfejlaaWApart
import Derived.Test.YtkbkohknnfejlaaWArr
import Derived.Test.YtkbkohknnfejlaaWZeros
import Derived.Test.YtkbkohknnfejlaaWFoot
import Derived.Test.YtkbkohknnfejlaaWKept
import Derived.Test.YtkbkohknnfejlaaWShare
import Derived.Test.YtkbkohknnfejlaaWN
import Derived.Test.YtkbkohknnfejlaaWFootNe
import Derived.Test.YtkbkohknnfejlaaWAt
import Derived.Test.YtkbkohknnfejlaaWEqStruct
import Derived.Test.YtkbkohknnfejlaaWRepsOne
import Derived.Test.YtkbkohknnfejlaaWInv
import Derived.Test.YtkbkohknnfejlaaWInvWords
import Derived.Test.YtkbkohknnfejlaaWGuard
import Derived.Test.YtkbkohknnfejlaaWNEv
import Derived.Test.YtkbkohknnfejlaaWMore
namespace Go.Proofs.Ytkbkohknnfejlaa.GFnExactPayload
open Go.RowKit Go.Proofs.YtkbkohknnfejlaaW.PrintWords Go.Proofs.YtkbkohknnfejlaaW.PrintLast Go.Proofs.YtkbkohknnfejlaaW.PrintMore
attribute [local go_sem] max2_int min2_int max_two min_two max_three min_three max_four min_four   -- for this text's walks alone
set_option linter.unusedVariables false
set_option linter.unusedSimpArgs false



def errW : Option Int → Value
  | none => .nilIface
  | some c => .iface 0 (.int .i64 c)
theorem errW_none : errW none = .nilIface := rfl
theorem errW_some (c : Int) : errW (some c) = .iface 0 (.int .i64 c) := rfl

-- the values' own types

end Go.Proofs.Ytkbkohknnfejlaa.GFnExactPayload
