-- Laid by gen.py of this session (over the kit's printing program): what the law FnExactChunks reaches, as Lean functions, and that Go comes to just that.
import Derived.Test.YtnfjjbpochmhpaaProg
import Derived.Below
import Derived.Deep.Draws
import Derived.Deep.AppendLies
import Derived.Maps.AppendAt
import Derived.OwnWalk
import Derived.Laws.BytesArg
import Derived.Laws.MakeOwn
import Derived.Laws.OwnMore
import Derived.Deep.OwnRows
import Derived.Tactics
import Derived.Lib.ConvBytes
import Derived.Laws.Slices
import Derived.WalkKit
import Derived.KernelRfl
import Derived.RowKit3
import Derived.Deep.LoopGhost
import Derived.Deep.QuietTactic
import Derived.BigQuiet
import Derived.WideLaws
import Derived.Deep.DeepCutAuto
import Derived.Deep.CutBlock
import Derived.Deep.RegionHeld3
import Derived.Laws.Rows
import Derived.Lib.AppendStr
import Derived.ArgAppend
import Derived.Laws.IdiomCopy
import Derived.OrdersHeld
import Derived.Laws.BitsLemmas
import Derived.RowKit
import Derived.Test.YtnfjjbpochmhpaaWGlFnExactChunks
import Derived.Laws.RangeAny
import Derived.Lib.IndexAny
import Derived.Lib.Builder
import Derived.WalkMore
import Derived.Test.YtnfjjbpochmhpaaWOpen
import Derived.Test.YtnfjjbpochmhpaaShelf
import Derived.Test.YtnfjjbpochmhpaaWBld
import Derived.Test.YtnfjjbpochmhpaaWWords
import Derived.Test.YtnfjjbpochmhpaaWLast
import Derived.Test.YtnfjjbpochmhpaaWTab
import Derived.Test.YtnfjjbpochmhpaaWFour
import Derived.Test.YtnfjjbpochmhpaaWQPut
import Derived.Test.YtnfjjbpochmhpaaWApart
import Derived.Test.YtnfjjbpochmhpaaWArr
import Derived.Test.YtnfjjbpochmhpaaWZeros
import Derived.Test.YtnfjjbpochmhpaaWFoot
import Derived.Test.YtnfjjbpochmhpaaWKept
import Derived.Test.YtnfjjbpochmhpaaWShare
import Derived.Test.YtnfjjbpochmhpaaWN
import Derived.Test.YtnfjjbpochmhpaaWFootNe
import Derived.Test.YtnfjjbpochmhpaaWAt
import Derived.Test.YtnfjjbpochmhpaaWEqStruct
import Derived.Test.YtnfjjbpochmhpaaWRepsOne
import Derived.Test.YtnfjjbpochmhpaaWInv
import Derived.Test.YtnfjjbpochmhpaaWInvWords
import Derived.Test.YtnfjjbpochmhpaaWGuard
import Derived.Test.YtnfjjbpochmhpaaWNEv
import Derived.Test.YtnfjjbpochmhpaaWMore
namespace Go.Proofs.Ytnfjjbpochmhpaa.GFnExactChunks
open Go.RowKit Go.Proofs.YtnfjjbpochmhpaaW.PrintWords Go.Proofs.YtnfjjbpochmhpaaW.PrintLast Go.Proofs.YtnfjjbpochmhpaaW.PrintMore
attribute [local go_sem] max2_int min2_int max_two min_two max_three min_three max_four min_four   -- for this text's walks alone
set_option linter.unusedVariables false
set_option linter.unusedSimpArgs false



def errW : Option Int → Value
  | none => .nilIface
  | some c => .iface 0 (.int .i64 c)
theorem errW_none : errW none = .nilIface := rfl
theorem errW_some (c : Int) : errW (some c) = .iface 0 (.int .i64 c) := rfl

-- the values' own types

end Go.Proofs.Ytnfjjbpochmhpaa.GFnExactChunks
