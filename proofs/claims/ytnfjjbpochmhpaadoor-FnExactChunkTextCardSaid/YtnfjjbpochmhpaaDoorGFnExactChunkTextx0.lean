-- Laid by gen.py of this session (over the kit's printing program): what the law FnExactChunkText reaches, as Lean functions, and that Go comes to just that.
import Derived.Test.YtnfjjbpochmhpaaDoorProg
import Derived.Below
import Derived.Deep.Draws
import Derived.Deep.AppendLies
import Derived.Maps.AppendAt
import Derived.OwnWalk
import Derived.Laws.BytesArg
import Derived.Laws.MakeOwn
import Derived.Laws.OwnMore
import Derived.Deep.OwnRows
import Derived.Tactics
import Derived.Lib.ConvBytes
import Derived.Laws.Slices
import Derived.WalkKit
import Derived.KernelRfl
import Derived.RowKit3
import Derived.Deep.LoopGhost
import Derived.Deep.QuietTactic
import Derived.BigQuiet
import Derived.WideLaws
import Derived.Deep.DeepCutAuto
import Derived.Deep.CutBlock
import Derived.Deep.RegionHeld3
import Derived.Laws.Rows
import Derived.Lib.AppendStr
import Derived.ArgAppend
import Derived.Laws.IdiomCopy
import Derived.OrdersHeld
import Derived.Laws.BitsLemmas
import Derived.RowKit
import Derived.Test.YtnfjjbpochmhpaaDoorWGlFnExactChunkText
import Derived.Laws.RangeAny
import Derived.Lib.IndexAny
import Derived.Lib.Builder
import Derived.WalkMore
import Derived.Test.YtnfjjbpochmhpaaDoorWOpen
import Derived.Test.YtnfjjbpochmhpaaDoorShelf
import Derived.Test.YtnfjjbpochmhpaaDoorWBld
import Derived.Test.YtnfjjbpochmhpaaDoorWRow
import Derived.Test.YtnfjjbpochmhpaaDoorWWords
import Derived.Test.YtnfjjbpochmhpaaDoorWLast
import Derived.Test.YtnfjjbpochmhpaaDoorWTab
import Derived.Test.YtnfjjbpochmhpaaDoorWFour
import Derived.Test.YtnfjjbpochmhpaaDoorWQPut
import Derived.Test.YtnfjjbpochmhpaaDoorWApart
import Derived.Test.YtnfjjbpochmhpaaDoorWArr
import Derived.Test.YtnfjjbpochmhpaaDoorWZeros
import Derived.Test.YtnfjjbpochmhpaaDoorWFoot
import Derived.Test.YtnfjjbpochmhpaaDoorWKept
import Derived.Test.YtnfjjbpochmhpaaDoorWShare
import Derived.Test.YtnfjjbpochmhpaaDoorWN
import Derived.Test.YtnfjjbpochmhpaaDoorWFootNe
import Derived.Test.YtnfjjbpochmhpaaDoorWAt
import Derived.Test.YtnfjjbpochmhpaaDoorWEqStruct
import Derived.Test.YtnfjjbpochmhpaaDoorWRepsOne
import Derived.Test.YtnfjjbpochmhpaaDoorWInv
import Derived.Test.YtnfjjbpochmhpaaDoorWInvWords
import Derived.Test.YtnfjjbpochmhpaaDoorWGuard
import Derived.Test.YtnfjjbpochmhpaaDoorWNEv
import Derived.Test.YtnfjjbpochmhpaaDoorWMore
namespace Go.Proofs.YtnfjjbpochmhpaaDoor.GFnExactChunkText
open Go.RowKit Go.Proofs.YtnfjjbpochmhpaaDoorW.PrintWords Go.Proofs.YtnfjjbpochmhpaaDoorW.PrintLast Go.Proofs.YtnfjjbpochmhpaaDoorW.PrintMore
attribute [local go_sem] max2_int min2_int max_two min_two max_three min_three max_four min_four   -- for this text's walks alone
set_option linter.unusedVariables false
set_option linter.unusedSimpArgs false



def errW : Option Int → Value
  | none => .nilIface
  | some c => .iface 0 (.int .i64 c)
theorem errW_none : errW none = .nilIface := rfl
theorem errW_some (c : Int) : errW (some c) = .iface 0 (.int .i64 c) := rfl

-- the values' own types

end Go.Proofs.YtnfjjbpochmhpaaDoor.GFnExactChunkText
