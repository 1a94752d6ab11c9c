-- What the prints of this claim share.
import Derived.Test.YtdkaailcembhmaaDoorProg
import Derived.Below
import Derived.Deep.Draws
import Derived.Deep.AppendLies
import Derived.Maps.AppendAt
import Derived.OwnWalk
import Derived.Laws.BytesArg
import Derived.Laws.MakeOwn
import Derived.Laws.OwnMore
import Derived.Deep.OwnRows
import Derived.Tactics
import Derived.Lib.ConvBytes
import Derived.Laws.Slices
import Derived.WalkKit
import Derived.KernelRfl
import Derived.RowKit3
import Derived.Deep.LoopGhost
import Derived.Deep.QuietTactic
import Derived.BigQuiet
import Derived.WideLaws
import Derived.Deep.DeepCutAuto
import Derived.Deep.CutBlock
import Derived.Deep.RegionHeld3
import Derived.Laws.Rows
import Derived.Lib.AppendStr
import Derived.ArgAppend
import Derived.Laws.IdiomCopy
import Derived.OrdersHeld
import Derived.Laws.BitsLemmas
import Derived.RowKit
import Derived.Test.YtdkaailcembhmaaDoorWWords
import Derived.Test.YtdkaailcembhmaaDoorWLast
import Derived.Test.YtdkaailcembhmaaDoorWTab
import Derived.Test.YtdkaailcembhmaaDoorWFour
import Derived.Test.YtdkaailcembhmaaDoorWQPut
import Derived.Test.YtdkaailcembhmaaDoorWApart
import Derived.Test.YtdkaailcembhmaaDoorWArr
import Derived.Test.YtdkaailcembhmaaDoorWZeros
import Derived.Test.YtdkaailcembhmaaDoorWFoot
import Derived.Test.YtdkaailcembhmaaDoorWKept
import Derived.Test.YtdkaailcembhmaaDoorWShare
import Derived.Test.YtdkaailcembhmaaDoorWN
import Derived.Test.YtdkaailcembhmaaDoorWFootNe
import Derived.Test.YtdkaailcembhmaaDoorWAt
import Derived.Test.YtdkaailcembhmaaDoorWEqStruct
import Derived.Test.YtdkaailcembhmaaDoorWRepsOne
import Derived.Test.YtdkaailcembhmaaDoorWInv
import Derived.Test.YtdkaailcembhmaaDoorWInvWords
import Derived.Test.YtdkaailcembhmaaDoorWGuard
import Derived.Test.YtdkaailcembhmaaDoorWNEv
import Derived.Test.YtdkaailcembhmaaDoorWMore
namespace Go.Proofs.YtdkaailcembhmaaDoor.FnExactNumRead
open Go.RowKit Go.Proofs.YtdkaailcembhmaaDoorW.PrintWords Go.Proofs.YtdkaailcembhmaaDoorW.PrintLast Go.Proofs.YtdkaailcembhmaaDoorW.PrintMore
attribute [local go_sem] max2_int min2_int max_two min_two max_three min_three max_four min_four   -- for this text's walks alone
set_option linter.unusedVariables false
set_option linter.unusedSimpArgs false



def errW : Option Int → Value
  | none => .nilIface
  | some c => .iface 90 (.int .i64 c)
theorem errW_none : errW none = .nilIface := rfl
theorem errW_some (c : Int) : errW (some c) = .iface 90 (.int .i64 c) := rfl

theorem info5 : (Tryd.prog.info? 5).map (fun i => (i.zero, i.size, i.bytes)) = some (some (.int .u8 0), 1, 1) := by kernel_rfl
-- the values' own types

end Go.Proofs.YtdkaailcembhmaaDoor.FnExactNumRead
