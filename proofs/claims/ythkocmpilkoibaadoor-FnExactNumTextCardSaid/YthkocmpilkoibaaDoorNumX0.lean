-- What the prints of this claim share.
import Derived.Test.YthkocmpilkoibaaDoorProg
import Derived.Below
import Derived.Deep.Draws
import Derived.Deep.AppendLies
import Derived.Maps.AppendAt
import Derived.OwnWalk
import Derived.Laws.BytesArg
import Derived.Laws.MakeOwn
import Derived.Laws.OwnMore
import Derived.Deep.OwnRows
import Derived.Tactics
import Derived.Lib.ConvBytes
import Derived.Laws.Slices
import Derived.WalkKit
import Derived.KernelRfl
import Derived.RowKit3
import Derived.Deep.LoopGhost
import Derived.Deep.QuietTactic
import Derived.BigQuiet
import Derived.WideLaws
import Derived.Deep.DeepCutAuto
import Derived.Deep.CutBlock
import Derived.Deep.RegionHeld3
import Derived.Laws.Rows
import Derived.Lib.AppendStr
import Derived.ArgAppend
import Derived.Laws.IdiomCopy
import Derived.OrdersHeld
import Derived.Laws.BitsLemmas
import Derived.RowKit
import Derived.Test.YthkocmpilkoibaaDoorWWords
import Derived.Test.YthkocmpilkoibaaDoorWLast
import Derived.Test.YthkocmpilkoibaaDoorWTab
import Derived.Test.YthkocmpilkoibaaDoorWFour
import Derived.Test.YthkocmpilkoibaaDoorWQPut
import Derived.Test.YthkocmpilkoibaaDoorWApart
import Derived.Test.YthkocmpilkoibaaDoorWArr
import Derived.Test.YthkocmpilkoibaaDoorWZeros
import Derived.Test.YthkocmpilkoibaaDoorWFoot
import Derived.Test.YthkocmpilkoibaaDoorWKept
import Derived.Test.YthkocmpilkoibaaDoorWShare
import Derived.Test.YthkocmpilkoibaaDoorWN
import Derived.Test.YthkocmpilkoibaaDoorWFootNe
import Derived.Test.YthkocmpilkoibaaDoorWAt
import Derived.Test.YthkocmpilkoibaaDoorWEqStruct
import Derived.Test.YthkocmpilkoibaaDoorWRepsOne
import Derived.Test.YthkocmpilkoibaaDoorWInv
import Derived.Test.YthkocmpilkoibaaDoorWInvWords
import Derived.Test.YthkocmpilkoibaaDoorWGuard
import Derived.Test.YthkocmpilkoibaaDoorWNEv
import Derived.Test.YthkocmpilkoibaaDoorWMore
namespace Go.Proofs.YthkocmpilkoibaaDoor.FnExactNumText
open Go.RowKit Go.Proofs.YthkocmpilkoibaaDoorW.PrintWords Go.Proofs.YthkocmpilkoibaaDoorW.PrintLast Go.Proofs.YthkocmpilkoibaaDoorW.PrintMore
attribute [local go_sem] max2_int min2_int max_two min_two max_three min_three max_four min_four   -- for this text's walks alone
set_option linter.unusedVariables false
set_option linter.unusedSimpArgs false



def errW : Option Int → Value
  | none => .nilIface
  | some c => .iface 0 (.int .i64 c)
theorem errW_none : errW none = .nilIface := rfl
theorem errW_some (c : Int) : errW (some c) = .iface 0 (.int .i64 c) := rfl

theorem info5 : (Tryd.prog.info? 5).map (fun i => (i.zero, i.size, i.bytes)) = some (some (.int .u8 0), 1, 1) := by kernel_rfl
-- the values' own types

end Go.Proofs.YthkocmpilkoibaaDoor.FnExactNumText
