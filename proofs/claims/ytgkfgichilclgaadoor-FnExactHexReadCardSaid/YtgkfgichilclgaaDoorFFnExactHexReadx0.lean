-- Functions and their contracts, written by a program of this claim (wip/tools/oprint.py) out of the translation.
import Derived.Test.YtgkfgichilclgaaDoorProg
import Derived.Below
import Derived.Deep.Draws
import Derived.Deep.AppendLies
import Derived.Maps.AppendAt
import Derived.OwnWalk
import Derived.Laws.BytesArg
import Derived.Laws.MakeOwn
import Derived.Laws.OwnMore
import Derived.Deep.OwnRows
import Derived.Tactics
import Derived.Lib.ConvBytes
import Derived.Laws.Slices
import Derived.WalkKit
import Derived.KernelRfl
import Derived.RowKit3
import Derived.Deep.LoopGhost
import Derived.Deep.QuietTactic
import Derived.BigQuiet
import Derived.WideLaws
import Derived.Deep.DeepCutAuto
import Derived.Deep.CutBlock
import Derived.Deep.RegionHeld3
import Derived.Laws.Rows
import Derived.Lib.AppendStr
import Derived.ArgAppend
import Derived.Laws.IdiomCopy
import Derived.OrdersHeld
import Derived.Laws.BitsLemmas
import Derived.RowKit
import Derived.Lib.AppendZerosOnto
import Derived.Lib.Walk
import Derived.Lib.SliceRun
import Derived.Test.YtgkfgichilclgaaDoorWWords
import Derived.Test.YtgkfgichilclgaaDoorWLast
import Derived.Test.YtgkfgichilclgaaDoorWTab
import Derived.Test.YtgkfgichilclgaaDoorWFour
import Derived.Test.YtgkfgichilclgaaDoorWQPut
import Derived.Test.YtgkfgichilclgaaDoorWApart
import Derived.Test.YtgkfgichilclgaaDoorWArr
import Derived.Test.YtgkfgichilclgaaDoorWZeros
import Derived.Test.YtgkfgichilclgaaDoorWFoot
import Derived.Test.YtgkfgichilclgaaDoorWKept
import Derived.Test.YtgkfgichilclgaaDoorWShare
import Derived.Test.YtgkfgichilclgaaDoorWN
import Derived.Test.YtgkfgichilclgaaDoorWFootNe
import Derived.Test.YtgkfgichilclgaaDoorWAt
import Derived.Test.YtgkfgichilclgaaDoorWEqStruct
import Derived.Test.YtgkfgichilclgaaDoorWRepsOne
import Derived.Test.YtgkfgichilclgaaDoorWInv
import Derived.Test.YtgkfgichilclgaaDoorWInvWords
import Derived.Test.YtgkfgichilclgaaDoorWGuard
import Derived.Test.YtgkfgichilclgaaDoorWNEv
import Derived.Test.YtgkfgichilclgaaDoorWMore
namespace Go.Proofs.YtgkfgichilclgaaDoor.FFnExactHexRead
open Go.RowKit Go.Proofs.YtgkfgichilclgaaDoorW.PrintWords Go.Proofs.YtgkfgichilclgaaDoorW.PrintLast Go.Proofs.YtgkfgichilclgaaDoorW.PrintMore
attribute [local go_sem] max2_int min2_int max_two min_two max_three min_three max_four min_four   -- for this text's walks alone
set_option linter.unusedVariables false
set_option linter.unusedSimpArgs false



def errW : Option Int → Value
  | none => .nilIface
  | some c => .iface 0 (.int .i64 c)
theorem errW_none : errW none = .nilIface := rfl
theorem errW_some (c : Int) : errW (some c) = .iface 0 (.int .i64 c) := rfl

theorem info5 : (Tryd.prog.info? 5).map (fun i => (i.zero, i.size, i.bytes)) = some (some (.int .u8 0), 1, 1) := by kernel_rfl
-- the values' own types

end Go.Proofs.YtgkfgichilclgaaDoor.FFnExactHexRead
