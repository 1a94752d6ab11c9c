-- Functions and their contracts, written by a program of this claim (wip/tools/oprint.py) out of the translation.
import Derived.Test.YtmeimclfohbdfaaProg
import Derived.Below
import Derived.Deep.Draws
import Derived.Deep.AppendLies
import Derived.Maps.AppendAt
import Derived.OwnWalk
import Derived.Laws.BytesArg
import Derived.Laws.MakeOwn
import Derived.Laws.OwnMore
import Derived.Deep.OwnRows
import Derived.Tactics
import Derived.Lib.ConvBytes
import Derived.Laws.Slices
import Derived.WalkKit
import Derived.KernelRfl
import Derived.RowKit3
import Derived.Deep.LoopGhost
import Derived.Deep.QuietTactic
import Derived.BigQuiet
import Derived.WideLaws
import Derived.Deep.DeepCutAuto
import Derived.Deep.CutBlock
import Derived.Deep.RegionHeld3
import Derived.Laws.Rows
import Derived.Lib.AppendStr
import Derived.ArgAppend
import Derived.Laws.IdiomCopy
import Derived.OrdersHeld
import Derived.Laws.BitsLemmas
import Derived.RowKit
import Derived.Lib.AppendZerosOnto
import Derived.Lib.Walk
import Derived.Lib.SliceRun
import Derived.Test.YtmeimclfohbdfaaWWords
import Derived.Test.YtmeimclfohbdfaaWLast
import Derived.Test.YtmeimclfohbdfaaWTab
import Derived.Test.YtmeimclfohbdfaaWFour
import Derived.Test.YtmeimclfohbdfaaWQPut
import Derived.Test.YtmeimclfohbdfaaWApart
import Derived.Test.YtmeimclfohbdfaaWArr
import Derived.Test.YtmeimclfohbdfaaWZeros
import Derived.Test.YtmeimclfohbdfaaWFoot
import Derived.Test.YtmeimclfohbdfaaWKept
import Derived.Test.YtmeimclfohbdfaaWShare
import Derived.Test.YtmeimclfohbdfaaWN
import Derived.Test.YtmeimclfohbdfaaWFootNe
import Derived.Test.YtmeimclfohbdfaaWAt
import Derived.Test.YtmeimclfohbdfaaWEqStruct
import Derived.Test.YtmeimclfohbdfaaWRepsOne
import Derived.Test.YtmeimclfohbdfaaWInv
import Derived.Test.YtmeimclfohbdfaaWInvWords
import Derived.Test.YtmeimclfohbdfaaWGuard
import Derived.Test.YtmeimclfohbdfaaWNEv
import Derived.Test.YtmeimclfohbdfaaWMore
namespace Go.Proofs.Ytmeimclfohbdfaa.FFnExactConstants
open Go.RowKit Go.Proofs.YtmeimclfohbdfaaW.PrintWords Go.Proofs.YtmeimclfohbdfaaW.PrintLast Go.Proofs.YtmeimclfohbdfaaW.PrintMore
attribute [local go_sem] max2_int min2_int max_two min_two max_three min_three max_four min_four   -- for this text's walks alone
set_option linter.unusedVariables false
set_option linter.unusedSimpArgs false



def errW : Option Int → Value
  | none => .nilIface
  | some c => .iface 0 (.int .i64 c)
theorem errW_none : errW none = .nilIface := rfl
theorem errW_some (c : Int) : errW (some c) = .iface 0 (.int .i64 c) := rfl

-- the values' own types

end Go.Proofs.Ytmeimclfohbdfaa.FFnExactConstants
