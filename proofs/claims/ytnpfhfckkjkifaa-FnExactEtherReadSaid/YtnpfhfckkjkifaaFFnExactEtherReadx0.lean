-- Functions and their contracts, written by a program of this claim (wip/tools/oprint.py) out of the translation.
import Derived.Test.YtnpfhfckkjkifaaProg
import Derived.Below
import Derived.Deep.Draws
import Derived.Deep.AppendLies
import Derived.Maps.AppendAt
import Derived.OwnWalk
import Derived.Laws.BytesArg
import Derived.Laws.MakeOwn
import Derived.Laws.OwnMore
import Derived.Deep.OwnRows
import Derived.Tactics
import Derived.Lib.ConvBytes
import Derived.Laws.Slices
import Derived.WalkKit
import Derived.KernelRfl
import Derived.RowKit3
import Derived.Deep.LoopGhost
import Derived.Deep.QuietTactic
import Derived.BigQuiet
import Derived.WideLaws
import Derived.Deep.DeepCutAuto
import Derived.Deep.CutBlock
import Derived.Deep.RegionHeld3
import Derived.Laws.Rows
import Derived.Lib.AppendStr
import Derived.ArgAppend
import Derived.Laws.IdiomCopy
import Derived.OrdersHeld
import Derived.Laws.BitsLemmas
import Derived.RowKit
import Derived.Lib.AppendZerosOnto
import Derived.Lib.Walk
import Derived.Lib.SliceRun
import Derived.Test.YtnpfhfckkjkifaaWWords
import Derived.Test.YtnpfhfckkjkifaaWLast
import Derived.Test.YtnpfhfckkjkifaaWTab
import Derived.Test.YtnpfhfckkjkifaaWFour
import Derived.Test.YtnpfhfckkjkifaaWQPut
import Derived.Test.YtnpfhfckkjkifaaWApart
import Derived.Test.YtnpfhfckkjkifaaWArr
import Derived.Test.YtnpfhfckkjkifaaWZeros
import Derived.Test.YtnpfhfckkjkifaaWFoot
import Derived.Test.YtnpfhfckkjkifaaWKept
import Derived.Test.YtnpfhfckkjkifaaWShare
import Derived.Test.YtnpfhfckkjkifaaWN
import Derived.Test.YtnpfhfckkjkifaaWFootNe
import Derived.Test.YtnpfhfckkjkifaaWAt
import Derived.Test.YtnpfhfckkjkifaaWEqStruct
import Derived.Test.YtnpfhfckkjkifaaWRepsOne
import Derived.Test.YtnpfhfckkjkifaaWInv
import Derived.Test.YtnpfhfckkjkifaaWInvWords
import Derived.Test.YtnpfhfckkjkifaaWGuard
import Derived.Test.YtnpfhfckkjkifaaWNEv
import Derived.Test.YtnpfhfckkjkifaaWMore
namespace Go.Proofs.Ytnpfhfckkjkifaa.FFnExactEtherRead
open Go.RowKit Go.Proofs.YtnpfhfckkjkifaaW.PrintWords Go.Proofs.YtnpfhfckkjkifaaW.PrintLast Go.Proofs.YtnpfhfckkjkifaaW.PrintMore
attribute [local go_sem] max2_int min2_int max_two min_two max_three min_three max_four min_four   -- for this text's walks alone
set_option linter.unusedVariables false
set_option linter.unusedSimpArgs false



def errW : Option Int → Value
  | none => .nilIface
  | some c => .iface 0 (.int .i64 c)
theorem errW_none : errW none = .nilIface := rfl
theorem errW_some (c : Int) : errW (some c) = .iface 0 (.int .i64 c) := rfl

theorem info5 : (Try.prog.info? 5).map (fun i => (i.zero, i.size, i.bytes)) = some (some (.int .u8 0), 1, 1) := by kernel_rfl
-- the values' own types

end Go.Proofs.Ytnpfhfckkjkifaa.FFnExactEtherRead
