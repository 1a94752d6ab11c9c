/- The pure statement of FnExactAddrBytes: numbers and lists alone. -/
import Derived.Test.YtnpfhfckkjkifaaFFnExactAddrBytesx
namespace Go.Proofs.Ytnpfhfckkjkifaa.FFnExactAddrBytes
open Go.RowKit Go.Proofs.YtnpfhfckkjkifaaW.PrintWords
def laws_FnExactAddrBytes.Pure : Prop := ∀ (a0_0 : Int) (a0_1 : Int) (a0_2 : Int) (a0_3 : Int) (a0_4 : Int), (Lit.int .i64 a0_0).wf = true → (Lit.int .i64 a0_1).wf = true → (Lit.int .i64 a0_2).wf = true → (Lit.int .i64 a0_3).wf = true → (Lit.int .i64 a0_4).wf = true → ∃ k, laws_FnExactAddrBytes.f k a0_0 a0_1 a0_2 a0_3 a0_4 = some true
end Go.Proofs.Ytnpfhfckkjkifaa.FFnExactAddrBytes
