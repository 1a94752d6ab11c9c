/- The pure statement of FnExactPrefixOk: numbers and lists alone. -/
import Derived.Test.YthkocmpilkoibaaFFnExactPrefixOkx
namespace Go.Proofs.Ythkocmpilkoibaa.FFnExactPrefixOk
open Go.RowKit Go.Proofs.YthkocmpilkoibaaW.PrintWords
def laws_FnExactPrefixOk.Pure : Prop := ∀ (a0_0 : Int) (a0_1 : Int) (a0_2 : Int) (a0_3 : Int) (a0_4 : Int) (a0_5 : Int), (Lit.int .i64 a0_0).wf = true → (Lit.int .i64 a0_1).wf = true → (Lit.int .i64 a0_2).wf = true → (Lit.int .i64 a0_3).wf = true → (Lit.int .i64 a0_4).wf = true → (Lit.int .i64 a0_5).wf = true → ∃ k, laws_FnExactPrefixOk.f k a0_0 a0_1 a0_2 a0_3 a0_4 a0_5 = some true
end Go.Proofs.Ythkocmpilkoibaa.FFnExactPrefixOk
