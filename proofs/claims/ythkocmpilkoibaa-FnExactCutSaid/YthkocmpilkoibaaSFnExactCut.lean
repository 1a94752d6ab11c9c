/- The pure statement of FnExactCut: numbers and lists alone. -/
import Derived.Test.YthkocmpilkoibaaFFnExactCutx
namespace Go.Proofs.Ythkocmpilkoibaa.FFnExactCut
open Go.RowKit Go.Proofs.YthkocmpilkoibaaW.PrintWords
def laws_FnExactCut.Pure : Prop := ∀ (a0_0 : Int) (a0_1 : Int) (a0_2 : Int) (a0_3 : Int) (a0_4 : Int) (a1 : Int), (Lit.int .i64 a0_0).wf = true → (Lit.int .i64 a0_1).wf = true → (Lit.int .i64 a0_2).wf = true → (Lit.int .i64 a0_3).wf = true → (Lit.int .i64 a0_4).wf = true → (Lit.int .i64 a1).wf = true → ∃ k, laws_FnExactCut.f k a0_0 a0_1 a0_2 a0_3 a0_4 a1 = some true
end Go.Proofs.Ythkocmpilkoibaa.FFnExactCut
