/- The pure statement of FnExactEtherBytes: numbers and lists alone. -/
import Derived.Test.YthkocmpilkoibaaFFnExactEtherBytesx
namespace Go.Proofs.Ythkocmpilkoibaa.FFnExactEtherBytes
open Go.RowKit Go.Proofs.YthkocmpilkoibaaW.PrintWords
def laws_FnExactEtherBytes.Pure : Prop := ∀ (a0_0 : Int) (a0_1 : Int) (a0_2 : Int) (a0_3 : Int) (l0_4 : List Int), (Lit.int .i64 a0_0).wf = true → (Lit.int .i64 a0_1).wf = true → (Lit.int .i64 a0_2).wf = true → (Lit.int .i64 a0_3).wf = true → l0_4.length ≤ maxLen → (∀ n ∈ l0_4, (Lit.int .u8 n).wf = true) → ∃ k, laws_FnExactEtherBytes.f k a0_0 a0_1 a0_2 a0_3 l0_4 = some true
end Go.Proofs.Ythkocmpilkoibaa.FFnExactEtherBytes
