/- The pure statement of FnExactUpperRead: numbers and lists alone. -/
import Derived.Test.YtdbiejkaplndgaaGFnExactUpperReadx
namespace Go.Proofs.Ytdbiejkaplndgaa.FFnExactUpperRead
open Go.RowKit Go.Proofs.YtdbiejkaplndgaaW.PrintWords
def laws_FnExactUpperRead.Pure : Prop := ∀ (l0 : List Int) (a1 : Int) (a2_0 : Int) (a2_1 : Int) (a2_2 : Int) (a2_3 : Int) (a2_4 : Int) (a3_0 : Int) (a3_1 : Int) (a3_2 : Int) (a3_3 : Int) (a3_4 : Int), l0.length ≤ maxLen → (∀ n ∈ l0, (Lit.int .u8 n).wf = true) → (Lit.int .i64 a1).wf = true → (Lit.int .i64 a2_0).wf = true → (Lit.int .i64 a2_1).wf = true → (Lit.int .i64 a2_2).wf = true → (Lit.int .i64 a2_3).wf = true → (Lit.int .i64 a2_4).wf = true → (Lit.int .i64 a3_0).wf = true → (Lit.int .i64 a3_1).wf = true → (Lit.int .i64 a3_2).wf = true → (Lit.int .i64 a3_3).wf = true → (Lit.int .i64 a3_4).wf = true → ∃ k, laws_FnExactUpperRead.f k l0 a1 a2_0 a2_1 a2_2 a2_3 a2_4 a3_0 a3_1 a3_2 a3_3 a3_4 = some true
end Go.Proofs.Ytdbiejkaplndgaa.FFnExactUpperRead
