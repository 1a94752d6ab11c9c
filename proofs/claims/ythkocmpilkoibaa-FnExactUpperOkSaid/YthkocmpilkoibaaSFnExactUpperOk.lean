/- The pure statement of FnExactUpperOk: numbers and lists alone. -/
import Derived.Test.YthkocmpilkoibaaFFnExactUpperOkx
namespace Go.Proofs.Ythkocmpilkoibaa.FFnExactUpperOk
open Go.RowKit Go.Proofs.YthkocmpilkoibaaW.PrintWords
def laws_FnExactUpperOk.Pure : Prop := ∀ (a0_0 : Int) (a0_1 : Int) (a0_2 : Int) (a0_3 : Int) (a0_4 : Int) (a0_5 : Int) (a0_6 : Int) (a0_7 : Int) (a0_8 : Int) (a0_9 : Int) (a0_10 : Int) (a0_11 : Bool) (l0_12 : List Int) (l0_13 : List Int) (a1 : Int), (Lit.int .i64 a0_0).wf = true → (Lit.int .i64 a0_1).wf = true → (Lit.int .i64 a0_2).wf = true → (Lit.int .i64 a0_3).wf = true → (Lit.int .i64 a0_4).wf = true → (Lit.int .i64 a0_5).wf = true → (Lit.int .i64 a0_6).wf = true → (Lit.int .i64 a0_7).wf = true → (Lit.int .i64 a0_8).wf = true → (Lit.int .i64 a0_9).wf = true → (Lit.int .i64 a0_10).wf = true → l0_12.length ≤ maxLen → (∀ n ∈ l0_12, (Lit.int .u8 n).wf = true) → l0_13.length ≤ maxLen → (∀ n ∈ l0_13, (Lit.int .u8 n).wf = true) → (Lit.int .i64 a1).wf = true → ∃ k, laws_FnExactUpperOk.f k a0_0 a0_1 a0_2 a0_3 a0_4 a0_5 a0_6 a0_7 a0_8 a0_9 a0_10 a0_11 l0_12 l0_13 a1 = some true
end Go.Proofs.Ythkocmpilkoibaa.FFnExactUpperOk
