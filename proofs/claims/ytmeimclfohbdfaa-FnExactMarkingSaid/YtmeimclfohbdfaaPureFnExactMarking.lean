/- The program's Marking returns what the reference's returns, for all arguments. No condition. -/
import Derived.Test.YtmeimclfohbdfaaFFnExactMarkingx
import Derived.Test.YtmeimclfohbdfaaBase
namespace Go.Proofs.Ytmeimclfohbdfaa.Pure
open Go.RowKit Go.Proofs.Ytmeimclfohbdfaa.FFnExactMarking Go.Proofs.YtmeimclfohbdfaaW.PrintWords Go.Proofs.YtmeimclfohbdfaaW.PrintLast Go.Proofs.YtmeimclfohbdfaaW.PrintMore Go.Proofs.Ytmeimclfohbdfaa.Base

namespace ExactMarking
theorem isByte (n : Int) : impl_isByte.f n = some (decide (0 ≤ n ∧ n ≤ 255)) := by
  unfold impl_isByte.f impl_within.f
  by_cases h : n ≥ 0
  · rw [if_pos h]
    simp [h]
  · rw [if_neg h]
    simp [h]

theorem specIn (n m : Int) : spec_l05In.f n m = some (decide (0 ≤ n ∧ n ≤ m)) := by
  unfold spec_l05In.f
  by_cases h : n ≥ 0
  · rw [if_pos h]
    simp [h]
  · rw [if_neg h]
    simp [h]

end ExactMarking
open ExactMarking

theorem FnExactMarking : laws_FnExactMarking.Pure := by
  intro a0 _
  unfold laws_FnExactMarking.f spec_Marking.f impl_Marking.f
  rw [isByte, specIn]
  simp only [Option.bind_some]
  by_cases h : 0 ≤ a0 ∧ a0 ≤ 255
  · rw [decide_eq_true h]
    simp
  · rw [decide_eq_false h]
    simp

end Go.Proofs.Ytmeimclfohbdfaa.Pure
