/- The program's TagParts returns what the reference's returns, for all arguments. No condition. -/
import Derived.Test.YtmeimclfohbdfaaFFnExactTagPartsx
import Derived.Test.YtmeimclfohbdfaaBase
namespace Go.Proofs.Ytmeimclfohbdfaa.Pure
open Go.RowKit Go.Proofs.Ytmeimclfohbdfaa.FFnExactTagParts Go.Proofs.YtmeimclfohbdfaaW.PrintWords Go.Proofs.YtmeimclfohbdfaaW.PrintLast Go.Proofs.YtmeimclfohbdfaaW.PrintMore Go.Proofs.Ytmeimclfohbdfaa.Base

namespace ExactTagParts
theorem isWord (n : Int) : impl_isWord.f n = some (decide (0 ≤ n ∧ n ≤ 65535)) := by
  unfold impl_isWord.f impl_within.f
  by_cases h : n ≥ 0
  · rw [if_pos h]
    simp [h]
  · rw [if_neg h]
    simp [h]

end ExactTagParts
open ExactTagParts

theorem FnExactTagParts : laws_FnExactTagParts.Pure := by
  intro a0 _
  unfold laws_FnExactTagParts.f spec_TagParts.f impl_TagParts.f
  rw [isWord]
  simp only [Option.bind_some]
  by_cases h : 0 ≤ a0 ∧ a0 ≤ 65535
  · rw [if_neg (by omega), if_neg (by omega), decide_eq_true h]
    simp
  · rw [decide_eq_false h]
    by_cases h0 : a0 < 0
    · rw [if_pos h0]
      simp
    · rw [if_neg h0, if_pos (by omega)]
      simp

end Go.Proofs.Ytmeimclfohbdfaa.Pure
