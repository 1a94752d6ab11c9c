/- The program's UpperKind returns what the reference's returns, for all arguments. No condition. -/
import Derived.Test.YtmeimclfohbdfaaFFnExactUpperKindx
import Derived.Test.YtmeimclfohbdfaaBase
namespace Go.Proofs.Ytmeimclfohbdfaa.Pure
open Go.RowKit Go.Proofs.Ytmeimclfohbdfaa.FFnExactUpperKind Go.Proofs.YtmeimclfohbdfaaW.PrintWords Go.Proofs.YtmeimclfohbdfaaW.PrintLast Go.Proofs.YtmeimclfohbdfaaW.PrintMore Go.Proofs.Ytmeimclfohbdfaa.Base

namespace ExactUpperKind
theorem isByte (n : Int) : impl_isByte.f n = some (decide (0 ≤ n ∧ n ≤ 255)) := by
  unfold impl_isByte.f impl_within.f
  by_cases h : n ≥ 0
  · rw [if_pos h]
    simp [h]
  · rw [if_neg h]
    simp [h]

theorem specIn (n m : Int) : spec_l05In.f n m = some (decide (0 ≤ n ∧ n ≤ m)) := by
  unfold spec_l05In.f
  by_cases h : n ≥ 0
  · rw [if_pos h]
    simp [h]
  · rw [if_neg h]
    simp [h]

theorem kind_j (k : Nat) (a b : Int) (c : Bool) : spec_UpperKind.j0 k a b c = impl_UpperKind.j0 k a b c := by
  cases k with
  | zero => rfl
  | succ k => rfl
theorem kind_some (k : Nat) (a b : Int) (c : Bool) : ∃ r, impl_UpperKind.j0 (k + 1) a b c = some r := by
  simp only [impl_UpperKind.j0]
  repeat' split
  all_goals exact ⟨_, rfl⟩
end ExactUpperKind
open ExactUpperKind

theorem FnExactUpperKind : laws_FnExactUpperKind.Pure := by
  intro a0 a1 _ _
  refine ⟨1, ?_⟩
  have e : spec_UpperKind.f 1 a0 a1 = impl_UpperKind.f 1 a0 a1 := by
    unfold spec_UpperKind.f impl_UpperKind.f
    rw [isByte, specIn]
    simp only [Option.bind_some, kind_j]
  have h : ∃ r, impl_UpperKind.f 1 a0 a1 = some r := by
    unfold impl_UpperKind.f
    rw [isByte]
    simp only [Option.bind_some]
    split
    · split <;> exact kind_some 0 _ _ _
    · exact kind_some 0 _ _ _
  obtain ⟨r, hr⟩ := h
  unfold laws_FnExactUpperKind.f
  rw [e, hr]
  simp only [Option.bind_some]
  rw [if_pos (by first | rfl | trivial)]

end Go.Proofs.Ytmeimclfohbdfaa.Pure
