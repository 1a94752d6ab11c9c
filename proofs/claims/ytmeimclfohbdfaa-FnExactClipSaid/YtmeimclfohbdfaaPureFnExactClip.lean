/- The program's Clip returns what the reference's returns, for all arguments. No condition. -/
import Derived.Test.YtmeimclfohbdfaaFFnExactClipx
import Derived.Test.YtmeimclfohbdfaaBase
namespace Go.Proofs.Ytmeimclfohbdfaa.Pure
open Go.RowKit Go.Proofs.Ytmeimclfohbdfaa.FFnExactClip Go.Proofs.YtmeimclfohbdfaaW.PrintWords Go.Proofs.YtmeimclfohbdfaaW.PrintLast Go.Proofs.YtmeimclfohbdfaaW.PrintMore Go.Proofs.Ytmeimclfohbdfaa.Base

namespace ExactClip
end ExactClip
open ExactClip

theorem FnExactClip : laws_FnExactClip.Pure := by
  intro a0 a1 a2 _ _ _
  have e : spec_Clip.f a0 a1 a2 = impl_Clip.f a0 a1 a2 := rfl
  have h : ∃ r, impl_Clip.f a0 a1 a2 = some r := by
    unfold impl_Clip.f
    split
    · exact ⟨_, rfl⟩
    · split <;> exact ⟨_, rfl⟩
  obtain ⟨r, hr⟩ := h
  unfold laws_FnExactClip.f
  rw [e, hr]
  simp only [Option.bind_some]
  rw [if_pos (by first | rfl | trivial)]

end Go.Proofs.Ytmeimclfohbdfaa.Pure
