/- The frame kit at a call that writes into rows of the call's own (marks). No program in it, no condition. -/
import Derived.Test.YtljeajecajlaiaaDoorFrameR
import Derived.Test.YtljeajecajlaiaaDoorWKept
namespace Go.Proofs.YtljeajecajlaiaaDoor.Frame
open Go.RowKit Go.Proofs.YtljeajecajlaiaaDoorW.PrintWords Go.Proofs.YtljeajecajlaiaaDoorW.PrintLast Go.Proofs.YtljeajecajlaiaaDoorW.PrintMore
section
variable {T : List Nat} {w W W' : World} {L : List Blk} {Ms : List World} {e base : Nat} {ok : Nat → Prop} {v : Value} {xs : List Int} {S : Nat → Prop}
theorem R_tight (h : (Kd.int .u8).R e W base ok v xs) : (Kd.int .u8).R e W base (fun k => v.ownBlock = some k) v xs := by
  obtain ⟨_, h2⟩ := h
  exact ⟨fun _ hk => hk, h2⟩
theorem R_type (h : (Kd.int .u8).R 5 W base ok v xs) : ∀ k, v.ownBlock = some k → ∃ cs, W.heap[k]? = some (.cells cs 5 (0, 0)) := fun k hk => by
  obtain ⟨_, _, _, q, hq, c, hc⟩ := (Kd.R_bound h).1 k hk
  have : q = 5 := by simpa [Kd.int, Kd.scalar] using hq
  subst this
  exact ⟨c, hc⟩
theorem Fr.kept (F : Fr T w W L Ms) (hb : Below w.heap.size w W') (hk : Kept W W' S) (hS : ∀ k, S k → ∃ cs, W.heap[k]? = some (.cells cs 5 (0, 0))) (ht : 5 ∉ T) : Fr T w W' L [W'] := by
  refine ⟨hb, fun b h => ⟨?_, (F.blk b h).2⟩, F.nd, fun M hM => ?_⟩
  · have h1 := (F.blk b h).1
    have hn : ¬ S b.1 := fun hs => by
      obtain ⟨cs, h2⟩ := hS _ hs
      rw [h1] at h2
      injection h2 with h2
      injection h2 with _ h2
      exact ht (h2 ▸ (F.blk b h).2.2)
    exact (hk.2 _ (F.lt h) hn).trans h1
  · obtain rfl := List.mem_singleton.1 hM
    exact .refl _ _
theorem Fr.rebase {w0 : World} (F : Fr T w W L Ms) (hB : Below w0.heap.size w0 w) : Fr T w0 W L Ms := ⟨below_step hB F.below, fun b h => ⟨(F.blk b h).1, Nat.le_trans hB.size (F.blk b h).2.1, (F.blk b h).2.2⟩, F.nd, F.mv⟩
end
end Go.Proofs.YtljeajecajlaiaaDoor.Frame
