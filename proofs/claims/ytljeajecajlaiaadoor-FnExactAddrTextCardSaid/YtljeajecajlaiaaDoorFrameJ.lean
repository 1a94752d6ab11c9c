/- The frame kit: the ways of a region joined at its end; a literal's row in a plain region. No program in it, no condition. -/
import Derived.Test.YtljeajecajlaiaaDoorFrameR
namespace Go.Proofs.YtljeajecajlaiaaDoor.Frame
open Go.RowKit Go.Proofs.YtljeajecajlaiaaDoorW.PrintWords Go.Proofs.YtljeajecajlaiaaDoorW.PrintLast Go.Proofs.YtljeajecajlaiaaDoorW.PrintMore
section
variable {P : Program} {c : Code} {ops : Array Oper} {rest : List Oper} {o : Oper} {a a' : Act} {Q : Exit → Act → World → Prop}
variable {T : List Nat} {w W : World} {L : List Blk} {Ms : List World} {cs : List Value} {e n : Nat} {N : Tmp}
theorem join_ (_F : Fr T w W L Ms) (M : Act → Act → Prop) (h1 : ∀ Q1 : Exit → Act → World → Prop, (∀ a' W', M a a' → Fr T w W' L Ms → Q1 .normal a' W') → c.wp P Q1 a W) (h2 : ∀ a' W', M a a' ∧ Fr T w W' L Ms → Q .normal a' W') : c.wp P Q a W :=
  Code.wp_mono (fun e a' W' h => by obtain ⟨rfl, hm⟩ := h; exact h2 a' W' hm) (h1 (fun e a' W' => e = .normal ∧ M a a' ∧ Fr T w W' L Ms) (fun _ _ h1 h2 => ⟨rfl, h1, h2⟩))
theorem qnorm {e : Exit} (ha : a = a') (h : Q e a' W) : Q e a W := ha ▸ h
theorem Fr.lbuild (F : Fr T w W L Ms) (hN : o.dst = some N) (hw : Region.wanted o (yielded ops a.tmps) = true)
    (hrun : (execOp a.eval o).run P W = .ok (.value (.slice (some ⟨W.heap.size, 0, none⟩) n n)) (W.alloc (.cells cs.toArray e (0, 0))))
    (h : ∀ g w1, w.heap.size ≤ g → Below W.heap.size W w1 → w1.heap[g]? = some (.cells cs.toArray e (0, 0)) → Fr T w w1 L Ms → GL P ops Q rest (a.put (some N) (.slice (some ⟨g, 0, none⟩) n n)) w1) : GL P ops Q (o :: rest) a W := by
  refine ⟨wpList_step fun K hK => lon hw ?_⟩
  unfold Oper.wp
  rw [hrun]
  show K (a.put o.dst _) _
  rw [hN]
  exact hK _ _ (h _ _ F.below.size (below_alloc (Below.refl _ _) _) (blk_new W _) (F.call (below_alloc (Below.refl _ _) _))).out
end
end Go.Proofs.YtljeajecajlaiaaDoor.Frame
