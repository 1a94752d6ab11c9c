/- The frame kit for rows whose elements hold rows that are apart. No program in it, no condition. -/
import Derived.Test.YtljeajecajlaiaaDoorFrame
import Derived.Test.YtljeajecajlaiaaDoorWApart
namespace Go.Proofs.YtljeajecajlaiaaDoor.Frame
open Go.RowKit Go.Proofs.YtljeajecajlaiaaDoorW.PrintWords Go.Proofs.YtljeajecajlaiaaDoorW.PrintLast Go.Proofs.YtljeajecajlaiaaDoorW.PrintMore
section
variable {α : Type} {d : Kd α} {e : Nat} {ok : Nat → Prop} {v : Value} {xs : List α} {T : List Nat} {w W w1 M : World} {L : List Blk} {Ms : List World}
theorem S_moved {base : Nat} (h : Kd.S d e M base ok v xs) (hm : Moved T M W) (ht : ∀ q, q ∈ e :: d.E → q ∉ T) : Kd.S d e W base ok v xs := by
  refine Kd.S_mono (Kd.S_move (Kd.S_bound h) (fun k hk => ?_)) (fun _ hk => hk.1)
  obtain ⟨_, _, hlt, q, hq, cells, hc⟩ := hk
  rcases hm.blk k hlt with h1 | ⟨t, htT, ⟨cs, h2⟩, _⟩
  · exact h1
  · rw [hc] at h2
    injection h2 with h2
    injection h2 with _ h2
    subst h2
    exact absurd htT (ht _ hq)
theorem Fr.rowS (F : Fr T w W L Ms) (ho : Kd.S d e w1 W.heap.size ok v xs) : Aside0 (Kd.S d e w1 w.heap.size (fun k => W.heap.size ≤ k ∧ k < w1.heap.size) v xs) :=
  ⟨Kd.S_lower (Kd.S_mono (Kd.S_bound ho) (fun _ hk => ⟨hk.2.1, hk.2.2.1⟩)) F.below.size⟩
theorem Fr.row_nowS (F : Fr T w W L Ms) (ho : Kd.S d e M w.heap.size ok v xs) (hM : M ∈ Ms) (ht : ∀ q, q ∈ e :: d.E → q ∉ T) : Kd.S d e W w.heap.size ok v xs := S_moved ho (F.mv M hM) ht
theorem Fr.rowCS {c : Nat} {A : Option Addr} (F : Fr T w W L Ms) (ho : Aside0 (Kd.S d e M w.heap.size ok (.slice A xs.length c) xs)) (hM : M ∈ Ms) (ht : ∀ q, q ∈ e :: d.E → q ∉ T) : d.C W A xs.length xs ∧ xs.length ≤ c :=
  F.rowC ⟨Kd.S_R ho.out⟩ hM ht
theorem S_own1 (h : Kd.S d e W w.heap.size ok v xs) : ∀ k, v.ownBlock = some k → ok k := (Kd.S_R h).1
end
end Go.Proofs.YtljeajecajlaiaaDoor.Frame
