/- The frame kit at an append of bytes, in a region that draws its order. No program in it, no condition. -/
import Derived.Test.YtljeajecajlaiaaDoorFrameK
namespace Go.Proofs.YtljeajecajlaiaaDoor.Frame
open Go.RowKit Go.Proofs.YtljeajecajlaiaaDoorW.PrintWords Go.Proofs.YtljeajecajlaiaaDoorW.PrintLast Go.Proofs.YtljeajecajlaiaaDoorW.PrintMore
section
variable {P : Program} {ops : Array Oper} {a a' : Act} {Q : Exit → Act → World → Prop}
variable {T : List Nat} {w W w1 : World} {L : List Blk} {Ms : List World} {N : Tmp}
variable {md : Region.Mode} {ds : List Nat} {l : Array Bool} {fuel : Nat} {oi : Oper} {ok : Nat → Prop}
theorem Fr.grown (F : Fr T w W L Ms) {row : Option Nat} (hb : Below w.heap.size w w1) (hg : W.grownBy w1 row) (hr : ∀ k, row = some k → ∃ cs, W.heap[k]? = some (.cells cs 5 (0, 0))) (ht : 5 ∉ T) : Fr T w w1 L [w1] := by
  refine ⟨hb, fun b h => ⟨?_, (F.blk b h).2⟩, F.nd, fun M hM => ?_⟩
  · refine blk_grown (F.blk b h).1 hg (fun he => ?_)
    obtain ⟨cs, h2⟩ := hr _ he.symm
    have h1 := (F.blk b h).1
    rw [h1] at h2
    injection h2 with h2
    injection h2 with _ h2
    exact ht (h2 ▸ (F.blk b h).2.2)
  · obtain rfl := List.mem_singleton.1 hM
    exact .refl _ _
theorem Fr.drop (F : Fr T w W L Ms) : Fr T w W L [] := ⟨F.below, F.blk, F.nd, fun _ h => (by cases h)⟩
theorem Fr.keep {Ms' : List World} (F : Fr T w W L Ms) (h : ∀ M, M ∈ Ms' → M ∈ Ms) : Fr T w W L Ms' := ⟨F.below, F.blk, F.nd, fun M hM => F.mv M (h M hM)⟩
theorem rappend (F : Fr T w W L []) (j : Nat) (s x : Operand) (hi : ops[j]? = some oi) (hN : oi.dst = some N) (hw : Region.wanted oi (yielded ops a.tmps) = true) (hc : readyB md ops l (l.setIfInBounds j true) j = true) (hd : j ∉ ds)
    (ho : oi.op = .call { callee := .builtin .append, args := #[s, x], argTypes := #[36, 36] }) (hu : P.underlying 36 = some (.slice 5)) (hinfo : (P.info? 5).map (fun i => (i.zero, i.size, i.bytes)) = some (some (.int .u8 0), 1, 1))
    {v : Value} {xs ys : List Int} {A : Option Addr} {c : Nat} (hs : a.eval s = v) (hx : a.eval x = .slice A ys.length c) (HO : (Kd.int .u8).R 5 W w.heap.size ok v xs) (ht : 5 ∉ T) (HR : (Kd.int .u8).C W A ys.length ys) (hl : xs.length + ys.length ≤ 140737488355328)
    (h : ∀ v1 w1, (Kd.int .u8).R 5 w1 w.heap.size (fun _ => True) v1 (xs ++ ys) → Fr T w w1 L [] → Fr T w w1 L [w1] → wpAnyLast P md ops Q (fun w' => Fr T w w' L []) ds fuel (l.setIfInBounds j true) (a.put (some N) v1) w1) :
    wpAnyLast P md ops Q (fun w' => Fr T w w' L []) ds (fuel + 1) l a W := by
  refine one_ _ hi hN hc hd (fun K hK => ?_)
  have hO := Kd.R_mono HO (fun _ _ => True.intro)
  rw [← hN]
  refine Kd.R_append_rows_step (Kd.int .u8) (w0 := w) w.heap.size hw s x 36 5 (.int .u8 0) 1 ho hu hinfo rfl (by decide) (by omega) v xs ys _ _ _ (fun _ => True) (fun _ => False) hs hx hO HR (fun _ _ h => h) (fun _ h => h.elim) (fun _ _ => trivial) F.below F.below.size (by omega) ?_
  intro v1 w1 h1 h2 h3 _
  have hG := F.grown h2 h3 (R_type HO) ht
  exact hK _ _ hG.drop (fun hF => hN ▸ h v1 w1 h1 hF hG)
end
end Go.Proofs.YtljeajecajlaiaaDoor.Frame
