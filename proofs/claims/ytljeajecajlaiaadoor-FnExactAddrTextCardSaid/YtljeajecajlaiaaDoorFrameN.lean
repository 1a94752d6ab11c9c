/- The frame kit at a call that writes into rows whose elements hold rows (marks). No program in it, no condition. -/
import Derived.Test.YtljeajecajlaiaaDoorFrameX
namespace Go.Proofs.YtljeajecajlaiaaDoor.Frame
open Go.RowKit Go.Proofs.YtljeajecajlaiaaDoorW.PrintWords Go.Proofs.YtljeajecajlaiaaDoorW.PrintLast Go.Proofs.YtljeajecajlaiaaDoorW.PrintMore
section
variable {α : Type} {d : Kd α} {T : List Nat} {w W W' : World} {L : List Blk} {Ms : List World} {e base : Nat} {ok : Nat → Prop} {v : Value} {xs : List α} {S : Nat → Prop}
/-- What is told of a row's blocks: each is of one of the row's types. -/
def Told (d : Kd α) (e : Nat) (W : World) (base : Nat) (ok : Nat → Prop) (k : Nat) : Prop := ok k ∧ base ≤ k ∧ k < W.heap.size ∧ ∃ q, q ∈ e :: d.E ∧ ∃ cells, W.heap[k]? = some (.cells cells q (0, 0))
theorem S_told_ (h : Kd.S d e W base ok v xs) : Kd.S d e W base (Told d e W base ok) v xs := Kd.S_bound h
theorem Told.type {k : Nat} {W : World} (h : Told d e W base ok k) (ht : ∀ q, q ∈ e :: d.E → q ∉ T) : ∃ q cs, W.heap[k]? = some (.cells cs q (0, 0)) ∧ q ∉ T := by
  obtain ⟨_, _, _, q, hq, cs, hc⟩ := h
  exact ⟨q, cs, hc, ht q hq⟩
theorem Fr.keptS (F : Fr T w W L Ms) (hb : Below w.heap.size w W') (hk : Kept W W' S) (hS : ∀ k, S k → ∃ q cs, W.heap[k]? = some (.cells cs q (0, 0)) ∧ q ∉ T) : Fr T w W' L [W'] := by
  refine ⟨hb, fun b h => ⟨?_, (F.blk b h).2⟩, F.nd, fun M hM => ?_⟩
  · have h1 := (F.blk b h).1
    have hn : ¬ S b.1 := fun hs => by
      obtain ⟨q, cs, h2, h3⟩ := hS _ hs
      rw [h1] at h2
      injection h2 with h2
      injection h2 with _ h2
      exact h3 (h2 ▸ (F.blk b h).2.2)
    exact (hk.2 _ (F.lt h) hn).trans h1
  · obtain rfl := List.mem_singleton.1 hM
    exact .refl _ _
/-- The blocks under a name. -/
theorem Fr_name (F : Fr T w W L Ms) : ∃ L', Fr T w W L' Ms ∧ Aside0 (L' = L) := ⟨L, F, ⟨rfl⟩⟩
theorem Fr_now (F : Fr T w W L Ms) : Fr T w W L [W] := ⟨F.below, F.blk, F.nd, fun M hM => by obtain rfl := List.mem_singleton.1 hM; exact .refl _ _⟩
/-! An element of a row of structs: its address, and a cell of it. -/
variable {P : Program} {o : Oper} {a : Act} {p x s : Operand} {A : Option Addr} {t ty e' n m : Nat} {kl : IntKind} {y : Int} {ad q : Addr} {u : Value}
theorem run_idxn (ho : o.op = .indexAddr t s x) (hs : a.eval s = .slice A m n) (hx : a.eval x = .int kl y) (ht : P.underlying t = some (.slice e')) {z : Nat} (hinfo : (P.info? e').map (·.size) = some z) (hA : A = some ad) (h0 : 0 ≤ y) (h1 : y < m) :
    (execOp a.eval o).run P W' = .ok (.value (.pointer (some (ad.add (y.toNat * z))))) W' := by
  obtain ⟨i, hi, hsz⟩ := Option.map_eq_some_iff.1 hinfo
  subst hA
  have hel : P.elem t = e' := by simp [Program.elem, ht]
  have hu : P.underlying t = some (.slice (P.elem t)) := by rw [hel]; exact ht
  unfold execOp
  simp only [ho, hs, hx, Sem.run_bind, Sem.run_pure, run_indexAt_slice (h := hu), if_pos (show 0 ≤ y ∧ y < (m : Int) from ⟨h0, h1⟩), hel]
  simp [sizeOf, typeInfo, hi, hsz, Result.andThen]
theorem run_cell (ho : o.op = .load ty p) (hp : a.eval p = .pointer (some q)) (h1 : IsOne P ty) (hc : w.cell? q = some u) (hb : Below w.heap.size w W') : (execOp a.eval o).run P W' = .ok (.value u) W' := by
  have hl := run_agg_one (P := P) h1 W'
  have hc' := (hb.cell (World.block_lt_of_cell? w q hc)).trans hc
  unfold execOp
  simp [ho, hp, Instr.loadAt, Instr.sureAddr, Sem.run_bind, loadVar, hl, hc']
end
end Go.Proofs.YtljeajecajlaiaaDoor.Frame
