/- The frame kit: structs appended onto rows of structs; pieces of a row handed on. No program in it, no condition. -/
import Derived.Test.YtljeajecajlaiaaDoorFrameO
namespace Go.Proofs.YtljeajecajlaiaaDoor.Frame
open Go.RowKit Go.Proofs.YtljeajecajlaiaaDoorW.PrintWords Go.Proofs.YtljeajecajlaiaaDoorW.PrintLast Go.Proofs.YtljeajecajlaiaaDoorW.PrintMore
section
theorem natpos {α : Type} {l : List α} (h : (l.length : Int) > 0) : decide (0 < l.length) = true := decide_eq_true (by omega)
theorem natnil {α : Type} {l : List α} (h : ¬ (l.length : Int) > 0) : l = [] := List.eq_nil_of_length_eq_zero (by omega)
theorem lenS_ {n : Nat} (h : decide (n < 4398046511104) = true) : (n + 1) * 32 ≤ 140737488355328 := by
  have := of_decide_eq_true h
  omega
theorem lenO_ {n : Nat} (h : decide (([] : List Int).length + n < 140737488355328) = true) : n * 1 ≤ 140737488355328 := by
  have := of_decide_eq_true h
  simp only [List.length_nil] at this
  omega
variable {T : List Nat} {w W w1 : World} {L LG : List Blk} {Ms MG : List World} {A A' : Option Addr} {l l' : List Int}
/-- In every world: where A bears l, A' bears l'. -/
def Cuts (A : Option Addr) (l : List Int) (A' : Option Addr) (l' : List Int) : Prop := ∀ W : World, (Kd.int .u8).C W A l.length l → (Kd.int .u8).C W A' l'.length l'
theorem Cuts_refl : Cuts A l A l := fun _ h => h
theorem Cuts_none : Cuts A l none [] := fun _ _ => Kd.C_nil _ _
/-- Of the i-th block the cell j. -/
def putC : List Blk → Nat → Nat → Value → List Blk
  | [], _, _, _ => []
  | b :: L, 0, j, v => (b.1, b.2.1.set j v, b.2.2) :: L
  | b :: L, i + 1, j, v => b :: putC L i j v
variable {α : Type} {d : Kd α} {e g : Nat} {ok : Nat → Prop} {v : Value} {xs : List α}
theorem Fr.grownS (F : Fr T w W L Ms) (HS : Kd.S d e W w.heap.size ok v xs) (ht : e ∉ T) (hb : Below w.heap.size w w1) (hg : W.grownBy w1 v.ownBlock) : Fr T w w1 L [w1] :=
  F.grown2 hb hg (fun k hk => Kd.S_typed HS k hk) ht
theorem emptyS_row {W1 : World} (F : Fr T w W L Ms) (hg0 : W.heap.size ≤ g) (hg : W1.heap[g]? = some (.cells #[] e (0, 0))) : Aside0 (Kd.S d e W1 w.heap.size (fun _ => True) (.slice (some ⟨g, 0, none⟩) ([] : List α).length 0) []) :=
  ⟨⟨fun _ => 0, fun _ _ => trivial, [], ⟨by simp, .inr ⟨g, 0, _, rfl, Nat.le_trans F.below.size hg0, hg, Nat.zero_le _, Nat.zero_le _, by simp, by simp⟩⟩, by simpa using Reps.none _ _⟩⟩
theorem S_row2 {base : Nat} (h : Kd.S d e W base ok v xs) : Kd.S d e W base (fun k => True ∧ base ≤ k ∧ k < W.heap.size) v xs := Kd.S_mono (Kd.S_bound h) (fun _ h => ⟨trivial, h.2.1, h.2.2.1⟩)
theorem R_row2 {base : Nat} (h : d.R e W base ok v xs) : d.R e W base (fun k => True ∧ base ≤ k ∧ k < W.heap.size) v xs := Kd.R_mono (Kd.R_bound h) (fun _ h => ⟨trivial, h.2.1, h.2.2.1⟩)
/-- A row of rows that a mark has written: none of its blocks is y's, which the mark has not touched. -/
theorem S_marked1 {wm : World} {base n lo : Nat} {P0 P1 okY : Nat → Prop} {y : Value} {ys : List Int} (q : Kd.S d e wm base (fun k => (P0 k ∨ P1 k) ∨ n ≤ k) v xs) (hy : (Kd.int .u8).R 5 W base okY y ys) (hW : W.heap.size ≤ n) (h0 : ∀ k, P0 k → some k ≠ y.ownBlock ∧ lo ≤ k) (h1 : ∀ k, P1 k → some k ≠ y.ownBlock ∧ lo ≤ k) (hn : lo ≤ n) :
    Kd.S d e wm base (fun k => some k ≠ y.ownBlock ∧ lo ≤ k ∧ k < wm.heap.size) v xs :=
  Kd.S_mono (Kd.S_bound q) (fun k h => by
    have hb := h.2.2.1
    rcases h.1 with (h | h) | h
    · exact ⟨(h0 k h).1, (h0 k h).2, hb⟩
    · exact ⟨(h1 k h).1, (h1 k h).2, hb⟩
    · refine ⟨fun e => ?_, by omega, hb⟩
      have := ((Kd.R_bound hy).1 k e.symm).2.2.1
      omega)
variable {P : Program} {ops : Array Oper} {rest : List Oper} {o1 o2 : Oper} {a : Act} {Q : Exit → Act → World → Prop} {N1 N2 : Tmp} {s x : Operand} {t bytes M : Nat} {z : Value} {p : α} {cs : List Value}
/-- append(v, x): x a literal of one struct, made the step before. -/
theorem lappS (F : Fr T w W L Ms) (h1N : o1.dst = some N1) (h1w : Region.wanted o1 (yielded ops a.tmps) = true) (h1run : (execOp a.eval o1).run P W = .ok (.value (.slice (some ⟨W.heap.size, 0, none⟩) 1 1)) (W.alloc (.cells cs.toArray e (0, 0))))
    (h2N : o2.dst = some N2) (h2w : Region.wanted o2 (yielded ops (a.put (some N1) (.slice (some ⟨W.heap.size, 0, none⟩) 1 1)).tmps) = true) (ho2 : o2.op = .call { callee := .builtin .append, args := #[s, x], argTypes := #[t, t] })
    (ht : P.underlying t = some (.slice e)) (hinfo : (P.info? e).map (fun i => (i.zero, i.size, i.bytes)) = some (some z, d.sz, bytes)) (hz : z.cells.size = d.sz) (hs0 : 0 < d.sz) (hb0 : 0 < bytes)
    (hs : (a.put (some N1) (.slice (some ⟨W.heap.size, 0, none⟩) 1 1)).eval s = v) (hx : (a.put (some N1) (.slice (some ⟨W.heap.size, 0, none⟩) 1 1)).eval x = .slice (some ⟨W.heap.size, 0, none⟩) 1 1)
    (hp : d.M W w.heap.size (fun k => M ≤ k) p cs) (HS : Kd.S d e W w.heap.size (fun k => k < M) v xs) (hT : e ∉ T) (hl : (xs.length + 1) * bytes ≤ 140737488355328)
    (h : ∀ v1 w1, Kd.S d e w1 w.heap.size (fun _ => True) v1 (xs ++ [p]) → Fr T w w1 L [w1] → GL P ops Q rest ((a.put (some N1) (.slice (some ⟨W.heap.size, 0, none⟩) 1 1)).put (some N2) v1) w1) : GL P ops Q (o1 :: o2 :: rest) a W := by
  refine ⟨wpList_step fun K hK => lon h1w ?_⟩
  unfold Oper.wp
  rw [h1run]
  show K (a.put o1.dst _) _
  rw [h1N]
  refine hK _ _ (wpList_step fun K2 hK2 => ?_)
  refine Kd.S_append_step d (w0 := w) w.heap.size h2w s x t e z bytes ho2 ht hinfo hz hs0 hb0 v xs p cs (fun _ => True) (fun k => M ≤ k) hs hx hp (fun k hk => ⟨trivial, fun h2 => ?_⟩) (fun _ _ => trivial) (Kd.S_mono HS (fun k hk => ⟨trivial, by omega⟩)) F.below F.below.size hl ?_
  · have := (Kd.S_R HS).1 k h2.symm
    omega
  · intro v1 w1 hS hb hg _
    rw [h2N]
    exact hK2 _ _ (h v1 w1 hS (F.grownS HS hT hb hg)).out
variable {md : Region.Mode} {ds : List Nat} {lb : Array Bool} {fuel : Nat}
/-! The same in regions that draw, step by step: the literal, a read of a block that the region writes later, the append -/
variable {oi : Oper} {a' : Act} {N : Tmp} {lb' : Array Bool} {p' : Operand} {ty i t' : Nat} {cs' : List Value}
theorem arm_load1 (G : Fr T w W LG MG) (F : Fr T w W L Ms) {u : Value} (ho : oi.op = .load ty p') (hN : oi.dst = some N) (hw : Region.wanted oi (yielded ops a.tmps) = true) (h1 : IsOne P ty) (hp : a.eval p' = .pointer (some ⟨g, i, none⟩)) (ha : At LG g cs' t' cs' LG) (hv : cs'[i]? = some u) (ha' : a.put (some N) u = a')
    (h : Fr T w W L Ms → wpAnyLast P md ops Q (fun w' => Fr T w w' L Ms) ds fuel lb' a' W) :
    ∀ K : Act → World → Prop, Shut (∀ a' w', Fr T w w' L Ms → (Fr T w w' L Ms → wpAnyLast P md ops Q (fun w' => Fr T w w' L Ms) ds fuel lb' a' w') → K a' w') → if Region.wanted oi (yielded ops a.tmps) = true then Oper.wp P oi a W K Q else K (a.put (some N) undef) W := by
  intro K hK
  rw [if_pos hw]
  have hr : (execOp a.eval oi).run P W = .ok (.value u) W := run_cell (w := W) ho hp h1 (by rw [blk_cell (G.get ha) i]; simpa using hv) (Below.refl _ _)
  unfold Oper.wp
  rw [hr]
  show K (a.put oi.dst u) W
  rw [hN, ha']
  exact hK _ _ F h
theorem rload1 (G : Fr T w W LG MG) (F : Fr T w W L Ms) (j : Nat) {u : Value} (hi : ops[j]? = some oi) (ho : oi.op = .load ty p') (hN : oi.dst = some N) (hw : Region.wanted oi (yielded ops a.tmps) = true) (hc : readyB md ops lb (lb.setIfInBounds j true) j = true) (hd : j ∉ ds) (h1 : IsOne P ty) (hp : a.eval p' = .pointer (some ⟨g, i, none⟩)) (ha : At LG g cs' t' cs' LG) (hv : cs'[i]? = some u) (ha' : a.put (some N) u = a')
    (h : Fr T w W L Ms → wpAnyLast P md ops Q (fun w' => Fr T w w' L Ms) ds fuel (lb.setIfInBounds j true) a' W) : wpAnyLast P md ops Q (fun w' => Fr T w w' L Ms) ds (fuel + 1) lb a W := one_ _ hi hN hc hd (arm_load1 G F ho hN hw h1 hp ha hv ha' h)
theorem arm_empty (FS : Fr T w W L Ms) (hN : oi.dst = some N) (hw : Region.wanted oi (yielded ops a.tmps) = true) (hrun : (execOp a.eval oi).run P W = .ok (.value (.slice (some ⟨W.heap.size, 0, none⟩) 0 0)) (W.alloc (.cells #[] e (0, 0))))
    (h : ∀ g w1, W.heap.size ≤ g → Below W.heap.size W w1 → w1.heap[g]? = some (.cells #[] e (0, 0)) → Fr T w w1 L Ms → wpAnyLast P md ops Q (fun w' => Fr T w w' L Ms) ds fuel lb' (a.put (some N) (.slice (some ⟨g, 0, none⟩) 0 0)) w1) :
    ∀ K : Act → World → Prop, Shut (∀ a' w', Fr T w w' L Ms → (Fr T w w' L Ms → wpAnyLast P md ops Q (fun w' => Fr T w w' L Ms) ds fuel lb' a' w') → K a' w') → if Region.wanted oi (yielded ops a.tmps) = true then Oper.wp P oi a W K Q else K (a.put (some N) undef) W := by
  intro K hK
  rw [if_pos hw]
  unfold Oper.wp
  rw [hrun]
  show K (a.put oi.dst _) _
  rw [hN]
  exact hK _ _ (FS.call (below_alloc (Below.refl _ _) _)) (fun F' => h _ _ (Nat.le_refl _) (below_alloc (Below.refl _ _) _) (blk_new W _) F')
theorem arm_litS (F : Fr T w W L Ms) (G : Fr T w W LG MG) (hN : oi.dst = some N) (hw : Region.wanted oi (yielded ops a.tmps) = true) (hrun : (execOp a.eval oi).run P W = .ok (.value (.slice (some ⟨W.heap.size, 0, none⟩) 1 1)) (W.alloc (.cells cs.toArray e (0, 0))))
    (h : Fr T w (W.alloc (.cells cs.toArray e (0, 0))) L Ms → Fr T w (W.alloc (.cells cs.toArray e (0, 0))) LG MG → wpAnyLast P md ops Q (fun w' => Fr T w w' L Ms) ds fuel lb' (a.put (some N) (.slice (some ⟨W.heap.size, 0, none⟩) 1 1)) (W.alloc (.cells cs.toArray e (0, 0)))) :
    ∀ K : Act → World → Prop, Shut (∀ a' w', Fr T w w' L Ms → (Fr T w w' L Ms → wpAnyLast P md ops Q (fun w' => Fr T w w' L Ms) ds fuel lb' a' w') → K a' w') → if Region.wanted oi (yielded ops a.tmps) = true then Oper.wp P oi a W K Q else K (a.put (some N) undef) W := by
  intro K hK
  rw [if_pos hw]
  unfold Oper.wp
  rw [hrun]
  show K (a.put oi.dst _) _
  rw [hN]
  exact hK _ _ (F.call (below_alloc (Below.refl _ _) _)) (fun F' => h F' (G.call (below_alloc (Below.refl _ _) _)))
theorem rlitS (F : Fr T w W L Ms) (G : Fr T w W LG MG) (j : Nat) (hi : ops[j]? = some oi) (hN : oi.dst = some N) (hw : Region.wanted oi (yielded ops a.tmps) = true) (hc : readyB md ops lb (lb.setIfInBounds j true) j = true) (hd : j ∉ ds) (hrun : (execOp a.eval oi).run P W = .ok (.value (.slice (some ⟨W.heap.size, 0, none⟩) 1 1)) (W.alloc (.cells cs.toArray e (0, 0))))
    (h : Fr T w (W.alloc (.cells cs.toArray e (0, 0))) L Ms → Fr T w (W.alloc (.cells cs.toArray e (0, 0))) LG MG → wpAnyLast P md ops Q (fun w' => Fr T w w' L Ms) ds fuel (lb.setIfInBounds j true) (a.put (some N) (.slice (some ⟨W.heap.size, 0, none⟩) 1 1)) (W.alloc (.cells cs.toArray e (0, 0)))) :
    wpAnyLast P md ops Q (fun w' => Fr T w w' L Ms) ds (fuel + 1) lb a W := one_ _ hi hN hc hd (arm_litS F G hN hw hrun h)
theorem rapp1 (F : Fr T w W L []) (G : Fr T w W LG MG) (j : Nat) (hi : ops[j]? = some o2) (hN : o2.dst = some N2) (hw : Region.wanted o2 (yielded ops a.tmps) = true) (hc : readyB md ops lb (lb.setIfInBounds j true) j = true) (hd : j ∉ ds)
    (ho2 : o2.op = .call { callee := .builtin .append, args := #[s, x], argTypes := #[t, t] })
    (ht : P.underlying t = some (.slice e)) (hinfo : (P.info? e).map (fun i => (i.zero, i.size, i.bytes)) = some (some z, d.sz, bytes)) (hz : z.cells.size = d.sz) (hs0 : 0 < d.sz) (hb0 : 0 < bytes)
    (hs : a.eval s = v) (hx : a.eval x = .slice (some ⟨W.heap.size, 0, none⟩) 1 1)
    (hp : d.M W w.heap.size (fun k => M ≤ k) p cs) (HS : Kd.S d e W w.heap.size (fun k => k < M) v xs) (hT : e ∉ T) (hl : (xs.length + 1) * bytes ≤ 140737488355328)
    (h : ∀ v1 w1, Kd.S d e w1 w.heap.size (fun _ => True) v1 (xs ++ [p]) → Fr T w w1 LG [w1] → Fr T w w1 L [] → wpAnyLast P md ops Q (fun w' => Fr T w w' L []) ds fuel (lb.setIfInBounds j true) (a.put (some N2) v1) w1) :
    wpAnyLast P md ops Q (fun w' => Fr T w w' L []) ds (fuel + 1) lb a (W.alloc (.cells cs.toArray e (0, 0))) := by
  refine one_ _ hi hN hc hd (fun K2 hK2 => ?_)
  rw [← hN]
  refine Kd.S_append_step d (w0 := w) w.heap.size hw s x t e z bytes ho2 ht hinfo hz hs0 hb0 v xs p cs (fun _ => True) (fun k => M ≤ k) hs hx hp (fun k hk => ⟨trivial, fun h2 => ?_⟩) (fun _ _ => trivial) (Kd.S_mono HS (fun k hk => ⟨trivial, by omega⟩)) F.below F.below.size hl ?_
  · have := (Kd.S_R HS).1 k h2.symm
    omega
  · intro v1 w1 hS hb hg _
    rw [hN]
    exact hK2 _ _ (F.grownS HS hT hb hg).drop (fun F' => h v1 w1 hS (G.grownS HS hT hb hg) F')
end
end Go.Proofs.YtljeajecajlaiaaDoor.Frame
