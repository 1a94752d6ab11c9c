/- The frame kit: structs read out of rows; function values that have captured something. No program in it, no condition. -/
import Derived.Test.YtljeajecajlaiaaDoorFrameN
namespace Go.Proofs.YtljeajecajlaiaaDoor.Frame
open Go.RowKit Go.Proofs.YtljeajecajlaiaaDoorW.PrintWords Go.Proofs.YtljeajecajlaiaaDoorW.PrintLast Go.Proofs.YtljeajecajlaiaaDoorW.PrintMore
section
variable {T : List Nat} {w W W' : World} {L : List Blk} {Ms : List World}
variable {P : Program} {o : Oper} {a : Act} {p s : Operand} {t ty : Nat} {q : Addr} {u : Value}
/-- A struct of two cells, read out of a row. -/
theorem cell_spot (h : w.cell? q = some u) : q = ⟨q.block, q.off, none⟩ := by
  obtain ⟨b, i, s⟩ := q
  cases s with
  | none => rfl
  | some s =>
    unfold World.cell? at h
    split at h
    · simp at h
    · cases h
variable {ops : Array Oper} {rest : List Oper} {Q : Exit → Act → World → Prop} {N : Tmp}
theorem lrow2 {u0 u1 : Value} (ho : o.op = .load ty p) (hgd : o.guard = none) (hd : o.dst = some N) (h1 : IsRow P ty 2) (hp : a.eval p = .pointer (some q)) (hc0 : w.cell? q = some u0) (hc1 : w.cell? ⟨q.block, q.off + 1, none⟩ = some u1) (hb : Below w.heap.size w W)
    (h : GL P ops Q rest (a.put (some N) (.agg #[u0, u1])) W) : GL P ops Q (o :: rest) a W := by
  obtain ⟨d, hu, hr⟩ := h1.d
  have hq := cell_spot hc0
  have c0 := (hb.cell (World.block_lt_of_cell? w _ hc0)).trans hc0
  have c1 := (hb.cell (World.block_lt_of_cell? w _ hc1)).trans hc1
  rw [hq] at hp c0
  refine ⟨wpList_load_mid hgd ty p ho q.block q.off hp [u0, u1] d (fun j v hj => ?_) hu hr (by exact h1.n) (by rw [hd]; exact h.out)⟩
  match j with
  | 0 => exact c0.trans hj
  | 1 => exact c1.trans hj
  | j + 2 => simp at hj
/-- What a function value has captured: a cell of the block. -/
theorem run_cap {cs : List Value} {g i : Nat} (ho : o.op = .load ty p) (hp : a.eval p = .pointer (some ⟨g, i, none⟩)) (h1 : IsOne P ty) (hg : w.heap[g]? = some (.cells cs.toArray t (0, 0))) (hv : cs[i]? = some u) (hb : Below w.heap.size w W') : (execOp a.eval o).run P W' = .ok (.value u) W' :=
  run_cell ho hp h1 (by rw [blk_cell hg i]; simpa using hv) hb
/-! A call of a function value that has captured something. -/
variable {f : FuncId} {fn : Func} {x : Operand} {as : Array Operand} {ts : Array TypeId} {cs args : Array Value}
theorem enters_clo (hf : P.funcs[f]? = some fn) (hname : (fn.name == "runtime.NumGoroutine") = false) (hb : fn.body.isSome = true) (hop : o.op = .call { callee := .value x, args := as, argTypes := ts }) (hx : a.eval x = .func (.func f) #[] cs) (hargs : as.map a.eval ++ cs = args) :
    (execOp a.eval o).run P W = .ok (.enter f args) W := by
  have he := enters_ hf hname hb args W
  unfold execOp
  simp [hop, resolve, Deferred.ofValue, invoke, hx, hargs, he]
theorem lcallc (hop : o.op = .call { callee := .value x, args := as, argTypes := ts }) (hN : o.dst = some N) (hw : Region.wanted o (yielded ops a.tmps) = true)
    (hf : P.funcs[f]? = some fn) (hname : (fn.name == "runtime.NumGoroutine") = false) (hb : fn.body.isSome = true) (hx : a.eval x = .func (.func f) #[] cs) (hargs : as.map a.eval ++ cs = args)
    (h : Calls P f args W fun e w' => ∃ v, e = .returned v ∧ GL P ops Q rest (a.put (some N) v) w') : GL P ops Q (o :: rest) a W :=
  ⟨wpList_step fun K hK => by
    rw [hN]
    exact call_ f args hw hN (enters_clo hf hname hb hop hx hargs) (h.mono fun _ _ ⟨v, he, hh⟩ => ⟨v, he, hK _ _ hh.out⟩)⟩
variable {md : Region.Mode} {ds : List Nat} {lb lb' : Array Bool} {fuel : Nat} {oi : Oper}
theorem arm_callc (hop : oi.op = .call { callee := .value x, args := as, argTypes := ts }) (hN : oi.dst = some N) (hw : Region.wanted oi (yielded ops a.tmps) = true)
    (hf : P.funcs[f]? = some fn) (hname : (fn.name == "runtime.NumGoroutine") = false) (hb : fn.body.isSome = true) (hx : a.eval x = .func (.func f) #[] cs) (hargs : as.map a.eval ++ cs = args)
    (h : Calls P f args W fun e w' => ∃ v, e = .returned v ∧ Fr T w w' L Ms ∧ (Fr T w w' L Ms → wpAnyLast P md ops Q (fun w' => Fr T w w' L Ms) ds fuel lb' (a.put (some N) v) w')) :
    ∀ K : Act → World → Prop, Shut (∀ a' w', Fr T w w' L Ms → (Fr T w w' L Ms → wpAnyLast P md ops Q (fun w' => Fr T w w' L Ms) ds fuel lb' a' w') → K a' w') → if Region.wanted oi (yielded ops a.tmps) = true then Oper.wp P oi a W K Q else K (a.put (some N) undef) W :=
  fun _ hK => call_ f args hw hN (enters_clo hf hname hb hop hx hargs) (h.mono fun _ _ ⟨v, he, hF, hh⟩ => ⟨v, he, hK _ _ hF hh⟩)
theorem rcallc (j : Nat) (hi : ops[j]? = some oi) (hop : oi.op = .call { callee := .value x, args := as, argTypes := ts }) (hN : oi.dst = some N) (hw : Region.wanted oi (yielded ops a.tmps) = true) (hc : readyB md ops lb (lb.setIfInBounds j true) j = true) (hd : j ∉ ds)
    (hf : P.funcs[f]? = some fn) (hname : (fn.name == "runtime.NumGoroutine") = false) (hb : fn.body.isSome = true) (hx : a.eval x = .func (.func f) #[] cs) (hargs : as.map a.eval ++ cs = args)
    (h : Calls P f args W fun e w' => ∃ v, e = .returned v ∧ Fr T w w' L Ms ∧ (Fr T w w' L Ms → wpAnyLast P md ops Q (fun w' => Fr T w w' L Ms) ds fuel (lb.setIfInBounds j true) (a.put (some N) v) w')) : wpAnyLast P md ops Q (fun w' => Fr T w w' L Ms) ds (fuel + 1) lb a W :=
  one_ _ hi hN hc hd fun _ hK => call_ f args hw hN (enters_clo hf hname hb hop hx hargs) (h.mono fun _ _ ⟨v, he, hF, hh⟩ => ⟨v, he, hK _ _ hF hh⟩)
end
end Go.Proofs.YtljeajecajlaiaaDoor.Frame
