/- The frame kit at a plain region: one step an operation, guards told. What is left stands in a box (GL), so that no tactic reduces it. No program in it, no condition. -/
import Derived.Test.YtljeajecajlaiaaDoorFrame
namespace Go.Proofs.YtljeajecajlaiaaDoor.Frame
open Go.RowKit Go.Proofs.YtljeajecajlaiaaDoorW.PrintWords Go.Proofs.YtljeajecajlaiaaDoorW.PrintLast Go.Proofs.YtljeajecajlaiaaDoorW.PrintMore
/-- What is left of a plain region. -/
structure GL (P : Program) (ops : Array Oper) (Q : Exit → Act → World → Prop) (rest : List Oper) (a : Act) (W : World) : Prop where
  out : wpList P ops Q rest a W
section
variable {P : Program} {ops : Array Oper} {rest : List Oper} {o : Oper} {a a' : Act} {Q : Exit → Act → World → Prop}
variable {T : List Nat} {w W : World} {L L' : List Blk} {Ms : List World} {g i t : Nat} {cs cs' : List Value} {ty : Nat} {N : Tmp} {p x : Operand}
theorem plain_region {id : Nat} {l : List Oper} (h : GL P l.toArray Q l a W) : (Code.region id l.toArray false).wp P Q a W := wp_region_lit h.out
theorem lend (h : Q .normal a W) : GL P ops Q [] a W := ⟨h⟩
theorem lon {K : Act → World → Prop} (hw : Region.wanted o (yielded ops a.tmps) = true) (h : Oper.wp P o a W K Q) : if Region.wanted o (yielded ops a.tmps) = true then Oper.wp P o a W K Q else K (a.put o.dst undef) W := by
  rw [if_pos hw]
  exact h
theorem lval {v : Value} (hw : Region.wanted o (yielded ops a.tmps) = true) (hN : o.dst = some N) (hv : (execOp a.eval o).run P W = .ok (.value v) W) (h : GL P ops Q rest (a.put (some N) v) W) : GL P ops Q (o :: rest) a W := by
  refine ⟨wpList_step fun K hK => lon hw ?_⟩
  unfold Oper.wp
  rw [hv]
  show K (a.put o.dst v) W
  rw [hN]
  exact hK _ _ h.out
theorem lpure {v : Value} (hN : o.dst = some N) (hw : Region.wanted o (yielded ops a.tmps) = true) (hv : (execOp a.eval o).run P W = .ok (.value v) W) (ha : a.put (some N) v = a') (h : GL P ops Q rest a' W) : GL P ops Q (o :: rest) a W :=
  lval hw hN hv (ha ▸ h)
theorem loff (hN : o.dst = some N) (hw : Region.wanted o (yielded ops a.tmps) = false) (ha : a.put (some N) undef = a') (h : GL P ops Q rest a' W) : GL P ops Q (o :: rest) a W := by
  refine ⟨wpList_step fun K hK => ?_⟩
  rw [if_neg (by rw [hw]; exact Bool.false_ne_true), hN]
  exact hK _ _ (ha ▸ h).out
theorem Fr.lone (F : Fr T w W L Ms) {v : Value} (ho : o.op = .load ty p) (hN : o.dst = some N) (hw : Region.wanted o (yielded ops a.tmps) = true) (h1 : IsOne P ty) (hp : a.eval p = .pointer (some ⟨g, i, none⟩)) (ha : At L g cs t cs L) (hv : cs[i]? = some v)
    (hp' : a.put (some N) v = a') (h : GL P ops Q rest a' W) : GL P ops Q (o :: rest) a W := by
  refine lpure hN hw ?_ hp' h
  have hl := run_agg_one (P := P) h1 W
  have hcell : W.cell? ⟨g, i, none⟩ = some v := by rw [blk_cell (F.get ha) i]; simpa using hv
  unfold execOp
  simp [ho, hp, Instr.loadAt, Instr.sureAddr, Sem.run_bind, loadVar, hl, hcell]
theorem run_load_row {n : Nat} {seg : List Value} (F : Fr T w W L Ms) (ho : o.op = .load ty p) (h1 : IsRow P ty n) (hp : a.eval p = .pointer (some ⟨g, i, none⟩)) (ha : At L g cs t cs L) (hv : (cs.drop i).take n = seg) (hn : seg.length = n) :
    (execOp a.eval o).run P W = .ok (.value (.agg seg.toArray)) W := by
  obtain ⟨d, hu, hr⟩ := h1.d
  have hc : W.rangeAt g i seg := fun j v hj => by
    rw [blk_cell (F.get ha)]
    subst hv
    rw [List.getElem?_take] at hj
    split at hj
    · rw [List.getElem?_drop] at hj
      simpa using hj
    · cases hj
  unfold execOp
  simp only [ho, hp, Instr.loadAt, Instr.sureAddr, Sem.run_bind, Sem.run_pure, Result.andThen_ok, run_loadVar_mid W g i ty seg d hc hu hr (by rw [hn]; exact h1.n)]
theorem Fr.lrow (F : Fr T w W L Ms) {n : Nat} {seg : List Value} (ho : o.op = .load ty p) (hN : o.dst = some N) (hw : Region.wanted o (yielded ops a.tmps) = true) (h1 : IsRow P ty n) (hp : a.eval p = .pointer (some ⟨g, i, none⟩)) (ha : At L g cs t cs L)
    (hv : (cs.drop i).take n = seg) (hn : seg.length = n) (hp' : a.put (some N) (.agg seg.toArray) = a') (h : GL P ops Q rest a' W) : GL P ops Q (o :: rest) a W :=
  lpure hN hw (run_load_row F ho h1 hp ha hv hn) hp' h
theorem lcall {f : FuncId} {fn : Func} {as : Array Operand} {ts : Array TypeId} {args : Array Value} (hop : o.op = .call { callee := .value (.func f), args := as, argTypes := ts }) (hN : o.dst = some N) (hw : Region.wanted o (yielded ops a.tmps) = true)
    (hf : P.funcs[f]? = some fn) (hname : (fn.name == "runtime.NumGoroutine") = false) (hb : fn.body.isSome = true)
    (h : Calls P f args W fun e w' => ∃ v, e = .returned v ∧ GL P ops Q rest (a.put (some N) v) w') (hargs : as.map a.eval = args) : GL P ops Q (o :: rest) a W :=
  ⟨wpList_step fun K hK => by
    rw [hN]
    exact goes_ hf hname hb args hw hN hop hargs (h.mono fun _ _ ⟨v, he, hh⟩ => ⟨v, he, hK _ _ hh.out⟩)⟩
theorem lnorm (ha : a = a') (h : GL P ops Q rest a' W) : GL P ops Q rest a W := ha ▸ h
theorem Fr.lbox (F : Fr T w W L Ms) (ho : o.op = .box ty x) (hgd : o.guard = none) (hd : o.dst = some N) (hrun : (execOp a.eval o).run P W = .ok (.value (.pointer (some ⟨W.heap.size, 0, none⟩))) (W.alloc (.cells cs.toArray t (0, 0)))) (ht : t ∈ T)
    (h : ∀ g w1, Fr T w w1 ((g, cs, t) :: L) Ms → GL P ops Q rest (a.put (some N) (.pointer (some ⟨g, 0, none⟩))) w1) : GL P ops Q (o :: rest) a W :=
  ⟨F.box ho hgd hd hrun ht (fun g w1 hF => (h g w1 hF).out)⟩
theorem Fr.lalloc (F : Fr T w W L Ms) (ho : o.op = .alloc ty) (hgd : o.guard = none) (hd : o.dst = some N) (hrun : (execOp a.eval o).run P W = .ok (.value (.pointer (some ⟨W.heap.size, 0, none⟩))) (W.alloc (.cells cs.toArray t (0, 0)))) (ht : t ∈ T)
    (h : ∀ g w1, Fr T w w1 ((g, cs, t) :: L) Ms → GL P ops Q rest (a.put (some N) (.pointer (some ⟨g, 0, none⟩))) w1) : GL P ops Q (o :: rest) a W :=
  ⟨F.alloc ho hgd hd hrun ht (fun g w1 hF => (h g w1 hF).out)⟩
theorem Fr.lstoreOne (F : Fr T w W L Ms) {u : Value} (ho : o.op = .store ty p x) (hgd : o.guard = none) (hd : o.dst = none) (ht : IsOne P ty) (hp : a.eval p = .pointer (some ⟨g, i, none⟩)) (hx : a.eval x = u) (hu : u.cells = #[u])
    (h1 : u.oneCell' = true) (ha : At L g cs t cs' L') (hv : cs.set i u = cs') (hl : i < cs.length) (h : ∀ w1, Fr T w w1 L' Ms → GL P ops Q rest a w1) : GL P ops Q (o :: rest) a W :=
  ⟨F.storeOne ho hgd hd ht hp hx hu h1 ha hv hl (fun w1 hF => (h w1 hF).out)⟩
theorem Fr.lstoreRow (F : Fr T w W L Ms) {seg : List Value} {n : Nat} (ho : o.op = .store ty p x) (hgd : o.guard = none) (hd : o.dst = none) (ht : IsRow P ty n) (hp : a.eval p = .pointer (some ⟨g, i, none⟩)) (hx : a.eval x = .agg seg.toArray) (hn : seg.length = n)
    (h1 : seg.all (·.oneCell') = true) (ha : At L g cs t cs' L') (hv : cs.take i ++ seg ++ cs.drop (i + n) = cs') (hl : i + n ≤ cs.length) (h : ∀ w1, Fr T w w1 L' Ms → GL P ops Q rest a w1) : GL P ops Q (o :: rest) a W :=
  ⟨F.storeRow ho hgd hd ht hp hx hn h1 ha hv hl (fun w1 hF => (h w1 hF).out)⟩
end
end Go.Proofs.YtljeajecajlaiaaDoor.Frame
