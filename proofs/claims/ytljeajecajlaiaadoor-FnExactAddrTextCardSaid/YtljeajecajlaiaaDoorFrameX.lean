/- The frame kit: slices cut, elements of rows read, rows made by an append onto an empty literal, blocks made and written in regions that draw their order. No program in it, no condition. -/
import Derived.Test.YtljeajecajlaiaaDoorFrameJ
import Derived.Test.YtljeajecajlaiaaDoorFrameA
import Derived.Test.YtljeajecajlaiaaDoorFrameS
namespace Go.Proofs.YtljeajecajlaiaaDoor.Frame
set_option linter.unusedVariables false
set_option linter.unusedSimpArgs false
open Go.RowKit Go.Proofs.YtljeajecajlaiaaDoorW.PrintWords Go.Proofs.YtljeajecajlaiaaDoorW.PrintLast Go.Proofs.YtljeajecajlaiaaDoorW.PrintMore
/-- The address of a slice cut m elements further. -/
def subA (A : Option Addr) (c m : Nat) : Option Addr := if c = m then A else A.map (·.add m)
section
variable {k : IntKind} {w W : World} {A : Option Addr} {c n m : Nat} {l : List Int}
theorem C_take (h : (Kd.int k).C W A l.length l) (n : Nat) : (Kd.int k).C W A (l.take n).length (l.take n) := by
  by_cases hn : n ≤ l.length
  · have h2 := (Kd.reads_of_C (enc := Value.int k) (d := (0 : Int)) (h1 := fun _ => rfl) h).take_ n hn
    have e : (l.take n).length = n := by rw [List.length_take]; omega
    rw [e]
    exact Kd.C_of_reads (h1 := fun _ => rfl) h2
  · rw [List.take_of_length_le (by omega)]
    exact h
theorem C_drop (h : (Kd.int k).C W A l.length l) (hc : l.length ≤ c) (n : Nat) : (Kd.int k).C W (subA A c n) (l.drop n).length (l.drop n) := by
  by_cases hn : n ≤ l.length
  · have h2 := (Kd.reads_of_C (enc := Value.int k) (d := (0 : Int)) (h1 := fun _ => rfl) h).drop_ (c := c) n hn hc
    have e : (l.drop n).length = l.length - n := List.length_drop
    rw [e]
    exact Kd.C_of_reads (h1 := fun _ => rfl) h2
  · have e : l.drop n = [] := List.drop_eq_nil_of_le (by omega)
    rw [e]
    exact ⟨rfl, by simp, fun h0 => absurd h0 (by simp)⟩
theorem R_cast {α : Type} {d : Kd α} {e base : Nat} {ok : Nat → Prop} {v : Value} {xs ys : List α} (h : d.R e W base ok v xs) (hy : xs = ys) : d.R e W base ok v ys := hy ▸ h
theorem R_name {α : Type} {d : Kd α} {e base : Nat} {ok : Nat → Prop} {v : Value} {xs : List α} (h : d.R e W base ok v xs) : ∃ ys, xs = ys ∧ d.R e W base ok v ys := ⟨_, rfl, h⟩
theorem L_take (hc : l.length ≤ c) (n : Nat) : (l.take n).length ≤ c := by rw [List.length_take]; omega
theorem L_drop (hc : l.length ≤ c) (n : Nat) : (l.drop n).length ≤ c - n := by rw [List.length_drop]; omega
end
section
variable {P : Program} {ops : Array Oper} {rest : List Oper} {o : Oper} {a a' : Act} {Q : Exit → Act → World → Prop}
variable {T : List Nat} {w W W0 W' : World} {L L' LG LG' : List Blk} {Ms MG : List World} {g i t e ty n c : Nat} {cs cs' : List Value} {N : Tmp} {p x s : Operand} {A : Option Addr} {l : List Int} {k kl kh : IntKind} {b y z : Int}
variable {md : Region.Mode} {ds : List Nat} {lb : Array Bool} {fuel : Nat} {oi : Oper}
theorem run_mid {lo hi : Operand} (ho : o.op = .slice t s (some lo) (some hi) none) (hs : a.eval s = .slice A l.length c) (hlo : a.eval lo = .int kl y) (hhi : a.eval hi = .int kh z) (ht : P.underlying t = some (.slice e)) (hinfo : (P.info? e).map (·.size) = some 1) (hc : l.length ≤ c) (h0 : 0 ≤ y) (h1 : y ≤ z) (h2 : z ≤ l.length) :
    (execOp a.eval o).run P W = .ok (.value (.slice (subA A c y.toNat) ((l.take z.toNat).drop y.toNat).length (c - y.toNat))) W := by
  obtain ⟨i, hi, hsz⟩ := Option.map_eq_some_iff.1 hinfo
  have hlt : (l.take z.toNat).length = z.toNat := by rw [List.length_take]; omega
  have hl : ((l.take z.toNat).drop y.toNat).length = z.toNat - y.toNat := by rw [List.length_drop, hlt]
  have hel : P.elem t = e := by simp [Program.elem, ht]
  have hu : P.underlying t = some (.slice (P.elem t)) := by rw [hel]; exact ht
  have hr := run_slice_lh W t A l.length c hu kl kh y z h0 h1 (by omega)
  unfold execOp
  simp only [ho, Option.map_some, Option.map_none, hs, hlo, hhi, Instr.sliceAt, Sem.run_bind, Sem.run_pure, run_underlying hu, Result.andThen_ok, hr, hel, hl]
  simp [sizeOf, typeInfo, hi, hsz, sliced, Result.andThen, subA]
theorem run_drop {lo : Operand} (ho : o.op = .slice t s (some lo) none none) (hs : a.eval s = .slice A l.length c) (hlo : a.eval lo = .int kl y) (ht : P.underlying t = some (.slice e)) (hinfo : (P.info? e).map (·.size) = some 1) (hc : l.length ≤ c) (h0 : 0 ≤ y) (h1 : y ≤ l.length) :
    (execOp a.eval o).run P W = .ok (.value (.slice (subA A c y.toNat) (l.drop y.toNat).length (c - y.toNat))) W := by
  obtain ⟨i, hi, hsz⟩ := Option.map_eq_some_iff.1 hinfo
  have hl : (l.drop y.toNat).length = l.length - y.toNat := List.length_drop
  have hel : P.elem t = e := by simp [Program.elem, ht]
  have hu : P.underlying t = some (.slice (P.elem t)) := by rw [hel]; exact ht
  have hr := run_slice_l W t A l.length c hu kl y h0 (by omega)
  unfold execOp
  simp only [ho, Option.map_some, Option.map_none, hs, hlo, Instr.sliceAt, Sem.run_bind, Sem.run_pure, run_underlying hu, Result.andThen_ok, hr, hel, hl]
  simp [sizeOf, typeInfo, hi, hsz, sliced, Result.andThen, subA]
theorem run_take {hi : Operand} (ho : o.op = .slice t s none (some hi) none) (hs : a.eval s = .slice A l.length c) (hhi : a.eval hi = .int kh z) (ht : P.underlying t = some (.slice e)) (hinfo : (P.info? e).map (·.size) = some 1) (hc : l.length ≤ c) (h0 : 0 ≤ z) (h1 : z ≤ l.length) :
    (execOp a.eval o).run P W = .ok (.value (.slice A (l.take z.toNat).length c)) W := by
  obtain ⟨i, hi, hsz⟩ := Option.map_eq_some_iff.1 hinfo
  have hl : (l.take z.toNat).length = z.toNat := by rw [List.length_take]; omega
  have hel : P.elem t = e := by simp [Program.elem, ht]
  have hu : P.underlying t = some (.slice (P.elem t)) := by rw [hel]; exact ht
  have hr := run_slice_h W t A l.length c hu kh z h0 (by omega)
  have ha : (A.map fun x => x.add 0) = A := by cases A <;> simp [Addr.add]
  unfold execOp
  simp only [ho, Option.map_some, Option.map_none, hs, hhi, Instr.sliceAt, Sem.run_bind, Sem.run_pure, run_underlying hu, Result.andThen_ok, hr, hel, hl]
  simp [sizeOf, typeInfo, hi, hsz, sliced, Result.andThen, ha]
theorem run_idx (ho : o.op = .indexAddr t s x) (hs : a.eval s = .slice A l.length c) (hx : a.eval x = .int kl y) (ht : P.underlying t = some (.slice e)) (hinfo : (P.info? e).map (·.size) = some 1) (hC : (Kd.int k).C W A l.length l) (h0 : 0 ≤ y) (h1 : y < l.length) :
    (execOp a.eval o).run P W' = .ok (.value (.pointer (A.map (·.add y.toNat)))) W' := by
  obtain ⟨i, hi, hsz⟩ := Option.map_eq_some_iff.1 hinfo
  obtain ⟨ad, rfl, _⟩ := Kd.at_int hC y h0 h1
  have hel : P.elem t = e := by simp [Program.elem, ht]
  have hu : P.underlying t = some (.slice (P.elem t)) := by rw [hel]; exact ht
  unfold execOp
  simp only [ho, hs, hx, Sem.run_bind, Sem.run_pure, run_indexAt_slice (h := hu), if_pos (show 0 ≤ y ∧ y < (l.length : Int) from ⟨h0, h1⟩), hel]
  simp [sizeOf, typeInfo, hi, hsz, Result.andThen]
theorem run_elt (ho : o.op = .load ty p) (hp : a.eval p = .pointer (A.map (·.add y.toNat))) (h1 : IsOne P ty) (hC : (Kd.int k).C W A l.length l) (h0 : 0 ≤ y) (h2 : y < l.length) : (execOp a.eval o).run P W = .ok (.value (.int k (rd l y))) W := by
  obtain ⟨ad, rfl, hc⟩ := Kd.at_int hC y h0 h2
  have hl := run_agg_one (P := P) h1 W
  unfold execOp
  simp [ho, hp, Instr.loadAt, Instr.sureAddr, Sem.run_bind, loadVar, hl, hc]
/-- In a plain region, or one that draws: a read of an element. -/
theorem lelt {v : Value} (hN : o.dst = some N) (hw : Region.wanted o (yielded ops a.tmps) = true) (hv : (execOp a.eval o).run P W = .ok (.value v) W) (ha : a.put (some N) v = a') (h : GL P ops Q rest a' W) : GL P ops Q (o :: rest) a W := lpure hN hw hv ha h
theorem relt (F : Fr T w W L Ms) (j : Nat) {v : Value} (hi : ops[j]? = some oi) (hN : oi.dst = some N) (hw : Region.wanted oi (yielded ops a.tmps) = true) (hc : takeB md ops ds lb (lb.setIfInBounds j true) j = true) (hQ : ∀ c a w, Q (.panic c) (a.put oi.dst v) w → Q (.panic c) a w)
    (hv : ∀ W', Fr T w W' L Ms → (execOp a.eval oi).run P W' = .ok (.value v) W') (hp' : a.put (some N) v = a') (h : wpAnyLast P md ops Q (fun w' => Fr T w w' L Ms) ds fuel (lb.setIfInBounds j true) a' W) : wpAnyLast P md ops Q (fun w' => Fr T w w' L Ms) ds (fuel + 1) lb a W :=
  take_ _ hi hN hc hQ (.inl ⟨hw, fun W' F' => hv W' F'⟩) F hp' h
/-- A part of the blocks, a part of the worlds. -/
theorem Fr.part (F : Fr T w W LG MG) (hL : L.Sublist LG) (hM : ∀ M, M ∈ Ms → M ∈ MG) : Fr T w W L Ms :=
  ⟨F.below, fun b h => F.blk b (hL.subset h), F.nd.sublist hL, fun M h => F.mv M (hM M h)⟩
theorem Fr.erase (F : Fr T w W LG MG) (n : Nat) : Fr T w W (LG.eraseIdx n) MG := F.part (List.eraseIdx_sublist _ _) (fun _ h => h)
theorem Fr.region2 (F : Fr T w W LG MG) (FS : Fr T w W L Ms) {id n : Nat} (hm : P.follows .mixedOrders = true) (hn : ops.size = n)
    (h : ∀ W1, Fr T w W1 L Ms → Fr T w W1 LG MG → wpAnyLast P .any ops Q (fun w' => Fr T w w' L Ms) [] n (Array.replicate n false) a W1) : (Code.region id ops true).wp P Q a W :=
  start_ _ hm hn rfl FS.drew (fun h1 => h _ h1 F.drew)
theorem rone_ (j : Nat) (hi : ops[j]? = some oi) (hc : readyB md ops lb (lb.setIfInBounds j true) j = true) (hd : j ∉ ds) (hw : Region.wanted oi (yielded ops a.tmps) = true) {S : World → Prop}
    (h : ∀ K : Act → World → Prop, Shut (∀ a' w', S w' → (S w' → wpAnyLast P md ops Q S ds fuel (lb.setIfInBounds j true) a' w') → K a' w') → Oper.wp P oi a W K Q) : wpAnyLast P md ops Q S ds (fuel + 1) lb a W :=
  one_ _ hi rfl hc hd (fun K hK => by rw [if_pos hw]; exact h K hK)
theorem arm_alloc (F : Fr T w W LG MG) (FS : Fr T w W L Ms) (hN : oi.dst = some N) (hw : Region.wanted oi (yielded ops a.tmps) = true) (hrun : (execOp a.eval oi).run P W = .ok (.value (.pointer (some ⟨W.heap.size, 0, none⟩))) (W.alloc (.cells cs.toArray t (0, 0)))) (ht : t ∈ T)
    (h : ∀ g w1, Fr T w w1 L Ms → Fr T w w1 ((g, cs, t) :: LG) MG → wpAnyLast P md ops Q (fun w' => Fr T w w' L Ms) ds fuel lb (a.put (some N) (.pointer (some ⟨g, 0, none⟩))) w1) :
    ∀ K : Act → World → Prop, Shut (∀ a' w', Fr T w w' L Ms → (Fr T w w' L Ms → wpAnyLast P md ops Q (fun w' => Fr T w w' L Ms) ds fuel lb a' w') → K a' w') → if Region.wanted oi (yielded ops a.tmps) = true then Oper.wp P oi a W K Q else K (a.put (some N) undef) W := by
  intro K hK
  rw [if_pos hw]
  unfold Oper.wp
  rw [hrun]
  show K (a.put oi.dst _) _
  rw [hN]
  exact hK _ _ (FS.call (below_alloc (Below.refl _ _) _)) (fun F' => h _ _ F' (F.push ht))
theorem ralloc (F : Fr T w W LG MG) (FS : Fr T w W L Ms) (j : Nat) (hi : ops[j]? = some oi) (hN : oi.dst = some N) (hw : Region.wanted oi (yielded ops a.tmps) = true) (hc : readyB md ops lb (lb.setIfInBounds j true) j = true) (hd : j ∉ ds) (hrun : (execOp a.eval oi).run P W = .ok (.value (.pointer (some ⟨W.heap.size, 0, none⟩))) (W.alloc (.cells cs.toArray t (0, 0)))) (ht : t ∈ T)
    (h : ∀ g w1, Fr T w w1 L Ms → Fr T w w1 ((g, cs, t) :: LG) MG → wpAnyLast P md ops Q (fun w' => Fr T w w' L Ms) ds fuel (lb.setIfInBounds j true) (a.put (some N) (.pointer (some ⟨g, 0, none⟩))) w1) :
    wpAnyLast P md ops Q (fun w' => Fr T w w' L Ms) ds (fuel + 1) lb a W := one_ _ hi hN hc hd (arm_alloc F FS hN hw hrun ht h)
theorem rstore (F : Fr T w W LG MG) {u : Value} {seg : List Value} (j : Nat) (hi : ops[j]? = some oi) (ho : oi.op = .store ty p x) (hN : oi.dst = none) (hw : Region.wanted oi (yielded ops a.tmps) = true) (hc : readyB md ops lb (lb.setIfInBounds j true) j = true) (hd : j ∉ ds)
    (hp : a.eval p = .pointer (some ⟨g, i, none⟩)) (hx : a.eval x = u) (hu : u.cells.toList = seg) (ht : (P.info? ty).map (·.size) = some n) (hn : seg.length = n) (h1 : seg.all (·.oneCell') = true) (ha : At LG g cs t cs' LG') (hv : cs.take i ++ seg ++ cs.drop (i + n) = cs') (hl : i + n ≤ cs.length)
    (hS : ∀ w1, Fr T w w1 LG' MG → Fr T w w1 L Ms) (h : ∀ w1, Fr T w w1 L Ms → Fr T w w1 LG' MG → wpAnyLast P md ops Q (fun w' => Fr T w w' L Ms) ds fuel (lb.setIfInBounds j true) a w1) :
    wpAnyLast P md ops Q (fun w' => Fr T w w' L Ms) ds (fuel + 1) lb a W := by
  subst hn
  subst hv
  have hg := (F.blk _ ha.mem).1
  obtain ⟨a1, a2, a3, a4, a5, a6⟩ := setCells_heap (t := t) g seg i W cs hg hl
  refine rone_ j hi hc hd hw (fun K hK => ?_)
  have hrun : (Instr.storeAt ty (.pointer (some ⟨g, i, none⟩)) u).run P W = .ok () (W.setCells g i seg) := run_store_run ty u seg hg hu ht (by simpa using hl) (fun q hq => List.all_eq_true.1 h1 q hq)
  unfold Oper.wp execOp
  simp only [ho, hp, hx, Sem.run_bind, Sem.run_pure, Result.andThen_ok, hrun]
  show K (a.put oi.dst undef) _
  rw [hN]
  have FG := F.set ha a3 a4 a5 a6 a1 a2
  exact hK _ _ (hS _ FG) (fun F' => h _ F' FG)
theorem rstoreRow (F : Fr T w W LG MG) {seg : List Value} (j : Nat) (hi : ops[j]? = some oi) (ho : oi.op = .store ty p x) (hN : oi.dst = none) (hw : Region.wanted oi (yielded ops a.tmps) = true) (hc : readyB md ops lb (lb.setIfInBounds j true) j = true) (hd : j ∉ ds)
    (ht : IsRow P ty n) (hp : a.eval p = .pointer (some ⟨g, i, none⟩)) (hx : a.eval x = .agg seg.toArray) (hn : seg.length = n) (h1 : seg.all (·.oneCell') = true) (ha : At LG g cs t cs' LG') (hv : cs.take i ++ seg ++ cs.drop (i + n) = cs') (hl : i + n ≤ cs.length)
    (hS : ∀ w1, Fr T w w1 LG' MG → Fr T w w1 L Ms) (h : ∀ w1, Fr T w w1 L Ms → Fr T w w1 LG' MG → wpAnyLast P md ops Q (fun w' => Fr T w w' L Ms) ds fuel (lb.setIfInBounds j true) a w1) :
    wpAnyLast P md ops Q (fun w' => Fr T w w' L Ms) ds (fuel + 1) lb a W := rstore F j hi ho hN hw hc hd hp hx rfl ht.n hn h1 ha hv hl hS h
theorem rstoreOne (F : Fr T w W LG MG) {u : Value} (j : Nat) (hi : ops[j]? = some oi) (ho : oi.op = .store ty p x) (hN : oi.dst = none) (hw : Region.wanted oi (yielded ops a.tmps) = true) (hc : readyB md ops lb (lb.setIfInBounds j true) j = true) (hd : j ∉ ds)
    (ht : IsOne P ty) (hp : a.eval p = .pointer (some ⟨g, i, none⟩)) (hx : a.eval x = u) (hu : u.cells = #[u]) (h1 : u.oneCell' = true) (ha : At LG g cs t cs' LG') (hv : cs.set i u = cs') (hl : i < cs.length)
    (hS : ∀ w1, Fr T w w1 LG' MG → Fr T w w1 L Ms) (h : ∀ w1, Fr T w w1 L Ms → Fr T w w1 LG' MG → wpAnyLast P md ops Q (fun w' => Fr T w w' L Ms) ds fuel (lb.setIfInBounds j true) a w1) :
    wpAnyLast P md ops Q (fun w' => Fr T w w' L Ms) ds (fuel + 1) lb a W := by
  refine rstore F (seg := [u]) j hi ho hN hw hc hd hp hx (by rw [hu]) ht.n rfl (by simp [h1]) ha ?_ hl hS h
  rw [← hv, List.set_eq_take_append_cons_drop, if_pos hl]
  simp
/-! An empty literal, and an append onto it: one row, made between the literal's begin and the append's end -/
theorem Fr.lempty (F : Fr T w W L Ms) (hN : o.dst = some N) (hw : Region.wanted o (yielded ops a.tmps) = true)
    (hrun : (execOp a.eval o).run P W = .ok (.value (.slice (some ⟨W.heap.size, 0, none⟩) 0 0)) (W.alloc (.cells #[] e (0, 0))))
    (h : ∀ g w1, W.heap.size ≤ g → Below W.heap.size W w1 → w1.heap[g]? = some (.cells #[] e (0, 0)) → Fr T w w1 L Ms → GL P ops Q rest (a.put (some N) (.slice (some ⟨g, 0, none⟩) 0 0)) w1) : GL P ops Q (o :: rest) a W := by
  refine ⟨wpList_step fun K hK => lon hw ?_⟩
  unfold Oper.wp
  rw [hrun]
  show K (a.put o.dst _) _
  rw [hN]
  exact hK _ _ (h _ _ (Nat.le_refl _) (below_alloc (Below.refl _ _) _) (blk_new W _) (F.call (below_alloc (Below.refl _ _) _))).out
theorem rempty (FS : Fr T w W L Ms) (j : Nat) (hi : ops[j]? = some oi) (hN : oi.dst = some N) (hw : Region.wanted oi (yielded ops a.tmps) = true) (hc : readyB md ops lb (lb.setIfInBounds j true) j = true) (hd : j ∉ ds)
    (hrun : (execOp a.eval oi).run P W = .ok (.value (.slice (some ⟨W.heap.size, 0, none⟩) 0 0)) (W.alloc (.cells #[] e (0, 0))))
    (h : ∀ g w1, W.heap.size ≤ g → Below W.heap.size W w1 → w1.heap[g]? = some (.cells #[] e (0, 0)) → Fr T w w1 L Ms → wpAnyLast P md ops Q (fun w' => Fr T w w' L Ms) ds fuel (lb.setIfInBounds j true) (a.put (some N) (.slice (some ⟨g, 0, none⟩) 0 0)) w1) :
    wpAnyLast P md ops Q (fun w' => Fr T w w' L Ms) ds (fuel + 1) lb a W := by
  refine one_ _ hi hN hc hd (fun K hK => ?_)
  rw [if_pos hw]
  unfold Oper.wp
  rw [hrun]
  show K (a.put oi.dst _) _
  rw [hN]
  exact hK _ _ (FS.call (below_alloc (Below.refl _ _) _)) (fun F' => h _ _ (Nat.le_refl _) (below_alloc (Below.refl _ _) _) (blk_new W _) F')
theorem run_onto {bytes : Nat} {K : Act → World → Prop} {s x : Operand} {t e : TypeId} (hw : Region.wanted oi (yielded ops a.tmps) = true) (ho : oi.op = .call { callee := .builtin .append, args := #[s, x], argTypes := #[t, t] }) (hN : oi.dst = some N) (hu : P.underlying t = some (.slice e)) (hinfo : (P.info? e).map (fun i => (i.zero, i.size, i.bytes)) = some (some (Value.int k 0), 1, bytes)) (hb : 0 < bytes)
    (hs : a.eval s = .slice (some ⟨g, 0, none⟩) 0 0) (hx : a.eval x = .slice A l.length c) (hg0 : W0.heap.size ≤ g) (hg : W.heap[g]? = some (.cells #[] e (0, 0))) (hB : Below W0.heap.size W0 W) (hC : (Kd.int k).C W A l.length l) (hl : l.length * bytes ≤ 140737488355328)
    (h : ∀ v1 w1, (Kd.int k).R e w1 W0.heap.size (fun _ => True) v1 l → Below W0.heap.size W0 w1 → K (a.put (some N) v1) w1) : if Region.wanted oi (yielded ops a.tmps) = true then Oper.wp P oi a W K Q else K (a.put oi.dst undef) W := by
  rw [← hN] at h
  refine Kd.R_append_rows_step (Kd.int k) (w0 := W0) W0.heap.size hw s x t e (.int k 0) bytes ho hu hinfo rfl (show 0 < 1 by decide) hb _ [] l _ _ _ (fun _ => True) (fun _ => False) hs hx ?_ hC (fun _ _ h => h) (fun _ h => h.elim) (fun _ _ => trivial) hB hB.size (by simpa using hl) ?_
  · refine ⟨fun _ _ => trivial, [], ⟨rfl, .inr ⟨g, 0, _, rfl, hg0, hg, Nat.zero_le _, Nat.zero_le _, by simp [Kd.int, Kd.scalar], by simp⟩⟩, Reps.none _ _⟩
  · intro v1 w1 h1 h2 _ _
    rw [List.nil_append] at h1
    exact h v1 w1 h1 h2
theorem ronto {S : World → Prop} (j : Nat) (hi : ops[j]? = some oi) (hN : oi.dst = some N) (hc : readyB md ops lb (lb.setIfInBounds j true) j = true) (hd : j ∉ ds)
    (h : ∀ K : Act → World → Prop, Shut (∀ a' w', S w' → (S w' → wpAnyLast P md ops Q S ds fuel (lb.setIfInBounds j true) a' w') → K a' w') → if Region.wanted oi (yielded ops a.tmps) = true then Oper.wp P oi a W K Q else K (a.put oi.dst undef) W) : wpAnyLast P md ops Q S ds (fuel + 1) lb a W := by
  refine one_ _ hi hN hc hd ?_
  rw [hN] at h
  exact h
theorem Fr.row2 {α : Type} {d : Kd α} {e : Nat} {ok : Nat → Prop} {v : Value} {xs : List α} {w1 : World} (F : Fr T w W L Ms) (ho : d.R e w1 W.heap.size ok v xs) : Aside0 (d.R e w1 w.heap.size (fun k => ok k ∧ W.heap.size ≤ k ∧ k < w1.heap.size) v xs) :=
  ⟨Kd.R_lower (Kd.R_mono (Kd.R_bound ho) (fun _ hk => ⟨hk.1, hk.2.1, hk.2.2.1⟩)) F.below.size⟩
theorem Fr.rowS2 {α : Type} {d : Kd α} {e : Nat} {ok : Nat → Prop} {v : Value} {xs : List α} {w1 : World} (F : Fr T w W L Ms) (ho : Kd.S d e w1 W.heap.size ok v xs) : Aside0 (Kd.S d e w1 w.heap.size (fun k => ok k ∧ W.heap.size ≤ k ∧ k < w1.heap.size) v xs) :=
  ⟨Kd.S_lower (Kd.S_mono (Kd.S_bound ho) (fun _ hk => ⟨hk.1, hk.2.1, hk.2.2.1⟩)) F.below.size⟩
/-! An append onto a row of the call's own (no other row is told of any more) -/
theorem Fr.grown2 (F : Fr T w W L Ms) {row : Option Nat} {w1 : World} (hb : Below w.heap.size w w1) (hg : W.grownBy w1 row) (hr : ∀ k, row = some k → ∃ cs, W.heap[k]? = some (.cells cs e (0, 0))) (ht : e ∉ T) : Fr T w w1 L [w1] := by
  refine ⟨hb, fun b h => ⟨?_, (F.blk b h).2⟩, F.nd, fun M hM => ?_⟩
  · refine blk_grown (F.blk b h).1 hg (fun he => ?_)
    obtain ⟨cs, h2⟩ := hr _ he.symm
    have h1 := (F.blk b h).1
    rw [h1] at h2
    injection h2 with h2
    injection h2 with _ h2
    exact ht (h2 ▸ (F.blk b h).2.2)
  · obtain rfl := List.mem_singleton.1 hM
    exact .refl _ _
theorem R_typed {base : Nat} {ok : Nat → Prop} {v : Value} {xs : List Int} (h : (Kd.int k).R e W base ok v xs) : ∀ q, v.ownBlock = some q → ∃ cs, W.heap[q]? = some (.cells cs e (0, 0)) := fun q hk => by
  obtain ⟨_, _, _, z, hz, c, hc⟩ := (Kd.R_bound h).1 q hk
  have : z = e := by simpa [Kd.int, Kd.scalar] using hz
  subst this
  exact ⟨c, hc⟩
theorem empty_row {W1 : World} (F : Fr T w W L Ms) (hg0 : W.heap.size ≤ g) (hg : W1.heap[g]? = some (.cells #[] e (0, 0))) : Aside0 ((Kd.int k).R e W1 w.heap.size (fun _ => True) (.slice (some ⟨g, 0, none⟩) ([] : List Int).length 0) []) :=
  ⟨⟨fun _ _ => trivial, [], ⟨rfl, .inr ⟨g, 0, _, rfl, Nat.le_trans F.below.size hg0, hg, Nat.zero_le _, Nat.zero_le _, by simp [Kd.int, Kd.scalar], by simp⟩⟩, Reps.none _ _⟩⟩
theorem run_append {bytes : Nat} {K : Act → World → Prop} {s x : Operand} {t e : TypeId} {ok : Nat → Prop} {v : Value} {xs : List Int} (F : Fr T w W L Ms) (hw : Region.wanted oi (yielded ops a.tmps) = true) (ho : oi.op = .call { callee := .builtin .append, args := #[s, x], argTypes := #[t, t] }) (hN : oi.dst = some N) (hu : P.underlying t = some (.slice e)) (hinfo : (P.info? e).map (fun i => (i.zero, i.size, i.bytes)) = some (some (Value.int k 0), 1, bytes)) (hb : 0 < bytes)
    (hs : a.eval s = v) (hx : a.eval x = .slice A l.length c) (HO : (Kd.int k).R e W w.heap.size ok v xs) (ht : e ∉ T) (hC : (Kd.int k).C W A l.length l) (hl : (xs.length + l.length) * bytes ≤ 140737488355328)
    (h : ∀ v1 w1, (Kd.int k).R e w1 w.heap.size (fun _ => True) v1 (xs ++ l) → Fr T w w1 L [w1] → K (a.put (some N) v1) w1) : if Region.wanted oi (yielded ops a.tmps) = true then Oper.wp P oi a W K Q else K (a.put oi.dst undef) W := by
  rw [← hN] at h
  have hO := Kd.R_mono HO (fun _ _ => True.intro)
  refine Kd.R_append_rows_step (Kd.int k) (w0 := w) w.heap.size hw s x t e (.int k 0) bytes ho hu hinfo rfl (show 0 < 1 by decide) hb v xs l _ _ _ (fun _ => True) (fun _ => False) hs hx hO hC (fun _ _ h => h) (fun _ h => h.elim) (fun _ _ => trivial) F.below F.below.size (by simpa using hl) ?_
  intro v1 w1 h1 h2 h3 _
  exact h v1 w1 h1 (F.grown2 h2 h3 (R_typed HO) ht)
end
end Go.Proofs.YtljeajecajlaiaaDoor.Frame
