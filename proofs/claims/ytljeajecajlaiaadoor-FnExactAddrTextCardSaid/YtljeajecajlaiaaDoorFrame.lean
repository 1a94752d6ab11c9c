/- Blocks of the call's own, each with its cells, as one fact that every step of a walk carries on: a box, a load, a store, a call. No program in it, no condition. -/
import Derived.Test.YtljeajecajlaiaaDoorWWords
import Derived.Test.YtljeajecajlaiaaDoorWLast
import Derived.Test.YtljeajecajlaiaaDoorWTab
import Derived.Test.YtljeajecajlaiaaDoorWMore
import Derived.Deep.MidRow
namespace Go.Proofs.YtljeajecajlaiaaDoor.Frame
open Go.RowKit Go.Proofs.YtljeajecajlaiaaDoorW.PrintWords Go.Proofs.YtljeajecajlaiaaDoorW.PrintLast Go.Proofs.YtljeajecajlaiaaDoorW.PrintMore
theorem tmod_nat (n : Nat) (m : Int) : Int.tmod (n : Int) m = (n : Int) % m := Int.tmod_eq_emod_of_nonneg (Int.natCast_nonneg n)
/-- Between M and W: what was there stands, but for blocks of the types T. -/
structure Moved (T : List Nat) (M W : World) : Prop where
  size : M.heap.size ≤ W.heap.size
  blk : ∀ k, k < M.heap.size → W.heap[k]? = M.heap[k]? ∨ ∃ t, t ∈ T ∧ (∃ cs, M.heap[k]? = some (.cells cs t (0, 0))) ∧ ∃ cs, W.heap[k]? = some (.cells cs t (0, 0))
theorem Moved.refl (T : List Nat) (M : World) : Moved T M M := ⟨Nat.le_refl _, fun _ _ => .inl rfl⟩
theorem Moved.trans {T : List Nat} {a b c : World} (h : Moved T a b) (k : Moved T b c) : Moved T a c := by
  refine ⟨Nat.le_trans h.size k.size, fun i hi => ?_⟩
  rcases k.blk i (Nat.lt_of_lt_of_le hi h.size) with h2 | ⟨t, ht, ⟨cs, h2⟩, h3⟩
  · rcases h.blk i hi with h1 | ⟨t, ht, h4, ⟨cs, h5⟩⟩
    · exact .inl (h2.trans h1)
    · exact .inr ⟨t, ht, h4, cs, h2.trans h5⟩
  · rcases h.blk i hi with h1 | ⟨t', ht', h4, ⟨cs', h5⟩⟩
    · exact .inr ⟨t, ht, ⟨cs, h1 ▸ h2⟩, h3⟩
    · rw [h5] at h2
      injection h2 with h2
      injection h2 with _ h2
      subst h2
      exact .inr ⟨t', ht', h4, h3⟩
theorem Moved.below {T : List Nat} {a b : World} (h : Below a.heap.size a b) : Moved T a b := ⟨h.size, fun k hk => .inl (h.block k hk)⟩
theorem R_moved {α : Type} {d : Kd α} {e base : Nat} {ok : Nat → Prop} {v : Value} {xs : List α} {T : List Nat} {M W : World} (h : d.R e M base ok v xs) (hm : Moved T M W) (ht : ∀ q, q ∈ e :: d.E → q ∉ T) : d.R e W base ok v xs := by
  refine Kd.R_mono (Kd.R_move (Kd.R_bound h) (fun k hk => ?_)) (fun _ hk => hk.1)
  obtain ⟨_, _, hlt, q, hq, cells, hc⟩ := hk
  rcases hm.blk k hlt with h1 | ⟨t, htT, ⟨cs, h2⟩, _⟩
  · exact h1
  · rw [hc] at h2
    injection h2 with h2
    injection h2 with _ h2
    subst h2
    exact absurd htT (ht _ hq)
abbrev Blk := Nat × List Value × Nat
/-- The call began in w; now the world is W. L: blocks of the call's own (number, cells, type); T: their types. Ms: worlds that were met on the way. -/
structure Fr (T : List Nat) (w W : World) (L : List Blk) (Ms : List World) : Prop where
  below : Below w.heap.size w W
  blk : ∀ b, b ∈ L → W.heap[b.1]? = some (.cells b.2.1.toArray b.2.2 (0, 0)) ∧ w.heap.size ≤ b.1 ∧ b.2.2 ∈ T
  nd : L.Pairwise fun x y => x.1 ≠ y.1
  mv : ∀ M, M ∈ Ms → Moved T M W
inductive At : List Blk → Nat → List Value → Nat → List Value → List Blk → Prop
  | head {g : Nat} {cs : List Value} {t : Nat} {cs' : List Value} {L : List Blk} : At ((g, cs, t) :: L) g cs t cs' ((g, cs', t) :: L)
  | tail {b : Blk} {L L' : List Blk} {g : Nat} {cs : List Value} {t : Nat} {cs' : List Value} : At L g cs t cs' L' → At (b :: L) g cs t cs' (b :: L')
theorem At.mem {L L' : List Blk} {g t : Nat} {cs cs' : List Value} (h : At L g cs t cs' L') : (g, cs, t) ∈ L := by
  induction h with
  | head => exact List.mem_cons_self
  | tail _ ih => exact List.mem_cons_of_mem _ ih
theorem At.or {L L' : List Blk} {g t : Nat} {cs cs' : List Value} (h : At L g cs t cs' L') : ∀ b, b ∈ L' → b = (g, cs', t) ∨ b ∈ L := by
  induction h with
  | head => intro b hb; rcases List.mem_cons.1 hb with h | h; exact .inl h; exact .inr (List.mem_cons_of_mem _ h)
  | tail _ ih =>
    intro b hb
    rcases List.mem_cons.1 hb with h | h
    · exact .inr (h ▸ List.mem_cons_self)
    · rcases ih b h with h | h
      · exact .inl h
      · exact .inr (List.mem_cons_of_mem _ h)
theorem At.fst {L L' : List Blk} {g t : Nat} {cs cs' : List Value} (h : At L g cs t cs' L') : L'.map (·.1) = L.map (·.1) := by
  induction h with
  | head => rfl
  | tail _ ih => simp [ih]
theorem At.other {L L' : List Blk} {g t : Nat} {cs cs' : List Value} (h : At L g cs t cs' L') (hn : L.Pairwise fun x y => x.1 ≠ y.1) : ∀ b, b ∈ L' → b = (g, cs', t) ∨ (b ∈ L ∧ b.1 ≠ g) := by
  induction h with
  | head =>
    intro b hb
    rcases List.mem_cons.1 hb with h | h
    · exact .inl h
    · exact .inr ⟨List.mem_cons_of_mem _ h, fun e => (List.pairwise_cons.1 hn).1 b h e.symm⟩
  | tail ha ih =>
    intro b hb
    rcases List.mem_cons.1 hb with h | h
    · refine .inr ⟨h ▸ List.mem_cons_self, fun e => ?_⟩
      subst h
      exact (List.pairwise_cons.1 hn).1 _ ha.mem e
    · rcases ih (List.pairwise_cons.1 hn).2 b h with h | h
      · exact .inl h
      · exact .inr ⟨List.mem_cons_of_mem _ h.1, h.2⟩
theorem nd_of_fst {L L' : List Blk} (h : L'.map (·.1) = L.map (·.1)) (hn : L.Pairwise fun x y => x.1 ≠ y.1) : L'.Pairwise fun x y => x.1 ≠ y.1 := by
  have : (L'.map (·.1)).Pairwise (· ≠ ·) := h ▸ (List.pairwise_map.2 hn)
  exact List.pairwise_map.1 this
section
variable {T : List Nat} {w W w1 : World} {L L' : List Blk} {Ms : List World} {g t : Nat} {cs cs' : List Value}
theorem Fr.start (T : List Nat) (w : World) : Fr T w w [] [] := ⟨Below.refl _ _, fun _ h => (by cases h), .nil, fun _ h => (by cases h)⟩
theorem Fr.lt (F : Fr T w W L Ms) {b : Blk} (hb : b ∈ L) : b.1 < W.heap.size := blk_lt (F.blk b hb).1
theorem Fr.call (F : Fr T w W L Ms) (hb : Below W.heap.size W w1) : Fr T w w1 L Ms :=
  ⟨below_step F.below hb, fun b h => ⟨(hb.block _ (F.lt h)).trans (F.blk b h).1, (F.blk b h).2⟩, F.nd, fun M h => (F.mv M h).trans (.below hb)⟩
theorem Fr.mark (F : Fr T w W L Ms) : Fr T w W L (W :: Ms) := ⟨F.below, F.blk, F.nd, fun M h => by rcases List.mem_cons.1 h with rfl | h; exact .refl _ _; exact F.mv M h⟩
theorem Fr.drew (F : Fr T w W L Ms) : Fr T w W.drew L Ms := F.call (below_drew (Below.refl _ _))
theorem Fr.drewN (F : Fr T w W L Ms) (n : Nat) : Fr T w (W.drewN n) L Ms := F.call (pw_below_drewN (Below.refl _ _) n)
theorem Fr.drawn (F : Fr T w W L Ms) (h : Drawn0 W w1) : Fr T w w1 L Ms := F.call h.below
theorem Fr.push (F : Fr T w W L Ms) (ht : t ∈ T) : Fr T w (W.alloc (.cells cs.toArray t (0, 0))) ((W.heap.size, cs, t) :: L) Ms := by
  have hb : Below W.heap.size W (W.alloc (.cells cs.toArray t (0, 0))) := below_alloc (Below.refl _ _) _
  have F1 := F.call hb
  refine ⟨F1.below, fun b h => ?_, List.pairwise_cons.2 ⟨fun b h e => ?_, F.nd⟩, F1.mv⟩
  · rcases List.mem_cons.1 h with rfl | h
    · exact ⟨blk_new W _, F.below.size, ht⟩
    · exact F1.blk b h
  · have := F.lt h
    omega
theorem Fr.set (F : Fr T w W L Ms) (ha : At L g cs t cs' L') (hs : w1.heap.size = W.heap.size) (ho : w1.os = W.os) (hp : w1.tape = W.tape) (hu : w1.output = W.output)
    (hg : w1.heap[g]? = some (.cells cs'.toArray t (0, 0))) (hf : ∀ k, k ≠ g → w1.heap[k]? = W.heap[k]?) : Fr T w w1 L' Ms := by
  obtain ⟨b1, b2, b3⟩ := F.blk _ ha.mem
  refine ⟨⟨ho.trans F.below.os, hp.trans F.below.tape, hu.trans F.below.output, hs ▸ F.below.size, fun k hk => (hf k (by omega)).trans (F.below.block k hk)⟩, fun b h => ?_, nd_of_fst ha.fst F.nd, fun M h => (F.mv M h).trans ⟨Nat.le_of_eq hs.symm, fun k _ => ?_⟩⟩
  · rcases ha.other F.nd b h with rfl | ⟨h1, h2⟩
    · exact ⟨hg, b2, b3⟩
    · exact ⟨(hf _ h2).trans (F.blk b h1).1, (F.blk b h1).2⟩
  · by_cases e : k = g
    · subst e
      exact .inr ⟨t, b3, ⟨_, b1⟩, _, hg⟩
    · exact .inl (hf k e)
theorem Fr.get (F : Fr T w W L Ms) (ha : At L g cs t cs L) : W.heap[g]? = some (.cells cs.toArray t (0, 0)) := (F.blk _ ha.mem).1
theorem Fr.moved (F : Fr T w W L Ms) {M : World} (h : M ∈ Ms) : Moved T M W := F.mv M h
/-- A row that a call has made: its blocks lie between what was there and what is there now. -/
theorem Fr.row {α : Type} {d : Kd α} {e : Nat} {ok : Nat → Prop} {v : Value} {xs : List α} (F : Fr T w W L Ms) (ho : d.R e w1 W.heap.size ok v xs) : Aside0 (d.R e w1 w.heap.size (fun k => W.heap.size ≤ k ∧ k < w1.heap.size) v xs) :=
  ⟨Kd.R_lower (Kd.R_mono (Kd.R_bound ho) (fun _ hk => ⟨hk.2.1, hk.2.2.1⟩)) F.below.size⟩
theorem Fr.row_now {α : Type} {d : Kd α} {e : Nat} {ok : Nat → Prop} {v : Value} {xs : List α} {M : World} (F : Fr T w W L Ms) (ho : d.R e M w.heap.size ok v xs) (hM : M ∈ Ms) (ht : ∀ q, q ∈ e :: d.E → q ∉ T) : d.R e W w.heap.size ok v xs := R_moved ho (F.mv M hM) ht
theorem Fr.rowC {α : Type} {d : Kd α} {e c : Nat} {ok : Nat → Prop} {A : Option Addr} {xs : List α} {M : World} (F : Fr T w W L Ms) (ho : Aside0 (d.R e M w.heap.size ok (.slice A xs.length c) xs)) (hM : M ∈ Ms) (ht : ∀ q, q ∈ e :: d.E → q ∉ T) : d.C W A xs.length xs ∧ xs.length ≤ c := by
  obtain ⟨A', c', he, hl, hc⟩ := Kd.R_reads (F.row_now ho.out hM ht)
  injection he with h1 _ h3
  subst h1
  subst h3
  exact ⟨hc, hl⟩
theorem Fr.since {M : World} (F : Fr T w W L (M :: Ms)) : Aside0 (M.heap.size ≤ W.heap.size) := ⟨(F.mv M List.mem_cons_self).size⟩
end
/-- A type of n cells in a row, at (the program's) type t; a type of one cell. -/
structure IsRow (P : Program) (t n : Nat) : Prop where
  d : ∃ d, P.underlying t = some d ∧ d.isRow = true
  n : (P.info? t).map (·.size) = some n
structure IsOne (P : Program) (t : Nat) : Prop where
  d : ∃ d, P.underlying t = some d ∧ d.isRow = false
  n : (P.info? t).map (·.size) = some 1
theorem run_agg_one {P : Program} {t : Nat} (h : IsOne P t) (W : World) : (isAgg t).run P W = .ok false W := by
  obtain ⟨d, h1, h2⟩ := h.d
  unfold isAgg
  rw [Sem.run_bind, run_underlying h1 W]
  cases d <;> simp_all
section
variable {P : Program} {ops : Array Oper} {rest : List Oper} {o : Oper} {a : Act} {Q : Exit → Act → World → Prop}
variable {T : List Nat} {w W : World} {L L' : List Blk} {Ms : List World} {g i t : Nat} {cs cs' : List Value} {ty : Nat} {N : Tmp} {p x : Operand}
theorem Fr.box (F : Fr T w W L Ms) (_ho : o.op = .box ty x) (hgd : o.guard = none) (hd : o.dst = some N) (hrun : (execOp a.eval o).run P W = .ok (.value (.pointer (some ⟨W.heap.size, 0, none⟩))) (W.alloc (.cells cs.toArray t (0, 0)))) (ht : t ∈ T)
    (h : ∀ g w1, Fr T w w1 ((g, cs, t) :: L) Ms → wpList P ops Q rest (a.put (some N) (.pointer (some ⟨g, 0, none⟩))) w1) : wpList P ops Q (o :: rest) a W :=
  Kd.event_run hgd hrun (by rw [hd]; exact h _ _ (F.push ht))
theorem Fr.alloc (F : Fr T w W L Ms) (_ho : o.op = .alloc ty) (hgd : o.guard = none) (hd : o.dst = some N) (hrun : (execOp a.eval o).run P W = .ok (.value (.pointer (some ⟨W.heap.size, 0, none⟩))) (W.alloc (.cells cs.toArray t (0, 0)))) (ht : t ∈ T)
    (h : ∀ g w1, Fr T w w1 ((g, cs, t) :: L) Ms → wpList P ops Q rest (a.put (some N) (.pointer (some ⟨g, 0, none⟩))) w1) : wpList P ops Q (o :: rest) a W :=
  Kd.event_run hgd hrun (by rw [hd]; exact h _ _ (F.push ht))
theorem load_one {v : Value} (hgd : o.guard = none) (ho : o.op = .load ty p) (hd : o.dst = some N) (hp : a.eval p = .pointer (some ⟨g, i, none⟩)) (hc : W.cell? ⟨g, i, none⟩ = some v) (h1 : IsOne P ty)
    (h : wpList P ops Q rest (a.put (some N) v) W) : wpList P ops Q (o :: rest) a W := by
  refine Kd.event_run (v := v) hgd ?_ (by rw [hd]; exact h)
  have hl := run_agg_one (P := P) h1 W
  unfold execOp
  simp [ho, hp, Instr.loadAt, Instr.sureAddr, Sem.run_bind, loadVar, hl, hc]
theorem Fr.loadOne (F : Fr T w W L Ms) {v : Value} (ho : o.op = .load ty p) (hgd : o.guard = none) (hd : o.dst = some N) (h1 : IsOne P ty) (hp : a.eval p = .pointer (some ⟨g, i, none⟩)) (ha : At L g cs t cs L) (hv : cs[i]? = some v)
    (h : wpList P ops Q rest (a.put (some N) v) W) : wpList P ops Q (o :: rest) a W :=
  load_one hgd ho hd hp (by rw [blk_cell (F.get ha) i]; simpa using hv) h1 h
theorem Fr.loadRow (F : Fr T w W L Ms) {n : Nat} {seg : List Value} (ho : o.op = .load ty p) (hgd : o.guard = none) (hd : o.dst = some N) (h1 : IsRow P ty n) (hp : a.eval p = .pointer (some ⟨g, i, none⟩)) (ha : At L g cs t cs L)
    (hv : (cs.drop i).take n = seg) (hn : seg.length = n) (h : wpList P ops Q rest (a.put (some N) (.agg seg.toArray)) W) : wpList P ops Q (o :: rest) a W := by
  obtain ⟨d, hu, hr⟩ := h1.d
  refine wpList_load_mid hgd ty p ho g i hp seg d (fun j v hj => ?_) hu hr (by rw [hn]; exact h1.n) (by rw [hd]; exact h)
  rw [blk_cell (F.get ha)]
  subst hv
  rw [List.getElem?_take] at hj
  split at hj
  · rw [List.getElem?_drop] at hj
    simpa using hj
  · cases hj
theorem setCells_heap (g : Nat) : ∀ (seg : List Value) (i : Nat) (W : World) (cs : List Value), W.heap[g]? = some (.cells cs.toArray t (0, 0)) → i + seg.length ≤ cs.length →
    (W.setCells g i seg).heap[g]? = some (.cells (cs.take i ++ seg ++ cs.drop (i + seg.length)).toArray t (0, 0)) ∧ (∀ k, k ≠ g → (W.setCells g i seg).heap[k]? = W.heap[k]?) ∧ (W.setCells g i seg).heap.size = W.heap.size ∧ (W.setCells g i seg).os = W.os ∧ (W.setCells g i seg).tape = W.tape ∧ (W.setCells g i seg).output = W.output
  | [], i, W, cs, h, _ => by refine ⟨?_, fun _ _ => rfl, rfl, rfl, rfl, rfl⟩; show W.heap[g]? = _; rw [h]; simp
  | v :: seg, i, W, cs, h, hl => by
    have h1 := blk_set h i v
    simp only [List.length_cons] at hl
    have h2 : cs.toArray.setIfInBounds i v = (cs.set i v).toArray := by simp
    rw [h2] at h1
    obtain ⟨a1, a2, a3, a4, a5, a6⟩ := setCells_heap g seg (i + 1) (W.setCell ⟨g, i, none⟩ v) (cs.set i v) h1 (by simp; omega)
    have hb := Below.setCell (p := ⟨g, i, none⟩) (Below.refl 0 W) (Nat.zero_le _) v
    refine ⟨?_, fun k hk => (a2 k hk).trans (Below.heap_setCell W _ v k hk), a3.trans ?_, a4.trans hb.os, a5.trans hb.tape, a6.trans hb.output⟩
    · show ((W.setCell ⟨g, i, none⟩ v).setCells g (i + 1) seg).heap[g]? = _
      rw [a1]
      congr 3
      have hi : i < cs.length := by omega
      rw [List.take_set, List.drop_set_of_lt (by omega)]
      have e : (cs.take (i + 1)).set i v = cs.take i ++ [v] := by
        rw [List.take_succ_eq_append_getElem hi, List.set_append_right _ _ (by simp; omega)]
        simp
        rw [Nat.min_eq_left (by omega)]
        simp
      rw [e]
      simp [Nat.add_assoc, Nat.add_comm 1]
    · simp [World.setCell]
theorem Fr.store (F : Fr T w W L Ms) {u : Value} {n : Nat} (hgd : o.guard = none) (ho : o.op = .store ty p x) (hd : o.dst = none) (hp : a.eval p = .pointer (some ⟨g, i, none⟩)) (hx : a.eval x = u) {seg : List Value} (hu : u.cells.toList = seg) (ht : (P.info? ty).map (·.size) = some n) (hn : seg.length = n)
    (h1 : ∀ q, q ∈ seg → q.oneCell' = true) (ha : At L g cs t cs' L') (hv : cs.take i ++ seg ++ cs.drop (i + n) = cs') (hl : i + n ≤ cs.length) (h : ∀ w1, Fr T w w1 L' Ms → wpList P ops Q rest a w1) : wpList P ops Q (o :: rest) a W := by
  subst hn
  subst hv
  have hg := (F.blk _ ha.mem).1
  obtain ⟨a1, a2, a3, a4, a5, a6⟩ := setCells_heap (t := t) g seg i W cs hg hl
  refine wpList_plain hgd fun K hK => ?_
  have hrun : (Instr.storeAt ty (.pointer (some ⟨g, i, none⟩)) u).run P W = .ok () (W.setCells g i seg) := run_store_run ty u seg hg hu ht (by simpa using hl) h1
  unfold Oper.wp execOp
  simp only [ho, hp, hx, Sem.run_bind, Sem.run_pure, Result.andThen_ok, hrun]
  show K (a.put o.dst undef) _
  rw [hd]
  exact hK a _ (h _ (F.set ha a3 a4 a5 a6 a1 a2))
theorem Fr.storeOne (F : Fr T w W L Ms) {u : Value} (ho : o.op = .store ty p x) (hgd : o.guard = none) (hd : o.dst = none) (ht : IsOne P ty) (hp : a.eval p = .pointer (some ⟨g, i, none⟩)) (hx : a.eval x = u) (hu : u.cells = #[u])
    (h1 : u.oneCell' = true) (ha : At L g cs t cs' L') (hv : cs.set i u = cs') (hl : i < cs.length) (h : ∀ w1, Fr T w w1 L' Ms → wpList P ops Q rest a w1) : wpList P ops Q (o :: rest) a W := by
  refine F.store (seg := [u]) hgd ho hd hp hx (by rw [hu]) ht.n rfl (fun q hq => by rw [List.mem_singleton.1 hq]; exact h1) ha ?_ hl h
  rw [← hv, List.set_eq_take_append_cons_drop, if_pos hl]
  simp
theorem Fr.storeRow (F : Fr T w W L Ms) {seg : List Value} {n : Nat} (ho : o.op = .store ty p x) (hgd : o.guard = none) (hd : o.dst = none) (ht : IsRow P ty n) (hp : a.eval p = .pointer (some ⟨g, i, none⟩)) (hx : a.eval x = .agg seg.toArray) (hn : seg.length = n)
    (h1 : seg.all (·.oneCell') = true) (ha : At L g cs t cs' L') (hv : cs.take i ++ seg ++ cs.drop (i + n) = cs') (hl : i + n ≤ cs.length) (h : ∀ w1, Fr T w w1 L' Ms → wpList P ops Q rest a w1) : wpList P ops Q (o :: rest) a W :=
  F.store (seg := seg) hgd ho hd hp hx rfl ht.n hn (fun q hq => List.all_eq_true.1 h1 q hq) ha hv hl h
theorem none_ne {α : Type} {r : α} (h : (none : Option α) = some r) : False := nomatch h
theorem ft_ne (h : (some false : Option Bool) = some true) : False := nomatch h
theorem ite_ways {α : Type} {c : Prop} [Decidable c] {x y r : α} (h : (if c then x else y) = r) : (c ∧ x = r) ∨ (¬ c ∧ y = r) := by
  by_cases hc : c
  · exact .inl ⟨hc, by rwa [if_pos hc] at h⟩
  · exact .inr ⟨hc, by rwa [if_neg hc] at h⟩
/-! A region that draws its order -/
theorem gate_region {P : Program} {ops : Array Oper} {Q : Exit → Act → World → Prop} {a : Act} {W : World} {id : Nat} {b : Bool} (h : (Code.region id ops b).wp P Q a W) : (Code.region id ops b).wp P Q a W := h
/-- Only at the list of a plain region's operations: an arm that begins with it falls at once elsewhere. -/
theorem gate_list {P : Program} {ops : Array Oper} {rest : List Oper} {o : Oper} {a : Act} {Q : Exit → Act → World → Prop} {W : World} (h : wpList P ops Q (o :: rest) a W) : wpList P ops Q (o :: rest) a W := h
theorem gate_some {P : Program} {ops : Array Oper} {rest : List Oper} {o : Oper} {a : Act} {Q : Exit → Act → World → Prop} {W : World} {q : Tmp × Bool} (_hq : o.guard = some q) (hw : Region.wanted o (yielded ops a.tmps) = true) (h : wpList P ops Q ({ o with guard := none } :: rest) a W) : wpList P ops Q (o :: rest) a W := by
  have h1 : Region.wanted { o with guard := none } (yielded ops a.tmps) = true := rfl
  unfold wpList at h ⊢
  rw [if_pos h1] at h
  rw [if_pos hw]
  exact h
theorem gate_post {P : Program} {f : Func} {Q : Ending → World → Prop} {e : Exit} {a : Act} {W : World} (h : bodyPost P f Q e a W) : bodyPost P f Q e a W := h
section
variable {md : Region.Mode} {ds : List Nat} {l : Array Bool} {fuel : Nat} {a' : Act} {oi : Oper}
theorem Fr.region (F : Fr T w W L Ms) {id n : Nat} (hm : P.follows .mixedOrders = true) (hn : ops.size = n)
    (h : ∀ W1, Fr T w W1 L Ms → wpAnyLast P .any ops Q (fun w' => Fr T w w' L Ms) [] n (Array.replicate n false) a W1) : (Code.region id ops true).wp P Q a W :=
  start_ _ hm hn rfl F.drew (fun h1 => h _ h1)
theorem Fr.rpure (j : Nat) {v : Value} (hi : ops[j]? = some oi) (hN : oi.dst = some N) (hw : Region.wanted oi (yielded ops a.tmps) = true) (hc : anyB md ops l (l.setIfInBounds j true) j = true) (hQ : ∀ c a w, Q (.panic c) (a.put oi.dst v) w → Q (.panic c) a w)
    (hv : ∀ w, (execOp a.eval oi).run P w = .ok (.value v) w) (ha : a.put (some N) v = a') (h : wpAnyLast P md ops Q (fun w' => Fr T w w' L Ms) ds fuel (l.setIfInBounds j true) a' W) : wpAnyLast P md ops Q (fun w' => Fr T w w' L Ms) ds (fuel + 1) l a W :=
  pure_ _ hi hN hc hQ (.inl ⟨hw, hv⟩) ha h
theorem Fr.roff (j : Nat) (hi : ops[j]? = some oi) (hN : oi.dst = some N) (hw : Region.wanted oi (yielded ops a.tmps) = false) (hc : anyB md ops l (l.setIfInBounds j true) j = true) (hQ : ∀ c a w, Q (.panic c) (a.put oi.dst undef) w → Q (.panic c) a w)
    (ha : a.put (some N) undef = a') (h : wpAnyLast P md ops Q (fun w' => Fr T w w' L Ms) ds fuel (l.setIfInBounds j true) a' W) : wpAnyLast P md ops Q (fun w' => Fr T w w' L Ms) ds (fuel + 1) l a W :=
  pure_ _ hi hN hc hQ (.inr ⟨hw, rfl⟩) ha h
theorem Fr.rone (F : Fr T w W L Ms) (j : Nat) {v : Value} (hi : ops[j]? = some oi) (ho : oi.op = .load ty p) (hN : oi.dst = some N) (hw : Region.wanted oi (yielded ops a.tmps) = true) (hc : takeB md ops ds l (l.setIfInBounds j true) j = true) (hQ : ∀ c a w, Q (.panic c) (a.put oi.dst v) w → Q (.panic c) a w)
    (h1 : IsOne P ty) (hp : a.eval p = .pointer (some ⟨g, i, none⟩)) (ha : At L g cs t cs L) (hv : cs[i]? = some v) (hp' : a.put (some N) v = a') (h : wpAnyLast P md ops Q (fun w' => Fr T w w' L Ms) ds fuel (l.setIfInBounds j true) a' W) : wpAnyLast P md ops Q (fun w' => Fr T w w' L Ms) ds (fuel + 1) l a W := by
  refine take_ _ hi hN hc hQ (.inl ⟨hw, fun W' F' => ?_⟩) F hp' h
  have hl := run_agg_one (P := P) h1 W'
  have hcell : W'.cell? ⟨g, i, none⟩ = some v := by rw [blk_cell (F'.get ha) i]; simpa using hv
  unfold execOp
  simp [ho, hp, Instr.loadAt, Instr.sureAddr, Sem.run_bind, loadVar, hl, hcell]
theorem Fr.rrow (F : Fr T w W L Ms) (j : Nat) {n : Nat} {seg : List Value} (hi : ops[j]? = some oi) (ho : oi.op = .load ty p) (hN : oi.dst = some N) (hw : Region.wanted oi (yielded ops a.tmps) = true) (hc : takeB md ops ds l (l.setIfInBounds j true) j = true) (hQ : ∀ c a w, Q (.panic c) (a.put oi.dst (.agg seg.toArray)) w → Q (.panic c) a w)
    (h1 : IsRow P ty n) (hp : a.eval p = .pointer (some ⟨g, i, none⟩)) (ha : At L g cs t cs L) (hv : (cs.drop i).take n = seg) (hn : seg.length = n) (hp' : a.put (some N) (.agg seg.toArray) = a') (h : wpAnyLast P md ops Q (fun w' => Fr T w w' L Ms) ds fuel (l.setIfInBounds j true) a' W) : wpAnyLast P md ops Q (fun w' => Fr T w w' L Ms) ds (fuel + 1) l a W := by
  obtain ⟨d, hu, hr⟩ := h1.d
  refine take_ _ hi hN hc hQ (yieldsIf_load_mid hw ty p ho g i hp seg d (fun W' F' k v hk => ?_) hu hr (by rw [hn]; exact h1.n)) F hp' h
  rw [blk_cell (F'.get ha)]
  subst hv
  rw [List.getElem?_take] at hk
  split at hk
  · rw [List.getElem?_drop] at hk
    simpa using hk
  · cases hk
theorem rcall (j : Nat) {f : FuncId} {fn : Func} {as : Array Operand} {ts : Array TypeId} {args : Array Value} (hi : ops[j]? = some oi) (hop : oi.op = .call { callee := .value (.func f), args := as, argTypes := ts }) (hN : oi.dst = some N) (hw : Region.wanted oi (yielded ops a.tmps) = true) (hc : readyB md ops l (l.setIfInBounds j true) j = true) (hd : j ∉ ds)
    (hf : P.funcs[f]? = some fn) (hname : (fn.name == "runtime.NumGoroutine") = false) (hb : fn.body.isSome = true)
    (h : Calls P f args W fun e w' => ∃ v, e = .returned v ∧ Fr T w w' L Ms ∧ (Fr T w w' L Ms → wpAnyLast P md ops Q (fun w' => Fr T w w' L Ms) ds fuel (l.setIfInBounds j true) (a.put (some N) v) w')) (hargs : as.map a.eval = args) : wpAnyLast P md ops Q (fun w' => Fr T w w' L Ms) ds (fuel + 1) l a W :=
  one_ _ hi hN hc hd fun _ hK => goes_ hf hname hb args hw hN hop hargs (h.mono fun _ _ ⟨v, he, hF, hh⟩ => ⟨v, he, hK _ _ hF hh⟩)
end
end
end Go.Proofs.YtljeajecajlaiaaDoor.Frame
