/- Words on rows, blocks and regions that the contracts of this claim use. No program in them, no condition. -/
import Derived.Below
import Derived.Deep.Draws
import Derived.Deep.AppendLies
import Derived.Maps.AppendAt
import Derived.OwnWalk
import Derived.Laws.BytesArg
import Derived.Laws.MakeOwn
import Derived.Laws.OwnMore
import Derived.Deep.OwnRows
import Derived.Tactics
import Derived.Lib.ConvBytes
import Derived.Laws.Slices
import Derived.WalkKit
import Derived.KernelRfl
import Derived.RowKit3
import Derived.Deep.LoopGhost
import Derived.Deep.QuietTactic
import Derived.BigQuiet
import Derived.WideLaws
import Derived.Deep.DeepCutAuto
import Derived.Deep.CutBlock
import Derived.Deep.RegionHeld3
import Derived.Laws.Rows
import Derived.Lib.AppendStr
import Derived.ArgAppend
import Derived.Laws.IdiomCopy
import Derived.RowKit
import Derived.OrdersHeld
import Derived.Laws.BitsLemmas
import Derived.Deep.MidRow
import Derived.Laws.StructEq
import Derived.Maps.OwnOps
import Derived.Maps.Views
import Derived.SizedLaws
import Derived.ChangeSlices
set_option linter.unusedVariables false
set_option linter.unusedSimpArgs false
namespace Go.Proofs.YtffkgndghbdgnaaGreatW.PrintWords
open Go.RowKit
structure Aside0 (p : Prop) : Prop where mk :: (out : p)
structure Drawn0 (w w' : World) : Prop where mk :: (out : ∃ n, w' = w.drewN n)
theorem Drawn0.refl (w : World) : Drawn0 w w := ⟨⟨0, rfl⟩⟩
theorem Drawn0.step {w w' : World} (h : Drawn0 w w') (n : Nat) : Drawn0 w (w'.drewN n) := by
 obtain ⟨m, rfl⟩ := h
 exact ⟨⟨m + n, World.drewN_drewN ..⟩⟩
theorem Drawn0.grown {w w' : World} (h : Drawn0 w w') : Grown w w' := by
 obtain ⟨n, rfl⟩ := h
 induction n with
 | zero => exact Grown.refl _
 | succ n ih => rw [← World.drew_drewN]; exact Grown.drew ih
theorem Drawn0.below {w w' : World} (h : Drawn0 w w') : Below w.heap.size w w' := by
 obtain ⟨n, rfl⟩ := h
 induction n with
 | zero => exact Below.refl _ _
 | succ n ih => rw [← World.drew_drewN]; exact ih.drew
def rd (xs : List Int) (i : Int) : Int := xs.getD i.toNat 0
def bt (s : ByteArray) (i : Int) : Int := if h : i.toNat < s.size then ((s[i.toNat]'h).toNat : Int) else 0
theorem below_alloc {w W : World} (h : Below w.heap.size w W) (o : Obj) : Below w.heap.size w (W.alloc o) := h.alloc h.size o
theorem below_drew {B : Nat} {w W : World} (h : Below B w W) : Below B w W.drew := ⟨h.os, h.tape, h.output, h.size, h.block⟩
theorem pw_below_drewN {B : Nat} {w W : World} (h : Below B w W) (n : Nat) : Below B w (W.drewN n) := ⟨h.os, h.tape, h.output, h.size, h.block⟩
theorem below_then {B : Nat} {w w1 w2 : World} (h : Below B w w1) (hB : B ≤ w1.heap.size) (k : Below w1.heap.size w1 w2) : Below B w w2 :=
 h.trans ⟨k.os, k.tape, k.output, k.size, fun i hi => k.block i (Nat.lt_of_lt_of_le hi hB)⟩
theorem grown_of_below {w w1 : World} (h : Below w.heap.size w w1) (row : Option Nat) : w.grownBy w1 row := ⟨h.os, h.tape, h.output, h.size, fun i hi _ => h.block i hi⟩
theorem pw_cell_below {w w1 : World} (h : Below w.heap.size w w1) {a : Addr} {v : Value} (hc : w.cell? a = some v) : w1.cell? a = some v := (h.cell (World.block_lt_of_cell? w a hc)).trans hc
theorem add_plain (g j : Nat) : (⟨g, 0, none⟩ : Addr).add j = ⟨g, j, none⟩ := by unfold Addr.add; split <;> simp_all
def ReadsInt (w : World) (k : IntKind) (A : Option Addr) (n : Nat) (xs : List Int) : Prop :=
 xs.length = n ∧ n ≤ 9223372036854775807 ∧ (0 < n → ∃ ad, A = some ad ∧ ∀ j, j < n → w.cell? (ad.add j) = some (.int k (xs.getD j 0)))
theorem ReadsInt.at_ {w : World} {k : IntKind} {A : Option Addr} {n : Nat} {xs : List Int} (h : ReadsInt w k A n xs) (i : Int) (h0 : 0 ≤ i) (h1 : i < n) : ∃ ad, A = some ad ∧ w.cell? (ad.add i.toNat) = some (.int k (rd xs i)) := by
 obtain ⟨ad, e, hc⟩ := h.2.2 (by omega)
 exact ⟨ad, e, hc _ (by omega)⟩
theorem ReadsInt.below {w w1 : World} {k : IntKind} {A : Option Addr} {n : Nat} {xs : List Int} (h : ReadsInt w k A n xs) (hb : Below w.heap.size w w1) : ReadsInt w1 k A n xs :=
 ⟨h.1, h.2.1, fun hn => by
  obtain ⟨ad, e, hc⟩ := h.2.2 hn
  exact ⟨ad, e, fun j hj => pw_cell_below hb (hc j hj)⟩⟩
theorem own_nil (W : World) (base : Nat) (e : TypeId) (size : Nat) : W.ownsRow base e size (.slice none 0 0) 0 [] := ⟨by simp, .inl ⟨rfl, rfl⟩⟩
theorem own_base {w : World} {base : Nat} {e : TypeId} {size n : Nat} {v : Value} {xs : List Value} (h : w.ownsRow base e size v n xs) (k : Nat) (hk : v.ownBlock = some k) : base ≤ k := by
 rcases h.2 with ⟨rfl, _⟩ | ⟨g, cap, cur, rfl, hb, _⟩
 ·simp [Value.ownBlock] at hk
 ·have : g = k := by simpa [Value.ownBlock] using hk
  omega
theorem own_lt {w : World} {base : Nat} {e : TypeId} {size n : Nat} {v : Value} {xs : List Value} (h : w.ownsRow base e size v n xs) (k : Nat) (hk : v.ownBlock = some k) : k < w.heap.size := by
 rcases h.2 with ⟨rfl, _⟩ | ⟨g, cap, cur, rfl, hb, hh, _⟩
 ·simp [Value.ownBlock] at hk
 ·have : g = k := by simpa [Value.ownBlock] using hk
  subst this
  exact (Array.getElem?_eq_some_iff.1 hh).1
theorem pw_own_below {w w1 : World} {base : Nat} {e : TypeId} {size n : Nat} {v : Value} {xs : List Value} (h : w.ownsRow base e size v n xs) (hb : Below w.heap.size w w1) : w1.ownsRow base e size v n xs :=
 h.kept (grown_of_below hb none) (by cases v.ownBlock <;> simp)
theorem own_other {w w1 : World} {base : Nat} {e : TypeId} {size n : Nat} {v : Value} {xs : List Value} (h : w.ownsRow base e size v n xs) {row : Option Nat} (hg : w.grownBy w1 row) (hne : v.ownBlock = none ∨ v.ownBlock ≠ row) : w1.ownsRow base e size v n xs := h.kept hg hne
section
variable {P : Program} {ops : Array Oper} {rest : List Oper} {o : Oper} {a : Act} {Q : Exit → Act → World → Prop}
end
section
variable {P : Program}
end
section
variable {P : Program} {ops : Array Oper} {rest : List Oper} {o : Oper} {a : Act} {Q : Exit → Act → World → Prop}
end
theorem ReadsInt.take_ {w : World} {k : IntKind} {A : Option Addr} {n : Nat} {xs : List Int} (h : ReadsInt w k A n xs) (i : Nat) (hi : i ≤ n) : ReadsInt w k A i (xs.take i) := by
 refine ⟨by rw [List.length_take, h.1]; omega, by have := h.2.1; omega, fun hp => ?_⟩
 obtain ⟨ad, e, hc⟩ := h.2.2 (by omega)
 refine ⟨ad, e, fun j hj => ?_⟩
 rw [hc j (by omega)]
 simp [List.getD_eq_getElem?_getD, hj]
def LeO {α : Type} (a b : Option α) : Prop := ∀ r, a = some r → b = some r
theorem LeO.refl {α : Type} (a : Option α) : LeO a a := fun _ h => h
theorem LeO.none {α : Type} (b : Option α) : LeO Option.none b := fun _ h => by cases h
theorem LeO.trans {α : Type} {a b c : Option α} (h : LeO a b) (k : LeO b c) : LeO a c := fun r hr => k r (h r hr)
theorem LeO.bind {α β : Type} {a a' : Option α} {f f' : α → Option β} (h : LeO a a') (k : ∀ x, LeO (f x) (f' x)) : LeO (a.bind f) (a'.bind f') := by
 intro r hr
 obtain ⟨x, hx, hf⟩ := Option.bind_eq_some_iff.1 hr
 exact Option.bind_eq_some_iff.2 ⟨x, h x hx, k x r hf⟩
theorem LeO.map {α β : Type} {a a' : Option α} (f : α → β) (h : LeO a a') : LeO (a.map f) (a'.map f) := by
 intro r hr
 obtain ⟨x, hx, hf⟩ := Option.map_eq_some_iff.1 hr
 exact Option.map_eq_some_iff.2 ⟨x, h x hx, hf⟩
def Reps {α : Type} (R : α → List Value → Prop) (size : Nat) (ps : List α) (cs : List Value) : Prop :=
 cs.length = ps.length * size ∧ ∀ j p, ps[j]? = some p → R p ((cs.drop (j * size)).take size)
theorem Reps.none {α : Type} (R : α → List Value → Prop) (size : Nat) : Reps R size [] [] := ⟨by simp, fun j p h => by simp at h⟩
theorem Reps.snoc {α : Type} {R : α → List Value → Prop} {size : Nat} {ps : List α} {cs c : List Value} {p : α} (h : Reps R size ps cs) (hp : R p c) (hc : c.length = size) : Reps R size (ps ++ [p]) (cs ++ c) := by
 refine ⟨by rw [List.length_append, h.1, hc, List.length_append, List.length_singleton, Nat.add_mul, Nat.one_mul], fun j q hq => ?_⟩
 rcases Nat.lt_or_ge j ps.length with hj | hj
 ·rw [List.getElem?_append_left hj] at hq
  have h1 : j * size + size ≤ cs.length := by rw [h.1, ← Nat.succ_mul]; exact Nat.mul_le_mul_right _ hj
  have h2 := h.2 j q hq
  rw [List.drop_append_of_le_length (by omega), List.take_append_of_le_length (by rw [List.length_drop]; omega)]
  exact h2
 ·have hj' : j = ps.length := by
   have := (List.getElem?_eq_some_iff.1 hq).1
   rw [List.length_append, List.length_singleton] at this
   omega
  subst hj'
  have hq' : p = q := by simpa using hq
  subst hq'
  rw [← h.1, List.drop_left, ← hc, List.take_length]
  exact hp
theorem Reps.imp_ {α : Type} {R R' : α → List Value → Prop} {size : Nat} {ps : List α} {cs : List Value} (h : Reps R size ps cs) (hR : ∀ p c, R p c → R' p c) : Reps R' size ps cs := ⟨h.1, fun j p hj => hR _ _ (h.2 j p hj)⟩
def ReadsRow {α : Type} (R : α → List Value → Prop) (size : Nat) (w : World) (A : Option Addr) (n : Nat) (ps : List α) : Prop :=
 ps.length = n ∧ n ≤ 9223372036854775807 ∧ (0 < n → ∃ ad, A = some ad ∧ ∀ j p, ps[j]? = some p → ∃ c, c.length = size ∧ R p c ∧ ∀ i u, c[i]? = some u → w.cell? (ad.add (j * size + i)) = some u)
theorem ReadsRow.get_ {α : Type} {R : α → List Value → Prop} {size : Nat} {w : World} {A : Option Addr} {n : Nat} {ps : List α} (h : ReadsRow R size w A n ps) (d : α) (i : Int) (h0 : 0 ≤ i) (h1 : i < n) :
  ∃ ad c, A = some ad ∧ c.length = size ∧ R (ps.getD i.toNat d) c ∧ ∀ j u, c[j]? = some u → w.cell? (ad.add (i.toNat * size + j)) = some u := by
 obtain ⟨ad, e, hc⟩ := h.2.2 (by omega)
 have hl : i.toNat < ps.length := by have := h.1; omega
 obtain ⟨c, hs, hr, hcell⟩ := hc i.toNat _ (List.getElem?_eq_getElem hl)
 refine ⟨ad, c, e, hs, ?_, hcell⟩
 rw [List.getD_eq_getElem?_getD, List.getElem?_eq_getElem hl]
 exact hr
theorem ReadsRow.imp_ {α : Type} {R R' : α → List Value → Prop} {size : Nat} {w w1 : World} {A : Option Addr} {n : Nat} {ps : List α} (h : ReadsRow R size w A n ps) (hb : Below w.heap.size w w1) (hR : ∀ p c, R p c → R' p c) : ReadsRow R' size w1 A n ps :=
 ⟨h.1, h.2.1, fun hn => by
  obtain ⟨ad, e, hc⟩ := h.2.2 hn
  refine ⟨ad, e, fun j p hj => ?_⟩
  obtain ⟨c, hs, hr, hcell⟩ := hc j p hj
  exact ⟨c, hs, hR _ _ hr, fun i u hu => pw_cell_below hb (hcell i u hu)⟩⟩
theorem own_reads_row {α : Type} {R : α → List Value → Prop} {w : World} {base n size : Nat} {e : TypeId} {v : Value} {ps : List α} {cs : List Value} (h : w.ownsRow base e size v n cs) (hR : Reps R size ps cs) (hn : ps.length = n) :
  ∃ A c, v = .slice A n c ∧ ReadsRow R size w A n ps := by
 rcases Nat.eq_zero_or_pos n with h0 | h0
 ·rcases h.2 with ⟨rfl, rfl⟩ | ⟨g, cap, cur, rfl, _⟩
  ·exact ⟨none, 0, rfl, hn, by omega, fun hp => absurd hp (by omega)⟩
  ·exact ⟨_, cap, rfl, hn, by omega, fun hp => absurd hp (by omega)⟩
 ·obtain ⟨g, cap, rfl, _, _⟩ := h.form h0
  have hm : n ≤ 9223372036854775807 := by
   rcases h.2 with ⟨_, h1⟩ | ⟨g', cap', cur, he, _, _, h1, h2, _⟩
   ·omega
   ·simp only [maxLen] at h2
    omega
  refine ⟨_, cap, rfl, hn, hm, fun _ => ⟨_, rfl, fun j p hj => ⟨(cs.drop (j * size)).take size, ?_, hR.2 j p hj, fun i u hu => ?_⟩⟩⟩
  ·have hjl := (List.getElem?_eq_some_iff.1 hj).1
   have h1 : j * size + size ≤ cs.length := by rw [hR.1, ← Nat.succ_mul]; exact Nat.mul_le_mul_right _ hjl
   rw [List.length_take, List.length_drop]
   omega
  ·refine h.cells (g := g) rfl _ u ?_
   rw [List.getElem?_take] at hu
   split at hu
   ·rw [List.getElem?_drop] at hu
    exact hu
   ·cases hu
theorem add_field (ad : Addr) (m j : Nat) (hj : 0 < j) : ad.add (m + j) = ⟨(ad.add m).block, (ad.add m).off + j, none⟩ := by
 unfold Addr.add
 by_cases hm : m = 0
 ·subst hm
  simp [Nat.ne_of_gt hj]
 ·simp [hm, Nat.add_assoc]
section
variable {P : Program} {ops : Array Oper} {rest : List Oper} {o : Oper} {a : Act} {Q : Exit → Act → World → Prop}
theorem print_append_cells {w0 W : World} (base : Nat) (hgd : o.guard = none) (s x : Operand) (t e : TypeId) (z : Value) (size bytes : Nat)
  (ho : o.op = .call { callee := .builtin .append, args := #[s, x], argTypes := #[t, t] })
  (ht : P.underlying t = some (.slice e)) (hinfo : (P.info? e).map (fun i => (i.zero, i.size, i.bytes)) = some (some z, size, bytes)) (hz : z.cells.size = size) (hs0 : 0 < size) (hb0 : 0 < bytes)
  (v : Value) (n : Nat) (xs ys : List Value) (hs : a.eval s = v) (hx : a.eval x = .slice (some ⟨W.heap.size, 0, none⟩) 1 1) (hys : ys.length = size) (h1 : ∀ u ∈ ys, u.oneCell' = true)
  (HO : W.ownsRow base e size v n xs) (HB : Below base w0 W) (hbase : base ≤ W.heap.size) (hl : (n + 1) * bytes ≤ 140737488355328)
  (h : ∀ v1 w1, w1.ownsRow base e size v1 (n + 1) (xs ++ ys) → Below base w0 w1 → W.grownBy w1 v.ownBlock → (v1.ownBlock = v.ownBlock ∨ ∃ b, v1.ownBlock = some b ∧ W.heap.size ≤ b) → wpList P ops Q rest (a.put o.dst v1) w1) :
  wpList P ops Q (o :: rest) a (W.alloc (.cells ys.toArray e)) := by
 obtain ⟨i0, hi, hzz⟩ := Option.map_eq_some_iff.1 hinfo
 simp only [Prod.mk.injEq] at hzz
 obtain ⟨hz0, hz1, hz2⟩ := hzz
 have hlen : n + 1 ≤ 140737488355328 := Nat.le_trans (Nat.le_mul_of_pos_right _ hb0) hl
 refine wpList_append_own_at (W.alloc (.cells ys.toArray e)) hgd s x t ho base e i0 z size bytes ht hi hz0 hz1 hz2 hz hs0 v n xs hs (HO.alloc _) ⟨W.heap.size, 0, none⟩ 1 1 ys hx (by rw [hys]; simp)
  (by simpa using World.news_of_block (cs := ys.toArray) (t := e) (fr := (0, 0)) (heap_alloc_new W (.cells ys.toArray e))) h1 (by simp only [maxLen]; omega) hl (by simp; omega) ?_
 intro v1 w1 hown hg _ hat
 refine h v1 w1 hown ((HB.alloc hbase _).grown hg (by simp; omega) (own_base HO)) (World.grownBy.trans (World.grownBy_alloc W _ _) hg) ?_
 rcases hat with hat | hat
 ·exact .inl hat
 ·exact .inr ⟨_, hat, by simp⟩
end
theorem blk_set {w : World} {g : Nat} {t : TypeId} {cs : Array Value} (h : w.heap[g]? = some (.cells cs t (0, 0))) (i : Nat) (u : Value) : (w.setCell ⟨g, i, none⟩ u).heap[g]? = some (.cells (cs.setIfInBounds i u) t (0, 0)) := by
 simp [World.setCell, Array.getElem?_modify, h]
theorem blk_far {w : World} {g : Nat} {t : TypeId} {cs : Array Value} (h : w.heap[g]? = some (.cells cs t (0, 0))) {p : Addr} (hp : g ≠ p.block) (u : Value) : (w.setCell p u).heap[g]? = some (.cells cs t (0, 0)) := (Below.heap_setCell w p u g hp).trans h
theorem blk_lt {w : World} {g : Nat} {o : Obj} (h : w.heap[g]? = some o) : g < w.heap.size := (Array.getElem?_eq_some_iff.1 h).1
theorem blk_cell {w : World} {g : Nat} {t : TypeId} {cs : Array Value} (h : w.heap[g]? = some (.cells cs t (0, 0))) (i : Nat) : w.cell? ⟨g, i, none⟩ = cs[i]? := cell_of_row w g i cs t (0, 0) h
theorem blk_frozen {w : World} {g : Nat} {t : TypeId} {cs : Array Value} (h : w.heap[g]? = some (.cells cs t (0, 0))) (i : Nat) : w.frozen? ⟨g, i, none⟩ = false := by simp [World.frozen?, h]
theorem blk_grown {w w1 : World} {g : Nat} {o : Obj} {row : Option Nat} (h : w.heap[g]? = some o) (hg : w.grownBy w1 row) (hne : some g ≠ row) : w1.heap[g]? = some o := (hg.block g (blk_lt h) hne).trans h
def KeepBut (w w' : World) (g : Nat) (row : Option Nat) : Prop := w.heap.size ≤ w'.heap.size ∧ ∀ i, i < w.heap.size → i ≠ g → some i ≠ row → w'.heap[i]? = w.heap[i]?
theorem KeepBut.refl (w : World) (g : Nat) (row : Option Nat) : KeepBut w w g row := ⟨Nat.le_refl _, fun _ _ _ _ => rfl⟩
theorem KeepBut.of_below {w w1 : World} (h : Below w.heap.size w w1) (g : Nat) (row : Option Nat) : KeepBut w w1 g row := ⟨h.size, fun i hi _ _ => h.block i hi⟩
theorem KeepBut.trans {w w1 w2 : World} {g : Nat} {row row1 : Option Nat} (h : KeepBut w w1 g row) (k : KeepBut w1 w2 g row1) (hr : row1 = row ∨ ∃ b, row1 = some b ∧ w.heap.size ≤ b) : KeepBut w w2 g row :=
 ⟨Nat.le_trans h.1 k.1, fun i hi hg hn => by
  refine (k.2 i (Nat.lt_of_lt_of_le hi h.1) hg ?_).trans (h.2 i hi hg hn)
  rcases hr with rfl | ⟨b, rfl, hb⟩
  ·exact hn
  ·intro e
   injection e with e
   omega⟩
theorem KeepBut.blk {w w1 : World} {g g' : Nat} {row : Option Nat} {o : Obj} (h : KeepBut w w1 g row) (hb : w.heap[g']? = some o) (hg : g' ≠ g) (hr : some g' ≠ row) : w1.heap[g']? = some o := (h.2 g' (blk_lt hb) hg hr).trans hb
theorem KeepBut.own {w w1 : World} {g : Nat} {row : Option Nat} {base : Nat} {e : TypeId} {size n : Nat} {v : Value} {xs : List Value} (h : KeepBut w w1 g row) (ho : w.ownsRow base e size v n xs) (hg : v.ownBlock ≠ some g) (hr : v.ownBlock = none ∨ v.ownBlock ≠ row) : w1.ownsRow base e size v n xs := by
 obtain ⟨h1, h2⟩ := ho
 refine ⟨h1, ?_⟩
 rcases h2 with h2 | ⟨b, cap, cur, rfl, hb, hh, r⟩
 ·exact .inl h2
 ·refine .inr ⟨b, cap, cur, rfl, hb, h.blk hh ?_ ?_, r⟩
  ·intro e
   exact hg (by rw [← e]; rfl)
  ·rcases hr with hr | hr
   ·simp [Value.ownBlock] at hr
   ·exact hr
def Ev {α : Type} (g : Nat → Option α) (r : α) : Prop := ∃ K, ∀ k, K ≤ k → g k = some r
theorem Ev.bind {α β : Type} {g : Nat → Option α} {f : Nat → α → Option β} {a : α} {r : β} (h : Ev g a) (k : Ev (fun n => f n a) r) : Ev (fun n => (g n).bind (f n)) r := by
 obtain ⟨K, h⟩ := h
 obtain ⟨K', k⟩ := k
 refine ⟨max K K', fun n hn => ?_⟩
 have h1 := h n (by omega)
 have h2 := k n (by omega)
 simp only [h1, Option.bind_some]
 exact h2
theorem Ev.step {α : Type} {g f : Nat → Option α} {r : α} (h : ∀ k, g (k + 1) = f k) (k : Ev f r) : Ev g r := by
 obtain ⟨K, k⟩ := k
 refine ⟨K + 1, fun n hn => ?_⟩
 obtain ⟨m, rfl⟩ : ∃ m, n = m + 1 := ⟨n - 1, by omega⟩
 rw [h]
 exact k m (by omega)
theorem Ev.congr {α : Type} {g f : Nat → Option α} {r : α} (h : ∀ k, g k = f k) (k : Ev f r) : Ev g r := by
 obtain ⟨K, k⟩ := k
 exact ⟨K, fun n hn => (h n).trans (k n hn)⟩
section
variable {P : Program} {ops : Array Oper} {o : Oper} {a : Act} {Q : Exit → Act → World → Prop} {K : Act → World → Prop}
end
theorem own_weaken {w : World} {base base' : Nat} {e : TypeId} {size n : Nat} {v : Value} {xs : List Value} (h : w.ownsRow base e size v n xs) (hb : base' ≤ base) : w.ownsRow base' e size v n xs := by
 obtain ⟨h1, h2⟩ := h
 refine ⟨h1, ?_⟩
 rcases h2 with h2 | ⟨g, cap, cur, rfl, hg, r⟩
 ·exact .inl h2
 ·exact .inr ⟨g, cap, cur, rfl, Nat.le_trans hb hg, r⟩
section
variable {α : Type} {enc : α → Value} {d : α}
def encs (enc : α → Value) (xs : List α) : List Value := xs.map enc
def rdOf (d : α) (xs : List α) (i : Int) : α := xs.getD i.toNat d
theorem encs_length (xs : List α) : (encs enc xs).length = xs.length := by simp [encs]
theorem encs_get (xs : List α) (j : Nat) (h : j < xs.length) : (encs enc xs)[j]? = some (enc (xs.getD j d)) := by
 simp [encs, List.getElem?_eq_getElem h, List.getD_eq_getElem?_getD]
def ReadsOf (enc : α → Value) (d : α) (w : World) (A : Option Addr) (n : Nat) (xs : List α) : Prop :=
 xs.length = n ∧ n ≤ 9223372036854775807 ∧ (0 < n → ∃ ad, A = some ad ∧ ∀ j, j < n → w.cell? (ad.add j) = some (enc (xs.getD j d)))
theorem ReadsOf.at_ {w : World} {A : Option Addr} {n : Nat} {xs : List α} (h : ReadsOf enc d w A n xs) (i : Int) (h0 : 0 ≤ i) (h1 : i < n) : ∃ ad, A = some ad ∧ w.cell? (ad.add i.toNat) = some (enc (rdOf d xs i)) := by
 obtain ⟨ad, e, hc⟩ := h.2.2 (by omega)
 exact ⟨ad, e, hc _ (by omega)⟩
theorem ReadsOf.below {w w1 : World} {A : Option Addr} {n : Nat} {xs : List α} (h : ReadsOf enc d w A n xs) (hb : Below w.heap.size w w1) : ReadsOf enc d w1 A n xs :=
 ⟨h.1, h.2.1, fun hn => by
  obtain ⟨ad, e, hc⟩ := h.2.2 hn
  exact ⟨ad, e, fun j hj => pw_cell_below hb (hc j hj)⟩⟩
theorem ReadsOf.take_ {w : World} {A : Option Addr} {n : Nat} {xs : List α} (h : ReadsOf enc d w A n xs) (i : Nat) (hi : i ≤ n) : ReadsOf enc d w A i (xs.take i) := by
 refine ⟨by rw [List.length_take, h.1]; omega, by have := h.2.1; omega, fun hp => ?_⟩
 obtain ⟨ad, e, hc⟩ := h.2.2 (by omega)
 refine ⟨ad, e, fun j hj => ?_⟩
 rw [hc j (by omega)]
 simp [List.getD_eq_getElem?_getD, hj]
theorem own_at_of {W : World} {base g n cap : Nat} {e : TypeId} {xs : List α} (h : W.ownsRow base e 1 (.slice (some ⟨g, 0, none⟩) n cap) n (encs enc xs)) (i : Int) (h0 : 0 ≤ i) (h1 : i < n) :
  W.cell? ⟨g, i.toNat, none⟩ = some (enc (rdOf d xs i)) ∧ W.frozen? ⟨g, i.toNat, none⟩ = false := by
 have hl : xs.length = n := by have := h.1; simp [encs] at this; exact this
 constructor
 ·have hc := h.cells (g := g) rfl i.toNat _ (encs_get (d := d) xs i.toNat (by omega))
  rwa [add_plain] at hc
 ·rcases h.2 with ⟨h', _⟩ | ⟨g', cap', cur, h', _, hh, _⟩
  ·cases h'
  ·have : g = g' := by injection h' with h'; injection h' with h'; injection h' with h'
   subst this
   simp [World.frozen?, hh]
theorem own_store_of {W : World} {base g n cap : Nat} {e : TypeId} {xs : List α} (h : W.ownsRow base e 1 (.slice (some ⟨g, 0, none⟩) n cap) n (encs enc xs)) (i : Int) (x : α) :
  (W.setCell ⟨g, i.toNat, none⟩ (enc x)).ownsRow base e 1 (.slice (some ⟨g, 0, none⟩) n cap) n (encs enc (xs.set i.toNat x)) ∧ W.grownBy (W.setCell ⟨g, i.toNat, none⟩ (enc x)) (some g) := by
 have hs := h.stored i.toNat (enc x)
 have he : (encs enc xs).set i.toNat (enc x) = encs enc (xs.set i.toNat x) := by simp [encs, List.map_set]
 rwa [he] at hs
end
section
variable {α : Type} {P : Program} {ops : Array Oper} {rest : List Oper} {o : Oper} {a : Act} {Q : Exit → Act → World → Prop}
end
theorem blk_alloc {w : World} {g : Nat} {o : Obj} (h : w.heap[g]? = some o) (o' : Obj) : (w.alloc o').heap[g]? = some o := (Below.heap_alloc w o' g (blk_lt h)).trans h
theorem blk_drew {w : World} {g : Nat} {o : Obj} (h : w.heap[g]? = some o) : w.drew.heap[g]? = some o := h
theorem blk_drewN {w : World} {g : Nat} {o : Obj} (h : w.heap[g]? = some o) (n : Nat) : (w.drewN n).heap[g]? = some o := h
theorem blk_below {w w1 : World} {g : Nat} {o : Obj} (h : w.heap[g]? = some o) (hb : Below w.heap.size w w1) : w1.heap[g]? = some o := (hb.block g (blk_lt h)).trans h
theorem blk_new (w : World) (o : Obj) : (w.alloc o).heap[w.heap.size]? = some o := heap_alloc_new w o
section
variable {P : Program}
theorem results_ct {fn : Func} {p u : Tmp} {ty : TypeId} (h : fn.results = #[.cell p ty, .tmp u]) (tmps : Array Value) (w : World) (g : Nat) (t : TypeId) (cs : Array Value) (fr : Nat × Nat) (d : TypeDesc)
  (hp : tmps.getD p undef = .pointer (some ⟨g, 0, none⟩)) (hg : w.heap[g]? = some (.cells cs t fr))
  (hu : P.underlying ty = some d) (hd : (match d with | .struct _ | .array _ _ => true | _ => false) = true) (hi : (P.info? ty).map (·.size) = some cs.size) :
  (results fn tmps).run P w = .ok (.tuple #[.agg cs, tmps.getD u undef]) w := by
 have hp' : tmps[p]?.getD undef = .pointer (some ⟨g, 0, none⟩) := by simpa using hp
 simp [results, h, hp', asAddr, run_loadVar_row w g t ty cs fr d hg hu hd hi]
theorem results_cc {fn : Func} {p p' : Tmp} {ty ty' : TypeId} (h : fn.results = #[.cell p ty, .cell p' ty']) (tmps : Array Value) (w : World) (g g' : Nat) (t t' : TypeId) (cs cs' : Array Value) (fr fr' : Nat × Nat) (d d' : TypeDesc)
  (hp : tmps.getD p undef = .pointer (some ⟨g, 0, none⟩)) (hg : w.heap[g]? = some (.cells cs t fr))
  (hu : P.underlying ty = some d) (hd : (match d with | .struct _ | .array _ _ => true | _ => false) = true) (hi : (P.info? ty).map (·.size) = some cs.size)
  (hp' : tmps.getD p' undef = .pointer (some ⟨g', 0, none⟩)) (hg' : w.heap[g']? = some (.cells cs' t' fr'))
  (hu' : P.underlying ty' = some d') (hd' : (match d' with | .struct _ | .array _ _ => true | _ => false) = true) (hi' : (P.info? ty').map (·.size) = some cs'.size) :
  (results fn tmps).run P w = .ok (.tuple #[.agg cs, .agg cs']) w := by
 have h1 : tmps[p]?.getD undef = .pointer (some ⟨g, 0, none⟩) := by simpa using hp
 have h2 : tmps[p']?.getD undef = .pointer (some ⟨g', 0, none⟩) := by simpa using hp'
 simp [results, h, h1, h2, asAddr, run_loadVar_row w g t ty cs fr d hg hu hd hi, run_loadVar_row w g' t' ty' cs' fr' d' hg' hu' hd' hi']
end
theorem own_le {w : World} {base n m c size : Nat} {e : TypeId} {A : Option Addr} {xs : List Value} (h : w.ownsRow base e size (.slice A m c) n xs) : m ≤ c := by
 rcases h.2 with ⟨he, _⟩ | ⟨g, cap, cur, he, _, _, hnc, _⟩
 ·injection he with _ h2 h3
  omega
 ·injection he with _ h2 h3
  omega
def OwnRow {α : Type} (R : α → List Value → Prop) (e : TypeId) (size : Nat) (w : World) (base : Nat) (v : Value) (ps : List α) : Prop :=
 ∃ inner, w.ownsRow base e size v ps.length inner ∧ Reps R size ps inner
section
variable {α : Type} {R R' : α → List Value → Prop} {e : TypeId} {size : Nat} {w w1 : World} {base : Nat} {v : Value} {ps : List α}
theorem OwnRow.none_ (R : α → List Value → Prop) (e : TypeId) (size : Nat) (w : World) (base : Nat) : OwnRow R e size w base (.slice none 0 0) [] := ⟨[], own_nil _ _ _ _, Reps.none _ _⟩
theorem OwnRow.imp_ (h : OwnRow R e size w base v ps) (hR : ∀ p c, R p c → R' p c) : OwnRow R' e size w base v ps := by
 obtain ⟨inner, ho, hr⟩ := h
 exact ⟨inner, ho, hr.imp_ hR⟩
theorem OwnRow.below (h : OwnRow R e size w base v ps) (hb : Below w.heap.size w w1) : OwnRow R e size w1 base v ps := by
 obtain ⟨inner, ho, hr⟩ := h
 exact ⟨inner, pw_own_below ho hb, hr⟩
theorem OwnRow.other (h : OwnRow R e size w base v ps) {row : Option Nat} (hg : w.grownBy w1 row) (hne : v.ownBlock = none ∨ v.ownBlock ≠ row) : OwnRow R e size w1 base v ps := by
 obtain ⟨inner, ho, hr⟩ := h
 exact ⟨inner, own_other ho hg hne, hr⟩
theorem OwnRow.reads (h : OwnRow R e size w base v ps) : ∃ A c, v = .slice A ps.length c ∧ ps.length ≤ c ∧ ReadsRow R size w A ps.length ps := by
 obtain ⟨inner, ho, hr⟩ := h
 obtain ⟨A, c, rfl, hrow⟩ := own_reads_row ho hr rfl
 exact ⟨A, c, rfl, own_le ho, hrow⟩
theorem OwnRow.lit (W : World) (base : Nat) {inner : List Value} (hr : Reps R size ps inner) (hb : base ≤ W.heap.size) (hm : ps.length ≤ 9223372036854775807) :
  OwnRow R e size (W.alloc (.cells inner.toArray e)) base (.slice (some ⟨W.heap.size, 0, none⟩) ps.length ps.length) ps := by
 have h := World.ownsRow_lit (base := base) (e := e) (size := size) W inner.toArray ps.length hb (by simpa [maxLen] using hm) (by simpa using hr.1)
 exact ⟨inner, by simpa using h, hr⟩
end
section
variable {P : Program} {ops : Array Oper} {rest : List Oper} {o : Oper} {a : Act} {Q : Exit → Act → World → Prop} {α : Type} {R : α → List Value → Prop}
theorem OwnRow.append {w0 W : World} (base : Nat) (hgd : o.guard = none) (s x : Operand) (t e : TypeId) (z : Value) (size bytes : Nat)
  (ho : o.op = .call { callee := .builtin .append, args := #[s, x], argTypes := #[t, t] })
  (ht : P.underlying t = some (.slice e)) (hinfo : (P.info? e).map (fun i => (i.zero, i.size, i.bytes)) = some (some z, size, bytes)) (hz : z.cells.size = size) (hs0 : 0 < size) (hb0 : 0 < bytes)
  (v : Value) (ps : List α) (p : α) (cs : List Value) (hs : a.eval s = v) (hx : a.eval x = .slice (some ⟨W.heap.size, 0, none⟩) 1 1) (hp : R p cs) (hcs : cs.length = size) (h1 : ∀ u ∈ cs, u.oneCell' = true)
  (HO : OwnRow R e size W base v ps) (HB : Below base w0 W) (hbase : base ≤ W.heap.size) (hl : (ps.length + 1) * bytes ≤ 140737488355328)
  (h : ∀ v1 w1, OwnRow R e size w1 base v1 (ps ++ [p]) → Below base w0 w1 → W.grownBy w1 v.ownBlock → (v1.ownBlock = v.ownBlock ∨ ∃ b, v1.ownBlock = some b ∧ W.heap.size ≤ b) → wpList P ops Q rest (a.put o.dst v1) w1) :
  wpList P ops Q (o :: rest) a (W.alloc (.cells cs.toArray e)) := by
 obtain ⟨inner, hown, hr⟩ := HO
 refine print_append_cells base hgd s x t e z size bytes ho ht hinfo hz hs0 hb0 v ps.length inner cs hs hx hcs h1 hown HB hbase hl ?_
 intro v1 w1 hown1 hb1 hg1 hat1
 exact h v1 w1 ⟨inner ++ cs, by rw [List.length_append, List.length_singleton]; exact hown1, hr.snoc hp hcs⟩ hb1 hg1 hat1
end
section
variable {P : Program} {ops : Array Oper} {o : Oper} {a : Act} {Q : Exit → Act → World → Prop} {K : Act → World → Prop} {α : Type} {R : α → List Value → Prop}
end
theorem ReadsRow.inner_ {α : Type} {R : α → List Value → Prop} {size : Nat} {w : World} {ad : Addr} {n : Nat} {ps : List α} (h : ReadsRow R size w (some ad) n ps) :
  ∃ inner, Reps R size ps inner ∧ ∀ j u, inner[j]? = some u → w.cell? (ad.add j) = some u := by
 have key : ∀ m, m ≤ ps.length → ∃ inner, Reps R size (ps.take m) inner ∧ ∀ j u, inner[j]? = some u → w.cell? (ad.add j) = some u := by
  intro m
  induction m with
  | zero => exact fun _ => ⟨[], Reps.none _ _, fun j u hu => by simp at hu⟩
  | succ m ih =>
   intro hm
   obtain ⟨inner, hr, hc⟩ := ih (by omega)
   obtain ⟨ad', he, hcell⟩ := h.2.2 (by have := h.1; omega)
   injection he with he
   subst he
   obtain ⟨c, hcl, hp, hcc⟩ := hcell m _ (List.getElem?_eq_getElem (show m < ps.length by omega))
   refine ⟨inner ++ c, ?_, fun j u hu => ?_⟩
   ·rw [List.take_succ_eq_append_getElem (show m < ps.length by omega)]
    exact hr.snoc hp hcl
   ·have hil : inner.length = m * size := by rw [hr.1, List.length_take, Nat.min_eq_left (by omega)]
    rcases Nat.lt_or_ge j inner.length with hj | hj
    ·rw [List.getElem?_append_left hj] at hu
     exact hc j u hu
    ·rw [List.getElem?_append_right hj] at hu
     have := hcc (j - inner.length) u hu
     rwa [hil, Nat.add_sub_cancel' (by omega)] at this
 obtain ⟨inner, hr, hc⟩ := key ps.length (Nat.le_refl _)
 rw [List.take_length] at hr
 exact ⟨inner, hr, hc⟩
section
variable {α : Type} {P : Program}
end
section
variable {P : Program} {ops : Array Oper} {rest : List Oper} {o : Oper} {a : Act} {Q : Exit → Act → World → Prop}
end
structure Kd (α : Type) where
 sz : Nat
 E : List Nat
 K : World → α → List Value → Prop
 M : World → Nat → (Nat → Prop) → α → List Value → Prop
 K_len : ∀ {w x cs}, K w x cs → cs.length = sz
 K_one : ∀ {w x cs}, K w x cs → ∀ u ∈ cs, u.oneCell' = true
 K_below : ∀ {w w1 : World} {x cs}, Below w.heap.size w w1 → K w x cs → K w1 x cs
 K_of_M : ∀ {w base ok x cs}, M w base ok x cs → K w x cs
 M_mono : ∀ {w base ok ok' x cs}, (∀ k, ok k → ok' k) → M w base ok x cs → M w base ok' x cs
 M_bound : ∀ {w : World} {base ok x cs}, M w base ok x cs → M w base (fun k => ok k ∧ base ≤ k ∧ k < w.heap.size ∧ ∃ q, q ∈ E ∧ ∃ cells, w.heap[k]? = some (.cells cells q (0, 0))) x cs
 M_move : ∀ {w w1 : World} {base ok x cs}, (∀ k, ok k → w1.heap[k]? = w.heap[k]?) → M w base ok x cs → M w1 base ok x cs
 M_lower : ∀ {w base base' ok x cs}, base' ≤ base → M w base ok x cs → M w base' ok x cs
theorem own_move {w w1 : World} {base : Nat} {e : TypeId} {size n : Nat} {v : Value} {xs : List Value} (h : w.ownsRow base e size v n xs) (hm : ∀ k, v.ownBlock = some k → w1.heap[k]? = w.heap[k]?) : w1.ownsRow base e size v n xs := by
 obtain ⟨h1, h2⟩ := h
 refine ⟨h1, ?_⟩
 rcases h2 with h2 | ⟨g, cap, cur, rfl, hg, hh, r⟩
 ·exact .inl h2
 ·exact .inr ⟨g, cap, cur, rfl, hg, (hm g (by simp [Value.ownBlock])).trans hh, r⟩
theorem own_typed {w : World} {base : Nat} {e : TypeId} {size n : Nat} {v : Value} {xs : List Value} (h : w.ownsRow base e size v n xs) (k : Nat) (hk : v.ownBlock = some k) : ∃ cells, w.heap[k]? = some (.cells cells e (0, 0)) := by
 rcases h.2 with ⟨rfl, _⟩ | ⟨g, cap, cur, rfl, hg, hh, r⟩
 ·simp [Value.ownBlock] at hk
 ·have : g = k := by simpa [Value.ownBlock] using hk
  subst this
  exact ⟨cur, hh⟩
namespace Kd
def C {α : Type} (d : Kd α) (w : World) (A : Option Addr) (n : Nat) (xs : List α) : Prop := ReadsRow (d.K w) d.sz w A n xs
def R {α : Type} (d : Kd α) (e : Nat) (w : World) (base : Nat) (ok : Nat → Prop) (v : Value) (xs : List α) : Prop :=
 (∀ k, v.ownBlock = some k → ok k) ∧ OwnRow (d.M w base (fun k => ok k ∧ some k ≠ v.ownBlock)) e d.sz w base v xs
section
variable {α : Type} {d : Kd α} {e : Nat} {w w1 : World} {base : Nat} {ok ok' : Nat → Prop} {v : Value} {xs : List α}
theorem C_below {A : Option Addr} {n : Nat} (h : d.C w A n xs) (hb : Below w.heap.size w w1) : d.C w1 A n xs := ReadsRow.imp_ h hb (fun _ _ hp => d.K_below hb hp)
theorem R_nil (d : Kd α) (e : Nat) (w : World) (base : Nat) (ok : Nat → Prop) : d.R e w base ok (.slice none 0 0) [] := ⟨fun k hk => by simp [Value.ownBlock] at hk, OwnRow.none_ _ _ _ _ _⟩
theorem R_mono (h : d.R e w base ok v xs) (hok : ∀ k, ok k → ok' k) : d.R e w base ok' v xs := ⟨fun k hk => hok k (h.1 k hk), h.2.imp_ (fun _ _ hp => d.M_mono (fun k hk => ⟨hok k hk.1, hk.2⟩) hp)⟩
theorem R_bound (h : d.R e w base ok v xs) : d.R e w base (fun k => ok k ∧ base ≤ k ∧ k < w.heap.size ∧ ∃ q, q ∈ e :: d.E ∧ ∃ cells, w.heap[k]? = some (.cells cells q (0, 0))) v xs := by
 obtain ⟨h0, inner, ho, hr⟩ := h
 refine ⟨fun k hk => ?_, inner, ho, hr.imp_ (fun _ _ hp => d.M_mono (fun k hk => ?_) (d.M_bound hp))⟩
 ·obtain ⟨cells, hc⟩ := own_typed ho k hk
  exact ⟨h0 k hk, own_base ho k hk, own_lt ho k hk, e, List.mem_cons_self, cells, hc⟩
 ·obtain ⟨⟨h1, h2⟩, h3, h4, q, hq, hc⟩ := hk
  exact ⟨⟨h1, h3, h4, q, List.mem_cons_of_mem _ hq, hc⟩, h2⟩
theorem R_move (h : d.R e w base ok v xs) (hm : ∀ k, ok k → w1.heap[k]? = w.heap[k]?) : d.R e w1 base ok v xs := by
 obtain ⟨h0, inner, ho, hr⟩ := h
 exact ⟨h0, inner, own_move ho (fun k hk => hm k (h0 k hk)), hr.imp_ (fun _ _ hp => d.M_move (fun k hk => hm k hk.1) hp)⟩
theorem R_lower {base' : Nat} (h : d.R e w base ok v xs) (hb : base' ≤ base) : d.R e w base' ok v xs := by
 obtain ⟨h0, inner, ho, hr⟩ := h
 exact ⟨h0, inner, own_weaken ho hb, hr.imp_ (fun _ _ hp => d.M_lower hb hp)⟩
theorem R_step (h : d.R e w base ok v xs) (hm : ∀ k, ok k → k < w.heap.size → w1.heap[k]? = w.heap[k]?) : d.R e w1 base ok v xs :=
 R_mono (R_move (R_bound h) (fun k hk => hm k hk.1 hk.2.2.1)) (fun _ hk => hk.1)
theorem M_step {x : α} {cs : List Value} (h : d.M w base ok x cs) (hm : ∀ k, ok k → k < w.heap.size → w1.heap[k]? = w.heap[k]?) : d.M w1 base ok x cs :=
 d.M_mono (fun _ hk => hk.1) (d.M_move (fun k hk => hm k hk.1 hk.2.2.1) (d.M_bound h))
theorem R_below (h : d.R e w base ok v xs) (hb : Below w.heap.size w w1) : d.R e w1 base ok v xs := R_step h (fun k _ hk => hb.block k hk)
theorem M_below {x : α} {cs : List Value} (h : d.M w base ok x cs) (hb : Below w.heap.size w w1) : d.M w1 base ok x cs := M_step h (fun k _ hk => hb.block k hk)
theorem R_reads (h : d.R e w base ok v xs) : ∃ A c, v = .slice A xs.length c ∧ xs.length ≤ c ∧ d.C w A xs.length xs := by
 obtain ⟨A, c, he, hl, hr⟩ := OwnRow.reads h.2
 exact ⟨A, c, he, hl, hr.imp_ (Below.refl _ _) (fun _ _ hp => d.K_of_M hp)⟩
theorem R_slice (h : d.R e w base ok v xs) : ∃ A c, v = .slice A xs.length c := by
 obtain ⟨A, c, he, _⟩ := R_reads h
 exact ⟨A, c, he⟩
theorem R_own (h : d.R e w base ok v xs) : ∃ inner, w.ownsRow base e d.sz v xs.length inner := by
 obtain ⟨_, inner, ho, _⟩ := h
 exact ⟨inner, ho⟩
end
def scalar {α : Type} (enc : α → Value) (h1 : ∀ x, (enc x).oneCell' = true) : Kd α where
 sz := 1
 E := []
 K := fun _ x cs => cs = [enc x]
 M := fun _ _ _ x cs => cs = [enc x]
 K_len := fun h => by rw [h]; rfl
 K_one := fun h u hu => by
  rw [h] at hu
  rw [List.mem_singleton.1 hu]
  exact h1 _
 K_below := fun _ h => h
 K_of_M := fun h => h
 M_mono := fun _ h => h
 M_bound := fun h => h
 M_move := fun _ h => h
 M_lower := fun _ h => h
def int (k : IntKind) : Kd Int := scalar (Value.int k) (fun _ => rfl)
def bool : Kd Bool := scalar Value.bool (fun _ => rfl)
def slice {α : Type} (e : Nat) (d : Kd α) : Kd (List α) where
 sz := 1
 E := e :: d.E
 K := fun w xs cs => ∃ A c, cs = [.slice A xs.length c] ∧ xs.length ≤ c ∧ d.C w A xs.length xs
 M := fun w base ok xs cs => ∃ v, cs = [v] ∧ d.R e w base ok v xs
 K_len := by
  rintro w x cs ⟨A, c, rfl, _⟩
  rfl
 K_one := by
  rintro w x cs ⟨A, c, rfl, _⟩ u hu
  rw [List.mem_singleton.1 hu]
  rfl
 K_below := by
  rintro w w1 x cs hb ⟨A, c, rfl, hl, hr⟩
  exact ⟨A, c, rfl, hl, C_below hr hb⟩
 K_of_M := by
  rintro w base ok x cs ⟨v, rfl, h⟩
  obtain ⟨A, c, rfl, hl, hr⟩ := R_reads h
  exact ⟨A, c, rfl, hl, hr⟩
 M_mono := by
  rintro w base ok ok' x cs hok ⟨v, rfl, h⟩
  exact ⟨v, rfl, R_mono h hok⟩
 M_bound := by
  rintro w base ok x cs ⟨v, rfl, h⟩
  exact ⟨v, rfl, R_bound h⟩
 M_move := by
  rintro w w1 base ok x cs hm ⟨v, rfl, h⟩
  exact ⟨v, rfl, R_move h hm⟩
 M_lower := by
  rintro w base base' ok x cs hb ⟨v, rfl, h⟩
  exact ⟨v, rfl, R_lower h hb⟩
def pair {α β : Type} (a : Kd α) (b : Kd β) : Kd (α × β) where
 sz := a.sz + b.sz
 E := a.E ++ b.E
 K := fun w x cs => ∃ c0 c1, cs = c0 ++ c1 ∧ a.K w x.1 c0 ∧ b.K w x.2 c1
 M := fun w base ok x cs => ∃ c0 c1, cs = c0 ++ c1 ∧ a.M w base ok x.1 c0 ∧ b.M w base ok x.2 c1
 K_len := by
  rintro w x cs ⟨c0, c1, rfl, h0, h1⟩
  rw [List.length_append, a.K_len h0, b.K_len h1]
 K_one := by
  rintro w x cs ⟨c0, c1, rfl, h0, h1⟩ u hu
  rcases List.mem_append.1 hu with hu | hu
  ·exact a.K_one h0 u hu
  ·exact b.K_one h1 u hu
 K_below := by
  rintro w w1 x cs hb ⟨c0, c1, rfl, h0, h1⟩
  exact ⟨c0, c1, rfl, a.K_below hb h0, b.K_below hb h1⟩
 K_of_M := by
  rintro w base ok x cs ⟨c0, c1, rfl, h0, h1⟩
  exact ⟨c0, c1, rfl, a.K_of_M h0, b.K_of_M h1⟩
 M_mono := by
  rintro w base ok ok' x cs hok ⟨c0, c1, rfl, h0, h1⟩
  exact ⟨c0, c1, rfl, a.M_mono hok h0, b.M_mono hok h1⟩
 M_bound := by
  rintro w base ok x cs ⟨c0, c1, rfl, h0, h1⟩
  refine ⟨c0, c1, rfl, a.M_mono ?_ (a.M_bound h0), b.M_mono ?_ (b.M_bound h1)⟩
  ·rintro k ⟨h2, h3, h4, q, hq, hc⟩
   exact ⟨h2, h3, h4, q, List.mem_append_left _ hq, hc⟩
  ·rintro k ⟨h2, h3, h4, q, hq, hc⟩
   exact ⟨h2, h3, h4, q, List.mem_append_right _ hq, hc⟩
 M_move := by
  rintro w w1 base ok x cs hm ⟨c0, c1, rfl, h0, h1⟩
  exact ⟨c0, c1, rfl, a.M_move hm h0, b.M_move hm h1⟩
 M_lower := by
  rintro w base base' ok x cs hb ⟨c0, c1, rfl, h0, h1⟩
  exact ⟨c0, c1, rfl, a.M_lower hb h0, b.M_lower hb h1⟩
def iso {α β : Type} (d : Kd α) (f : β → α) : Kd β where
 sz := d.sz
 E := d.E
 K := fun w x cs => d.K w (f x) cs
 M := fun w base ok x cs => d.M w base ok (f x) cs
 K_len := d.K_len
 K_one := d.K_one
 K_below := d.K_below
 K_of_M := d.K_of_M
 M_mono := d.M_mono
 M_bound := d.M_bound
 M_move := d.M_move
 M_lower := d.M_lower
def bot {α : Type} (sz : Nat) (E : List Nat) : Kd α where
 sz := sz
 E := E
 K := fun _ _ _ => False
 M := fun _ _ _ _ _ => False
 K_len := fun h => h.elim
 K_one := fun h => h.elim
 K_below := fun _ h => h
 K_of_M := fun h => h
 M_mono := fun _ h => h
 M_bound := fun h => h
 M_move := fun _ h => h
 M_lower := fun _ h => h
def upto {α : Type} (F : Kd α → Kd α) (sz : Nat) (E : List Nat) : Nat → Kd α
 | 0 => bot sz E
 | n + 1 => F (upto F sz E n)
theorem C_get {α : Type} {d : Kd α} {w : World} {A : Option Addr} {n : Nat} {xs : List α} (h : d.C w A n xs) (z : α) (i : Int) (h0 : 0 ≤ i) (h1 : i < n) :
  ∃ ad c, A = some ad ∧ c.length = d.sz ∧ d.K w (xs.getD i.toNat z) c ∧ ∀ j u, c[j]? = some u → w.cell? (ad.add (i.toNat * d.sz + j)) = some u := ReadsRow.get_ h z i h0 h1
section
variable {P : Program} {ops : Array Oper} {rest : List Oper} {o : Oper} {a : Act} {Q : Exit → Act → World → Prop} {α : Type}
end
section
variable {P : Program} {ops : Array Oper} {o : Oper} {a : Act} {Q : Exit → Act → World → Prop} {Kc : Act → World → Prop} {α : Type}
end
theorem reps_scalar {α : Type} {enc : α → Value} (xs : List α) : Reps (fun (x : α) (cs : List Value) => cs = [enc x]) 1 xs (encs enc xs) := by
 refine ⟨by simp [encs], fun j p hj => ?_⟩
 obtain ⟨hl, hp⟩ := List.getElem?_eq_some_iff.1 hj
 have hl' : j < (encs enc xs).length := by rw [encs_length]; exact hl
 rw [Nat.mul_one, List.drop_eq_getElem_cons hl']
 simp [encs, hp]
theorem R_of_own {α : Type} {enc : α → Value} {h1 : ∀ x, (enc x).oneCell' = true} {e : Nat} {w : World} {base : Nat} {ok : Nat → Prop} {v : Value} {xs : List α} (ho : w.ownsRow base e 1 v xs.length (encs enc xs)) (hok : ∀ k, v.ownBlock = some k → ok k) : (scalar enc h1).R e w base ok v xs := ⟨hok, encs enc xs, ho, reps_scalar xs⟩
theorem own_of_R {α : Type} {enc : α → Value} {h1 : ∀ x, (enc x).oneCell' = true} {e : Nat} {w : World} {base : Nat} {ok : Nat → Prop} {v : Value} {xs : List α} (h : (scalar enc h1).R e w base ok v xs) : w.ownsRow base e 1 v xs.length (encs enc xs) := by
 obtain ⟨_, inner, ho, hr⟩ := h
 have : inner = encs enc xs := by
  apply List.ext_getElem?
  intro j
  rcases Nat.lt_or_ge j xs.length with hj | hj
  ·have h2 := hr.2 j _ (List.getElem?_eq_getElem hj)
   have hl : j < inner.length := by have := hr.1; simp [scalar] at this; omega
   have h3 : (inner.drop (j * 1)).take 1 = [enc xs[j]] := h2
   rw [Nat.mul_one, List.drop_eq_getElem_cons hl] at h3
   have h4 : inner[j] = enc xs[j] := by
    have h5 := congrArg List.head? h3
    rw [List.take_succ_cons] at h5
    exact Option.some.inj h5
   rw [List.getElem?_eq_getElem hl, h4]
   simp [encs, List.getElem?_eq_getElem hj]
  ·have h3 : inner.length = xs.length := by have := hr.1; simp [scalar] at this; omega
   rw [List.getElem?_eq_none (by omega), List.getElem?_eq_none (by rw [encs_length]; omega)]
 rw [← this]
 exact ho
theorem C_of_reads {α : Type} {enc : α → Value} {d : α} {h1 : ∀ x, (enc x).oneCell' = true} {w : World} {A : Option Addr} {n : Nat} {xs : List α} (h : ReadsOf enc d w A n xs) : (scalar enc h1).C w A n xs := by
 refine ⟨h.1, h.2.1, fun hn => ?_⟩
 obtain ⟨ad, e, hc⟩ := h.2.2 hn
 refine ⟨ad, e, fun j p hj => ⟨[enc p], rfl, rfl, fun i u hu => ?_⟩⟩
 obtain ⟨hl, hp⟩ := List.getElem?_eq_some_iff.1 hj
 have h2 := hc j (by have := h.1; omega)
 rw [List.getD_eq_getElem?_getD, hj] at h2
 cases i with
 | zero =>
  have : enc p = u := by simpa using hu
  subst this
  simpa [scalar] using h2
 | succ i => simp at hu
theorem reads_of_C {α : Type} {enc : α → Value} {d : α} {h1 : ∀ x, (enc x).oneCell' = true} {w : World} {A : Option Addr} {n : Nat} {xs : List α} (h : (scalar enc h1).C w A n xs) : ReadsOf enc d w A n xs := by
 refine ⟨h.1, h.2.1, fun hn => ?_⟩
 obtain ⟨ad, e, hc⟩ := h.2.2 hn
 refine ⟨ad, e, fun j hj => ?_⟩
 have hl : j < xs.length := by have := h.1; omega
 obtain ⟨c, _, hK, hcell⟩ := hc j _ (List.getElem?_eq_getElem hl)
 have hK' : c = [enc xs[j]] := hK
 subst hK'
 have := hcell 0 _ rfl
 simpa [scalar, List.getD_eq_getElem?_getD, List.getElem?_eq_getElem hl] using this
end Kd
namespace Kd
section
variable {α : Type} {F : Kd α → Kd α} {sz : Nat} {E : List Nat} {hs : ∀ n, (upto F sz E n).sz = sz} {hE : ∀ n q, q ∈ (upto F sz E n).E → q ∈ E}
end
end Kd
namespace Kd
end Kd
namespace Kd
section
variable {α β : Type} {d : Kd α} {d' : Kd β} {e e' : Nat} {w w1 W : World} {base b b' : Nat} {ok ok' okv oku : Nat → Prop} {v u : Value} {xs : List α} {ys : List β}
theorem R_alloc (h : d.R e w base ok v xs) (o : Obj) : d.R e (w.alloc o) base ok v xs := R_below h (below_alloc (Below.refl _ _) o)
theorem R_drew (h : d.R e w base ok v xs) : d.R e w.drew base ok v xs := R_below h (below_drew (Below.refl _ _))
theorem R_drewN (h : d.R e w base ok v xs) (m : Nat) : d.R e (w.drewN m) base ok v xs := R_below h (pw_below_drewN (Below.refl _ _) m)
theorem C_alloc {A : Option Addr} {n : Nat} (h : d.C w A n xs) (o : Obj) : d.C (w.alloc o) A n xs := C_below h (below_alloc (Below.refl _ _) o)
theorem C_drew {A : Option Addr} {n : Nat} (h : d.C w A n xs) : d.C w.drew A n xs := C_below h (below_drew (Below.refl _ _))
theorem C_drewN {A : Option Addr} {n : Nat} (h : d.C w A n xs) (m : Nat) : d.C (w.drewN m) A n xs := C_below h (pw_below_drewN (Below.refl _ _) m)
theorem C_nil (d : Kd α) (w : World) : d.C w none ([] : List α).length [] := ⟨rfl, by simp, fun h => absurd h (Nat.lt_irrefl 0)⟩
theorem R_reads' {A : Option Addr} {n c : Nat} (h : d.R e w base ok (.slice A n c) xs) : n = xs.length ∧ n ≤ c ∧ d.C w A xs.length xs := by
 obtain ⟨A', c', he, hl, hr⟩ := R_reads h
 injection he with h1 h2 h3
 subst h1
 exact ⟨h2, by omega, hr⟩
theorem R_base (h : d.R e w base ok v xs) : ∀ k, v.ownBlock = some k → base ≤ k := by
 obtain ⟨inner, ho⟩ := R_own h
 exact own_base ho
theorem R_form (h : d.R e w base ok v xs) (hp : 0 < xs.length) : ∃ g cap, v = .slice (some ⟨g, 0, none⟩) xs.length cap ∧ base ≤ g ∧ g < w.heap.size ∧ ∃ cells, w.heap[g]? = some (.cells cells e (0, 0)) := by
 obtain ⟨inner, ho⟩ := R_own h
 obtain ⟨g, cap, he, hb, hl⟩ := ho.form hp
 obtain ⟨cells, hc⟩ := own_typed ho g (by rw [he]; simp [Value.ownBlock])
 exact ⟨g, cap, he, hb, hl, cells, hc⟩
end
section
variable {w W : World} {A : Option Addr} {n : Nat}
theorem at_int {k : IntKind} {xs : List Int} (h : (Kd.int k).C w A n xs) (i : Int) (h0 : 0 ≤ i) (h1 : i < n) : ∃ ad, A = some ad ∧ w.cell? (ad.add i.toNat) = some (.int k (rd xs i)) :=
 ReadsOf.at_ (reads_of_C (enc := Value.int k) (d := (0 : Int)) (h1 := fun _ => rfl) h) i h0 h1
variable {α : Type} {enc : α → Value} {h1 : ∀ x, (enc x).oneCell' = true} {e base g cap : Nat} {ok : Nat → Prop} {xs : List α}
theorem R_cell (d : α) (h : (scalar enc h1).R e W base ok (.slice (some ⟨g, 0, none⟩) xs.length cap) xs) (i : Int) (h0 : 0 ≤ i) (hi : i < xs.length) : W.cell? ⟨g, i.toNat, none⟩ = some (enc (rdOf d xs i)) ∧ W.frozen? ⟨g, i.toNat, none⟩ = false := own_at_of (own_of_R h) i h0 hi
theorem R_put (h : (scalar enc h1).R e W base ok (.slice (some ⟨g, 0, none⟩) xs.length cap) xs) (i : Int) (x : α) : (scalar enc h1).R e (W.setCell ⟨g, i.toNat, none⟩ (enc x)) base ok (.slice (some ⟨g, 0, none⟩) xs.length cap) (xs.set i.toNat x) ∧ W.grownBy (W.setCell ⟨g, i.toNat, none⟩ (enc x)) (some g) := by
 obtain ⟨ho, hg⟩ := own_store_of (own_of_R h) i x
 exact ⟨R_of_own (by rw [List.length_set]; exact ho) h.1, hg⟩
end
section
variable {P : Program} {ops : Array Oper} {rest : List Oper} {o : Oper} {a : Act} {Q : Exit → Act → World → Prop}
theorem event_run {W w1 : World} {v : Value} (hgd : o.guard = none) (hrun : (execOp a.eval o).run P W = .ok (.value v) w1) (h : wpList P ops Q rest (a.put o.dst v) w1) : wpList P ops Q (o :: rest) a W := by
 refine wpList_plain hgd fun K hK => ?_
 unfold Oper.wp
 rw [hrun]
 exact hK _ _ h
variable {α : Type}
theorem R_lit (d : Kd α) {w0 W : World} (base e : Nat) (hgd : o.guard = none) {N : Tmp} (_hd : o.dst = some N) {xs : List α} {inner : List Value} {ok okp : Nat → Prop}
  (hrun : (execOp a.eval o).run P W = .ok (.value (.slice (some ⟨W.heap.size, 0, none⟩) xs.length xs.length)) (W.alloc (.cells inner.toArray e)))
  (hrep : Reps (d.M W base okp) d.sz xs inner) (hok : ∀ k, okp k → ok k) (hfresh : ok W.heap.size) (HB : Below base w0 W) (hbase : base ≤ W.heap.size) (hm : xs.length ≤ 9223372036854775807)
  (h : ∀ v1 w1, d.R e w1 base ok v1 xs → Below base w0 w1 → W.grownBy w1 none → (∃ b, v1.ownBlock = some b ∧ W.heap.size ≤ b) → wpList P ops Q rest (a.put o.dst v1) w1) : wpList P ops Q (o :: rest) a W := by
 refine event_run hgd hrun (h _ _ ⟨fun k hk => ?_, inner, ?_, ?_⟩ (HB.alloc hbase _) (World.grownBy_alloc W _ none) ⟨W.heap.size, by simp [Value.ownBlock], Nat.le_refl _⟩)
 ·have : W.heap.size = k := by simpa [Value.ownBlock] using hk
  subst this
  exact hfresh
 ·have h2 := World.ownsRow_lit (base := base) (e := e) (size := d.sz) W inner.toArray xs.length hbase (by simpa [maxLen] using hm) (by simpa using hrep.1)
  simpa using h2
 ·refine hrep.imp_ (fun p c hp => d.M_mono (fun k hk => ⟨hok k hk.1, fun he => ?_⟩) (M_below (d.M_bound hp) (below_alloc (Below.refl _ _) _)))
  have h3 : k = W.heap.size := by simpa [Value.ownBlock] using he
  have := hk.2.2.1
  omega
theorem reps_made {α : Type} {R : α → List Value → Prop} {z : Value} {size : Nat} {z0 : α} (hz : z.cells.size = size) (hs : 0 < size) (h0 : R z0 z.cells.toList) (m : Nat) : Reps R size (List.replicate m z0) (madeCells z.cells (m * size)).toList := by
 refine ⟨by simp [size_madeCells], fun j p hj => ?_⟩
 obtain ⟨hjl, hp⟩ := List.getElem?_eq_some_iff.1 hj
 have hjm : j < m := by simpa using hjl
 have hp' : z0 = p := by simpa using hp
 subst hp'
 have hle : j * size + size ≤ m * size := by rw [← Nat.succ_mul]; exact Nat.mul_le_mul_right _ hjm
 have : ((madeCells z.cells (m * size)).toList.drop (j * size)).take size = z.cells.toList := by
  apply List.ext_getElem
  ·simp [size_madeCells, hz]
   omega
  ·intro i h1 h2
   have hi : i < size := by rw [Array.length_toList, hz] at h2; exact h2
   have hmod : (j * size + i) % size = i := by
    rw [Nat.mul_comm, Nat.mul_add_mod]
    exact Nat.mod_eq_of_lt hi
   simp [madeCells, hz, hmod]
   rw [getElem!_pos z.cells i (by omega)]
 rw [this]
 exact h0
theorem R_make (d : Kd α) {w0 W : World} (base e : Nat) (hgd : o.guard = none) {N : Tmp} (hd : o.dst = some N) (t : TypeId) (x y : Operand) (ho : o.op = .makeSlice t x y) (n : Int) (hx : a.eval x = .int .i64 n) (hy : a.eval y = .int .i64 n)
  (ht : P.underlying t = some (.slice e)) (z : Value) (bytes : Nat) (hinfo : (P.info? e).map (fun i => (i.zero, i.size, i.bytes)) = some (some z, d.sz, bytes)) (hz : z.cells.size = d.sz) (hs0 : 0 < d.sz) (hb0 : 0 < bytes)
  (z0 : α) {ok okp : Nat → Prop} (hzero : d.M W base okp z0 z.cells.toList) (hok : ∀ k, okp k → ok k) (hfresh : ok W.heap.size) (h0 : 0 ≤ n) (hl : n.toNat * bytes ≤ 281474976710656) (HB : Below base w0 W) (hbase : base ≤ W.heap.size)
  (h : ∀ v1 w1, d.R e w1 base ok v1 (List.replicate n.toNat z0) → Below base w0 w1 → W.grownBy w1 none → (∃ b, v1.ownBlock = some b ∧ W.heap.size ≤ b) → wpList P ops Q rest (a.put o.dst v1) w1) : wpList P ops Q (o :: rest) a W := by
 obtain ⟨m, rfl⟩ := Int.eq_ofNat_of_zero_le h0
 simp only [Int.toNat_natCast] at hl h
 obtain ⟨i0, hi, hzz⟩ := Option.map_eq_some_iff.1 hinfo
 simp only [Prod.mk.injEq] at hzz
 obtain ⟨hz0, hz1, hz2⟩ := hzz
 have hm : m ≤ 281474976710656 := Nat.le_trans (Nat.le_mul_of_pos_right _ hb0) hl
 have hr := run_make (P := P) W t e i0 z ht hi hz0 .i64 .i64 (m : Int) (m : Int) (by omega) (by omega)
  (by
   have h3 : ((i0.bytes * m : Nat) : Int) ≤ 281474976710656 := by rw [hz2, Nat.mul_comm]; omega
   rwa [Int.natCast_mul] at h3) (by omega)
 simp only [Int.toNat_natCast] at hr
 rw [hz1] at hr
 refine R_lit d base e hgd hd (xs := List.replicate m z0) (inner := (madeCells z.cells (m * d.sz)).toList) (okp := okp) (ok := ok) ?_ (reps_made hz hs0 hzero m) hok hfresh HB hbase (by simp; omega) h
 simp [execOp, ho, hx, hy, hr]
end
end Kd
section
variable {P : Program}
end
def QRow (w : World) (base : Nat) (e : TypeId) (size : Nat) (v : Value) (n : Nat) (xs : List Value) : Prop :=
 xs.length = n * size ∧
 ((n = 0 ∧ ∃ A, v = .slice A 0 0 ∧ ∀ a, A = some a → base ≤ a.block ∧ ∃ cur, w.heap[a.block]? = some (.cells cur e (0, 0))) ∨
  ∃ g off cap cur, v = .slice (some ⟨g, off * size, none⟩) n cap ∧ base ≤ g ∧ w.heap[g]? = some (.cells cur e (0, 0)) ∧ n ≤ cap ∧ off + cap ≤ maxLen ∧ cur.size = (off + cap) * size ∧ (cur.toList.drop (off * size)).take (n * size) = xs)
section
variable {w w1 : World} {base n size : Nat} {e : TypeId} {v : Value} {xs : List Value}
theorem setCells_far {g : Nat} : ∀ (vs : List Value) (o : Nat) {w : World} (k : Nat), k ≠ g → (w.setCells g o vs).heap[k]? = w.heap[k]?
 | [], _, _, _, _ => rfl
 | v :: r, o, w, k, hk => by
  rw [World.setCells, setCells_far r (o + 1) k hk]
  exact Below.heap_setCell w ⟨g, o, none⟩ v k hk
theorem setCells_same (g : Nat) : ∀ (vs : List Value) (o : Nat) (w : World), (w.setCells g o vs).os = w.os ∧ (w.setCells g o vs).tape = w.tape ∧ (w.setCells g o vs).output = w.output ∧ (w.setCells g o vs).heap.size = w.heap.size
 | [], _, _ => ⟨rfl, rfl, rfl, rfl⟩
 | v :: r, o, w => by
  obtain ⟨h1, h2, h3, h4⟩ := setCells_same g r (o + 1) (w.setCell ⟨g, o, none⟩ v)
  rw [World.setCells]
  exact ⟨h1, h2, h3, by rw [h4]; simp [World.setCell]⟩
theorem setCells_row {g : Nat} {e : TypeId} : ∀ (vs : List Value) (o : Nat) (w : World) (cur : Array Value), w.heap[g]? = some (.cells cur e (0, 0)) → o + vs.length ≤ cur.size →
  ∃ cur', (w.setCells g o vs).heap[g]? = some (.cells cur' e (0, 0)) ∧ cur'.size = cur.size ∧ cur'.toList = cur.toList.take o ++ vs ++ cur.toList.drop (o + vs.length)
 | [], o, w, cur, h, _ => ⟨cur, h, rfl, by simp⟩
 | v :: r, o, w, cur, h, hl => by
  have h2 := blk_set h o v
  simp only [List.length_cons] at hl
  obtain ⟨cur', h3, h4, h5⟩ := setCells_row r (o + 1) (w.setCell ⟨g, o, none⟩ v) _ h2 (by simp; omega)
  refine ⟨cur', h3, by rw [h4]; simp, ?_⟩
  rw [h5, Array.toList_setIfInBounds]
  have ho : o < cur.toList.length := by rw [Array.length_toList]; omega
  rw [List.take_set, List.drop_set_of_lt (by omega)]
  simp only [List.length_cons]
  rw [show o + 1 + r.length = o + (r.length + 1) by omega]
  congr 1
  rw [List.take_succ_eq_append_getElem ho, List.set_append_right _ _ (by rw [List.length_take]; omega)]
  have ho' : o < cur.size := by omega
  simp [Nat.min_eq_left (Nat.le_of_lt ho')]
end
section
variable {P : Program}
end
namespace Kd
def Q {α : Type} (d : Kd α) (e : Nat) (w : World) (base : Nat) (ok : Nat → Prop) (v : Value) (xs : List α) : Prop :=
 (∀ k, v.ownBlock = some k → ok k) ∧ ∃ inner, QRow w base e d.sz v xs.length inner ∧ Reps (d.M w base (fun k => ok k ∧ some k ≠ v.ownBlock)) d.sz xs inner
section
variable {α : Type} {d : Kd α} {e : Nat} {w w1 W : World} {base : Nat} {ok ok' : Nat → Prop} {v : Value} {xs : List α}
end
section
variable {P : Program} {ops : Array Oper} {rest : List Oper} {o : Oper} {a : Act} {Q' : Exit → Act → World → Prop} {Kc : Act → World → Prop} {α : Type}
end
end Kd
namespace Kd
section
variable {α : Type} {d : Kd α} {e e' : Nat} {w w1 W : World} {base : Nat} {ok : Nat → Prop} {u v : Value} {xs : List α}
theorem R_typed (h : d.R e w base ok v xs) : ∀ k, v.ownBlock = some k → ∃ cells, w.heap[k]? = some (.cells cells e (0, 0)) := by
 obtain ⟨inner, ho⟩ := R_own h
 exact fun k hk => own_typed ho k hk
theorem R_apart' (h : d.R e W base ok u xs) (hty : ∀ k, v.ownBlock = some k → ∃ cells, W.heap[k]? = some (.cells cells e' (0, 0))) (ht : ∀ q, q ∈ e :: d.E → q ≠ e') : d.R e W base (fun k => ok k ∧ some k ≠ v.ownBlock) u xs := by
 refine R_mono (R_bound h) (fun k hk => ⟨hk.1, fun he => ?_⟩)
 obtain ⟨_, _, _, q, hq, cells, hc⟩ := hk
 obtain ⟨cells', hc'⟩ := hty k he.symm
 rw [hc] at hc'
 injection hc' with hc'
 injection hc' with _ hc'
 exact ht q hq hc'
theorem R_elder' (hu : d.R e W base ok u xs) (hbase : ∀ k, v.ownBlock = some k → W.heap.size ≤ k) (hb : Below W.heap.size W w1) : d.R e w1 base (fun k => ok k ∧ some k ≠ v.ownBlock) u xs :=
 R_mono (R_move (R_bound hu) (fun k hk => hb.block k hk.2.2.1)) (fun k hk => ⟨hk.1, fun he => by have := hbase k he.symm; have := hk.2.2.1; omega⟩)
end
end Kd
theorem seg_get {α : Type} (a seg : List α) (o : Nat) (h : o + seg.length ≤ a.length) (q : Nat) :
  (a.take o ++ seg ++ a.drop (o + seg.length))[q]? = if q < o then a[q]? else if q < o + seg.length then seg[q - o]? else a[q]? := by
 have hl : (a.take o).length = o := by rw [List.length_take]; omega
 rw [List.append_assoc]
 by_cases h1 : q < o
 ·rw [if_pos h1, List.getElem?_append_left (by omega), List.getElem?_take, if_pos h1]
 ·rw [if_neg h1, List.getElem?_append_right (by omega), hl]
  by_cases h2 : q < o + seg.length
  ·rw [if_pos h2, List.getElem?_append_left (by omega)]
  ·rw [if_neg h2, List.getElem?_append_right (by omega), List.getElem?_drop]
   congr 1
   omega
namespace Kd
section
variable {α : Type} {d : Kd α} {e base g n cap : Nat} {ok okp : Nat → Prop} {W : World} {xs : List α}
theorem R_elem (h : d.R e W base ok (.slice (some ⟨g, 0, none⟩) n cap) xs) (z : α) (i : Int) (h0 : 0 ≤ i) (h1 : i < n) :
  ∃ c, c.length = d.sz ∧ d.M W base (fun k => ok k ∧ k ≠ g) (xs.getD i.toNat z) c ∧ (∀ j u, c[j]? = some u → W.cell? ⟨g, i.toNat * d.sz + j, none⟩ = some u) ∧ ∀ j, W.frozen? ⟨g, i.toNat * d.sz + j, none⟩ = false := by
 obtain ⟨hn, hnc, hC⟩ := R_reads' h
 obtain ⟨_, inner, ho, hr⟩ := h
 have hil : i.toNat < xs.length := by omega
 have hseg : i.toNat * d.sz + d.sz ≤ inner.length := by rw [hr.1, ← Nat.succ_mul]; exact Nat.mul_le_mul_right _ hil
 have hM := hr.2 i.toNat _ (List.getElem?_eq_getElem hil)
 refine ⟨(inner.drop (i.toNat * d.sz)).take d.sz, by rw [List.length_take, List.length_drop]; omega, ?_, fun j u hu => ?_, fun j => ?_⟩
 ·rw [List.getD_eq_getElem?_getD, List.getElem?_eq_getElem hil]
  exact d.M_mono (fun k hk => ⟨hk.1, fun he => hk.2 (by rw [he]; simp [Value.ownBlock])⟩) hM
 ·rw [List.getElem?_take] at hu
  split at hu
  ·rw [List.getElem?_drop] at hu
   have := ho.cells (g := g) (by simp [Value.ownBlock]) _ u hu
   rwa [add_plain] at this
  ·cases hu
 ·obtain ⟨cells, hc⟩ := own_typed ho g (by simp [Value.ownBlock])
  exact blk_frozen hc _
theorem R_seg (h : d.R e W base ok (.slice (some ⟨g, 0, none⟩) n cap) xs) (i : Int) (h0 : 0 ≤ i) (h1 : i < n) {c seg : List Value} {j : Nat} (hcl : c.length = d.sz) (hcc : ∀ j u, c[j]? = some u → W.cell? ⟨g, i.toNat * d.sz + j, none⟩ = some u)
  (hj : j + seg.length ≤ d.sz) {x' : α} (hM : d.M W base okp x' (c.take j ++ seg ++ c.drop (j + seg.length))) (hokp : ∀ k, okp k → ok k ∧ k ≠ g) :
  d.R e (W.setCells g (i.toNat * d.sz + j) seg) base ok (.slice (some ⟨g, 0, none⟩) n cap) (xs.set i.toNat x') ∧ W.grownBy (W.setCells g (i.toNat * d.sz + j) seg) (some g) := by
 obtain ⟨hn, hnc, _⟩ := R_reads' h
 obtain ⟨hok, inner, ho, hr⟩ := h
 have hil : i.toNat < xs.length := by omega
 have hseg : i.toNat * d.sz + d.sz ≤ inner.length := by rw [hr.1, ← Nat.succ_mul]; exact Nat.mul_le_mul_right _ hil
 have hin : inner.length = n * d.sz := by rw [hr.1, hn]
 obtain ⟨ho1, ho2⟩ := ho
 rcases ho2 with ⟨hv, _⟩ | ⟨g', cap', cur, hv, hb, hh, hnc', hcm, hcs, ht⟩
 ·cases hv
 injection hv with ha _ hc
 injection ha with ha
 injection ha with hg
 subst hg; subst hc
 have hfit : i.toNat * d.sz + j + seg.length ≤ cur.size := by
  have : n * d.sz ≤ cap * d.sz := Nat.mul_le_mul_right _ hnc
  omega
 obtain ⟨cur', h3, h4, h5⟩ := setCells_row seg (i.toNat * d.sz + j) W cur hh hfit
 obtain ⟨s1, s2, s3, s4⟩ := setCells_same g seg (i.toNat * d.sz + j) W
 have hfar : ∀ k, k ≠ g → (W.setCells g (i.toNat * d.sz + j) seg).heap[k]? = W.heap[k]? := fun k hk => setCells_far seg _ k hk
 have hcin : ∀ q, q < d.sz → c[q]? = inner[i.toNat * d.sz + q]? := by
  intro q hq
  have hq' : q < c.length := by omega
  have h6 := hcc q _ (List.getElem?_eq_getElem hq')
  rw [cell_of_row W g _ cur e (0, 0) hh] at h6
  rw [List.getElem?_eq_getElem hq', ← h6, ← ht, List.getElem?_take, if_pos (by rw [← hn]; omega), Array.getElem?_toList]
 refine ⟨⟨hok, inner.take (i.toNat * d.sz + j) ++ seg ++ inner.drop (i.toNat * d.sz + j + seg.length), ⟨?_, .inr ⟨g, cap, cur', by rw [List.length_set, hn], hb, h3, by rw [List.length_set, ← hn]; exact hnc, hcm, by rw [h4, hcs], ?_⟩⟩, ?_⟩,
  ⟨s1, s2, s3, by rw [s4]; exact Nat.le_refl _, fun k _ hk => hfar k (fun he => hk (by rw [he]))⟩⟩
 ·rw [List.length_set]
  simp only [List.length_append, List.length_take, List.length_drop]
  rw [hr.1] at hseg ⊢
  omega
 ·rw [List.length_set, ← hn]
  apply List.ext_getElem?
  intro q
  rw [List.getElem?_take, h5]
  rw [seg_get cur.toList seg (i.toNat * d.sz + j) (by rw [Array.length_toList]; omega) q, seg_get inner seg (i.toNat * d.sz + j) (by omega) q]
  have hcur : ∀ q, q < n * d.sz → cur.toList[q]? = inner[q]? := by
   intro q hq
   rw [← ht, List.getElem?_take, if_pos (by rw [← hn]; exact hq)]
  by_cases hq : q < n * d.sz
  ·rw [if_pos hq, hcur q hq]
  ·rw [if_neg hq, if_neg (by omega), if_neg (by omega), List.getElem?_eq_none (by omega)]
 ·refine ⟨?_, fun m p hm => ?_⟩
  ·rw [List.length_set]
   simp only [List.length_append, List.length_take, List.length_drop]
   rw [hr.1] at hseg ⊢
   omega
  ·have hml : m < xs.length := by
    have := (List.getElem?_eq_some_iff.1 hm).1
    rwa [List.length_set] at this
   have hmfit : m * d.sz + d.sz ≤ inner.length := by rw [hr.1, ← Nat.succ_mul]; exact Nat.mul_le_mul_right _ hml
   have hgo : some g = (Value.slice (some ⟨g, 0, none⟩) n cap).ownBlock := by simp [Value.ownBlock]
   by_cases hmi : m = i.toNat
   ·subst hmi
    rw [List.getElem?_set_self (by omega)] at hm
    injection hm with hm
    subst hm
    have hcells : ((inner.take (i.toNat * d.sz + j) ++ seg ++ inner.drop (i.toNat * d.sz + j + seg.length)).drop (i.toNat * d.sz)).take d.sz = c.take j ++ seg ++ c.drop (j + seg.length) := by
     apply List.ext_getElem?
     intro q
     rw [List.getElem?_take, List.getElem?_drop, seg_get inner seg _ (by omega), seg_get c seg j (by omega) q]
     by_cases hq : q < d.sz
     ·rw [if_pos hq, hcin q hq]
      by_cases hq1 : q < j
      ·rw [if_pos (by omega), if_pos hq1]
      ·rw [if_neg (by omega), if_neg hq1]
       by_cases hq2 : q < j + seg.length
       ·rw [if_pos (by omega), if_pos hq2]
        congr 1
        omega
       ·rw [if_neg (by omega), if_neg hq2]
     ·rw [if_neg hq, if_neg (by omega), if_neg (by omega), List.getElem?_eq_none (by omega)]
    rw [hcells]
    refine d.M_mono (fun k hk => ?_) (d.M_move (w1 := W.setCells g (i.toNat * d.sz + j) seg) (fun k hk => hfar k (hokp k hk).2) hM)
    exact ⟨(hokp k hk).1, fun he => (hokp k hk).2 (by rw [← hgo] at he; injection he)⟩
   ·rw [List.getElem?_set_ne (by omega)] at hm
    have hold := hr.2 m p hm
    have hcells : ((inner.take (i.toNat * d.sz + j) ++ seg ++ inner.drop (i.toNat * d.sz + j + seg.length)).drop (m * d.sz)).take d.sz = (inner.drop (m * d.sz)).take d.sz := by
     apply List.ext_getElem?
     intro q
     rw [List.getElem?_take, List.getElem?_take, List.getElem?_drop, List.getElem?_drop, seg_get inner seg _ (by omega)]
     by_cases hq : q < d.sz
     ·rw [if_pos hq, if_pos hq]
      rcases Nat.lt_or_gt_of_ne hmi with hlt | hgt
      ·have : m * d.sz + d.sz ≤ i.toNat * d.sz := by rw [← Nat.succ_mul]; exact Nat.mul_le_mul_right _ hlt
       rw [if_pos (by omega)]
      ·have : i.toNat * d.sz + d.sz ≤ m * d.sz := by rw [← Nat.succ_mul]; exact Nat.mul_le_mul_right _ hgt
       rw [if_neg (by omega), if_neg (by omega)]
     ·rw [if_neg hq, if_neg hq]
    rw [hcells]
    refine d.M_move (fun k hk => hfar k (fun he => hk.2 (by rw [he]; exact hgo))) hold
end
end Kd
namespace Kd
section
variable {α : Type} {F : Kd α → Kd α} {sz : Nat} {E : List Nat} {hs : ∀ n, (upto F sz E n).sz = sz} {hE : ∀ n q, q ∈ (upto F sz E n).E → q ∈ E}
end
end Kd
namespace Kd
theorem reps_append {α : Type} {R : α → List Value → Prop} {size : Nat} {ps qs : List α} {cs ds : List Value} (h : Reps R size ps cs) (h' : Reps R size qs ds) : Reps R size (ps ++ qs) (cs ++ ds) := by
 refine ⟨by rw [List.length_append, List.length_append, h.1, h'.1, Nat.add_mul], fun j p hj => ?_⟩
 rcases Nat.lt_or_ge j ps.length with hlt | hge
 ·rw [List.getElem?_append_left hlt] at hj
  have hle : j * size + size ≤ cs.length := by rw [h.1, ← Nat.succ_mul]; exact Nat.mul_le_mul_right _ hlt
  rw [List.drop_append_of_le_length (by omega), List.take_append_of_le_length (by rw [List.length_drop]; omega)]
  exact h.2 j p hj
 ·rw [List.getElem?_append_right hge] at hj
  have h2 := h'.2 (j - ps.length) p hj
  have hle : ps.length * size ≤ j * size := Nat.mul_le_mul_right _ hge
  rw [List.drop_append, List.drop_eq_nil_of_le (by rw [h.1]; exact hle), List.nil_append, h.1, ← Nat.sub_mul]
  exact h2
section
variable {P : Program} {ops : Array Oper} {rest : List Oper} {o : Oper} {a : Act} {Q : Exit → Act → World → Prop} {α : Type}
theorem R_append_rows (d : Kd α) {Rr : α → List Value → Prop} {w0 W : World} (base : Nat) (hgd : o.guard = none) (s x : Operand) (t e : TypeId) (z : Value) (bytes : Nat)
  (ho : o.op = .call { callee := .builtin .append, args := #[s, x], argTypes := #[t, t] })
  (ht : P.underlying t = some (.slice e)) (hinfo : (P.info? e).map (fun i => (i.zero, i.size, i.bytes)) = some (some z, d.sz, bytes)) (hz : z.cells.size = d.sz) (hs0 : 0 < d.sz) (hb0 : 0 < bytes)
  (v : Value) (xs ys : List α) (A : Option Addr) (m c : Nat) (ok okp : Nat → Prop) (hs : a.eval s = v) (hx : a.eval x = .slice A m c)
  (HO : d.R e W base ok v xs) (HR : ReadsRow Rr d.sz W A m ys) (hKM : ∀ x cs, Rr x cs → d.M W base okp x cs) (hokp : ∀ k, okp k → ok k ∧ some k ≠ v.ownBlock) (hfresh : ∀ k, W.heap.size ≤ k → ok k)
  (HB : Below base w0 W) (hbase : base ≤ W.heap.size) (hl : (xs.length + m) * bytes ≤ 140737488355328)
  (h : ∀ v1 w1, d.R e w1 base ok v1 (xs ++ ys) → Below base w0 w1 → W.grownBy w1 v.ownBlock → (v1.ownBlock = v.ownBlock ∨ ∃ b, v1.ownBlock = some b ∧ W.heap.size ≤ b) → wpList P ops Q rest (a.put o.dst v1) w1) :
  wpList P ops Q (o :: rest) a W := by
 obtain ⟨i0, hi, hzz⟩ := Option.map_eq_some_iff.1 hinfo
 simp only [Prod.mk.injEq] at hzz
 obtain ⟨hz0, hz1, hz2⟩ := hzz
 have hm : ys.length = m := HR.1
 have hlen : xs.length + m ≤ 140737488355328 := Nat.le_trans (Nat.le_mul_of_pos_right _ hb0) hl
 obtain ⟨hok, inner, hown, hr⟩ := HO
 have hrun : ∃ v1 w1, (Builtin.append_ #[t, t] o.type #[v, .slice A m c]).run P W = .ok v1 w1 ∧ d.R e w1 base ok v1 (xs ++ ys) ∧ W.grownBy w1 v.ownBlock ∧ (v1.ownBlock = v.ownBlock ∨ ∃ b, v1.ownBlock = some b ∧ W.heap.size ≤ b) := by
  rcases A with _ | ad
  ·have h0 : m = 0 := by
    rcases Nat.eq_zero_or_pos m with h0 | h0
    ·exact h0
    ·obtain ⟨ad, h, _⟩ := HR.2.2 h0
     cases h
   subst h0
   obtain rfl : ys = [] := List.eq_nil_of_length_eq_zero hm
   refine ⟨v, W, ?_, by rw [List.append_nil]; exact ⟨hok, inner, hown, hr⟩, World.grownBy.refl W _, .inl rfl⟩
   rcases hown.2 with ⟨rfl, hn⟩ | ⟨g, cap, cur, rfl, _, _, hnc, _⟩
   ·simp [Builtin.append_, run_underlying ht, sizeOf, typeInfo, hi, Builtin.lenOf, Builtin.firstCells]
   ·simp [Builtin.append_, run_underlying ht, sizeOf, typeInfo, hi, Builtin.lenOf, Builtin.firstCells, hnc, storeCells]
  ·obtain ⟨news, hnr, hnc⟩ := ReadsRow.inner_ HR
   have hnM : Reps (d.M W base okp) d.sz ys news := hnr.imp_ (fun p c hp => hKM p c hp)
   have hone : ∀ u ∈ news, u.oneCell' = true := by
    intro u hu
    obtain ⟨q, hq, rfl⟩ := List.mem_iff_getElem.1 hu
    have hql : q / d.sz < ys.length := by
     rw [Nat.div_lt_iff_lt_mul hs0]
     rw [← hnM.1]
     exact hq
    have hc := hnM.2 (q / d.sz) _ (List.getElem?_eq_getElem hql)
    refine d.K_one (d.K_of_M hc) _ ?_
    rw [List.mem_iff_getElem?]
    refine ⟨q % d.sz, ?_⟩
    rw [List.getElem?_take, if_pos (Nat.mod_lt _ hs0), List.getElem?_drop, Nat.mul_comm, Nat.div_add_mod, List.getElem?_eq_getElem hq]
   obtain ⟨v1, w1, hrun, h2, hg, _, hat⟩ := run_append_own_at (P := P) W base t o.type e i0 z d.sz bytes ht hi hz0 hz1 hz2 hz hs0 v xs.length inner hown ad m c news (by rw [hnM.1, hm]) hnc hone (by simp only [maxLen]; omega) hl hbase
   have hat' : v1.ownBlock = v.ownBlock ∨ ∃ b, v1.ownBlock = some b ∧ W.heap.size ≤ b := by
    rcases hat with hat | hat
    ·exact .inl hat
    ·exact .inr ⟨_, hat, Nat.le_refl _⟩
   have hne : ∀ k, some k ≠ v.ownBlock → k < W.heap.size → some k ≠ v1.ownBlock := by
    intro k hk hlt
    rcases hat' with hat | ⟨b, hb, hle⟩
    ·rw [hat]; exact hk
    ·rw [hb]
     intro he
     injection he with he
     omega
   have step : ∀ {q : α} {c : List Value} {o : Nat → Prop}, d.M W base o q c → (∀ k, o k → ok k ∧ some k ≠ v.ownBlock) → d.M w1 base (fun k => ok k ∧ some k ≠ v1.ownBlock) q c := by
    intro q c o hq ho
    have h1 := d.M_move (w1 := w1) (fun k hk => hg.block k hk.2.2.1 (ho k hk.1).2) (d.M_bound hq)
    exact d.M_mono (fun k hk => ⟨(ho k hk.1).1, hne k (ho k hk.1).2 hk.2.2.1⟩) h1
   refine ⟨v1, w1, hrun, ⟨fun k hk => ?_, inner ++ news, by rw [List.length_append, hm]; exact h2, reps_append (hr.imp_ (fun _ _ hq => step hq (fun _ hk => hk))) (hnM.imp_ (fun _ _ hq => step hq hokp))⟩, hg, hat'⟩
   rcases hat' with hat | ⟨b, hb, hle⟩
   ·exact hok k (hat ▸ hk)
   ·rw [hb] at hk
    injection hk with hk
    exact hfresh k (by omega)
 obtain ⟨v1, w1, hr1, h1, hg, hat⟩ := hrun
 refine wpList_plain hgd fun K hK => ?_
 unfold Oper.wp execOp
 simp only [ho, resolve, invoke, builtin, Sem.run_bind, Sem.run_pure, Result.andThen_ok, List.map_toArray, List.map_cons, List.map_nil, hs, hx, hr1]
 exact hK _ _ (h v1 w1 h1 (HB.grown hg hbase (own_base hown)) hg hat)
end
end Kd
theorem run_store_run {P : Program} {w : World} {g o : Nat} {e : TypeId} {cur : Array Value} (t : TypeId) (u : Value) (seg : List Value) (hh : w.heap[g]? = some (.cells cur e (0, 0))) (hu : u.cells.toList = seg) (ht : (P.info? t).map (·.size) = some seg.length)
  (hfit : o + seg.length ≤ cur.size) (h1 : ∀ q ∈ seg, q.oneCell' = true) : (Instr.storeAt t (.pointer (some ⟨g, o, none⟩)) u).run P w = .ok () (w.setCells g o seg) := by
 obtain ⟨i, hi, hsz⟩ := Option.map_eq_some_iff.1 ht
 have hc : u.cells.size = i.size := by rw [hsz, ← hu, Array.length_toList]
 have hst := run_storeCells_cells (P := P) g o seg 0 w (fun j hj => by rw [cell_of_row w g _ cur e (0, 0) hh]; simp; omega) (fun j _ => blk_frozen hh _) h1
 simp only [Nat.add_zero] at hst
 simp [Instr.storeAt, Instr.sureAddr, storeVar, sizeOf, typeInfo, hi, hc, hu, hst]
namespace Kd
section
variable {P : Program} {ops : Array Oper} {rest : List Oper} {o : Oper} {a : Act} {Q : Exit → Act → World → Prop} {α : Type}
end
end Kd
theorem add_add (a : Addr) (i j : Nat) : (a.add i).add j = a.add (i + j) := by
 unfold Addr.add
 by_cases h1 : i = 0 <;> by_cases h2 : j = 0 <;> simp [h1, h2, Nat.add_assoc]
namespace Kd
section
variable {α : Type} {k : Kd α} {w : World} {A : Option Addr} {xs : List α} {m c : Nat}
end
end Kd
section
variable {P : Program}
end
theorem below_size {w W : World} (h : Below w.heap.size w W) : w.heap.size ≤ W.heap.size := h.size
theorem below_step {w W w2 : World} (h : Below w.heap.size w W) (k : Below W.heap.size W w2) : Below w.heap.size w w2 := below_then h h.size k
theorem ReadsInt.nil (W : World) (k : IntKind) : ReadsInt W k none ([] : List Int).length [] := ⟨rfl, by simp, fun h => absurd h (Nat.lt_irrefl 0)⟩
theorem ReadsInt.drewN {W : World} {k : IntKind} {A : Option Addr} {n : Nat} {xs : List Int} (h : ReadsInt W k A n xs) (m : Nat) : ReadsInt (W.drewN m) k A n xs := h
theorem ReadsInt.ofRow {k : IntKind} {w : World} {a : Option Addr} {len cap : Nat} {zs : List Int} (h : (a = none ∧ len = 0 ∧ cap = 0 ∧ zs = []) ∨ ∃ x, a = some x ∧ len ≤ cap ∧ cap ≤ maxLen ∧ zs.length = cap ∧ (∀ i, i < zs.length → w.cell? (x.add i) = some (.int k (zs.getD i 0))) ∧ ∀ n ∈ zs, (Lit.int k n).wf = true) :
  ∃ l : List Int, len = l.length ∧ ReadsInt w k a l.length l ∧ l.length ≤ maxLen ∧ ∀ x ∈ l, (Lit.int k x).wf = true := by
 rcases h with ⟨rfl, rfl, rfl, rfl⟩ | ⟨x, rfl, hl, hm, hz, hc, hw⟩
 ·exact ⟨[], rfl, ReadsInt.nil _ _, Nat.zero_le _, fun x hx => by simp at hx⟩
 ·have e : (zs.take len).length = len := by simp; omega
  have hm' : len ≤ maxLen := Nat.le_trans hl hm
  refine ⟨zs.take len, e.symm, ⟨rfl, by rw [e]; simpa [maxLen] using hm', fun _ => ⟨x, rfl, fun j hj => ?_⟩⟩, by rw [e]; exact hm', fun y hy => hw y (List.mem_of_mem_take hy)⟩
  rw [e] at hj
  rw [hc j (by omega)]
  simp [List.getD, List.getElem?_take, hj]
theorem below_set {w W : World} {g j : Nat} {v : Value} (h : Below w.heap.size w W) (hg : w.heap.size ≤ g) : Below w.heap.size w (W.setCell ⟨g, j, none⟩ v) := h.setCell hg _
theorem ReadsOf.nil {α : Type} (enc : α → Value) (d : α) (W : World) : ReadsOf enc d W none ([] : List α).length [] := ⟨rfl, by simp, fun h => absurd h (Nat.lt_irrefl 0)⟩
theorem ReadsOf.drewN {α : Type} {enc : α → Value} {d : α} {W : World} {A : Option Addr} {n : Nat} {xs : List α} (h : ReadsOf enc d W A n xs) (m : Nat) : ReadsOf enc d (W.drewN m) A n xs := h
theorem blk_put {w : World} {g : Nat} {t : TypeId} {cs cs' : Array Value} (h : w.heap[g]? = some (.cells cs t (0, 0))) (i : Nat) (u : Value) (e : cs.setIfInBounds i u = cs') : (w.setCell ⟨g, i, none⟩ u).heap[g]? = some (.cells cs' t (0, 0)) := e ▸ blk_set h i u
theorem ReadsInt.ofRowC {k : IntKind} {w : World} {a : Option Addr} {len cap : Nat} {zs : List Int} (h : (a = none ∧ len = 0 ∧ cap = 0 ∧ zs = []) ∨ ∃ x, a = some x ∧ len ≤ cap ∧ cap ≤ maxLen ∧ zs.length = cap ∧ (∀ i, i < zs.length → w.cell? (x.add i) = some (.int k (zs.getD i 0))) ∧ ∀ n ∈ zs, (Lit.int k n).wf = true) :
  ∃ l : List Int, len = l.length ∧ ReadsInt w k a l.length l ∧ l.length ≤ maxLen ∧ (∀ x ∈ l, (Lit.int k x).wf = true) ∧ l.length ≤ cap := by
 have hl : len ≤ cap := by
  rcases h with ⟨_, rfl, rfl, _⟩ | ⟨_, _, h, _⟩
  ·exact Nat.le_refl _
  ·exact h
 obtain ⟨l, e, h1, h2, h3⟩ := ReadsInt.ofRow h
 exact ⟨l, e, h1, h2, h3, e ▸ hl⟩
theorem below_drew1 {base : Nat} {w W : World} (h : Below base w W) : Below base w W.drew := h.drew
namespace Kd
section
variable {α β : Type} {d : Kd α} {d' : Kd β} {e e' base base' n : Nat} {ok ok' : Nat → Prop} {w W w1 W1 : World} {v u : Value} {xs : List α} {ys : List β} {A : Option Addr} {c : Nat}
end
section
variable {α : Type} {enc : α → Value} {h1 : ∀ x, (enc x).oneCell' = true} {w W : World} {A : Option Addr} {n g : Nat} {xs : List α}
end
end Kd
namespace Kd
section
variable {α : Type} {d : Kd α} {e base g : Nat} {ok : Nat → Prop} {w w1 : World} {v : Value} {xs : List α} {o : Obj}
end
end Kd
section
variable {P : Program} {ops : Array Oper} {rest : List Oper} {o : Oper} {a : Act} {Q : Exit → Act → World → Prop}
theorem box_event {W : World} (hgd : o.guard = none) {N : Tmp} (_hd : o.dst = some N) {cs : Array Value} {t : TypeId}
  (hrun : (execOp a.eval o).run P W = .ok (.value (.pointer (some ⟨W.heap.size, 0, none⟩))) (W.alloc (.cells cs t (0, 0))))
  (h : ∀ g, g = W.heap.size → ∀ w1, w1.heap[g]? = some (.cells cs t (0, 0)) → Below W.heap.size W w1 → wpList P ops Q rest (a.put o.dst (.pointer (some ⟨g, 0, none⟩))) w1) : wpList P ops Q (o :: rest) a W :=
 Kd.event_run hgd hrun (h _ rfl _ (blk_new W _) (below_alloc (Below.refl _ _) _))
end
namespace Kd
section
variable {α : Type} {enc : α → Value} {h1 : ∀ x, (enc x).oneCell' = true} {e base g n cap : Nat} {ok : Nat → Prop} {W : World} {xs : List α}
theorem R_celln (d : α) (h : (scalar enc h1).R e W base ok (.slice (some ⟨g, 0, none⟩) n cap) xs) (i : Int) (h0 : 0 ≤ i) (hi : i < n) : W.cell? ⟨g, i.toNat, none⟩ = some (enc (rdOf d xs i)) ∧ W.frozen? ⟨g, i.toNat, none⟩ = false := by
 obtain ⟨rfl, _⟩ := R_reads' h
 exact R_cell d h i h0 hi
end
end Kd
section
variable {P : Program} {ops : Array Oper} {rest : List Oper} {o : Oper} {a : Act} {Q : Exit → Act → World → Prop}
theorem store_event {W w1 : World} (hgd : o.guard = none) {t : TypeId} {p : Tmp} {v : Operand} (_ho : o.op = .store t (.tmp p) v) (hN : o.dst = none)
  (hrun : (execOp a.eval o).run P W = .ok .skip w1) (h : ∀ w', w' = w1 → wpList P ops Q rest a w') : wpList P ops Q (o :: rest) a W := by
 refine wpList_plain hgd fun K hK => ?_
 unfold Oper.wp
 rw [hrun]
 show K (a.put o.dst undef) w1
 rw [hN]
 exact hK _ _ (h _ rfl)
end
namespace Kd
section
variable {α : Type} {enc : α → Value} {h1 : ∀ x, (enc x).oneCell' = true} {e base g n cap : Nat} {ok : Nat → Prop} {W : World} {xs : List α}
theorem R_putg (h : (scalar enc h1).R e W base ok (.slice (some ⟨g, 0, none⟩) n cap) xs) (i : Int) (x : α) : (scalar enc h1).R e (W.setCell ⟨g, i.toNat, none⟩ (enc x)) base ok (.slice (some ⟨g, 0, none⟩) n cap) (xs.set i.toNat x) ∧ W.grownBy (W.setCell ⟨g, i.toNat, none⟩ (enc x)) (some g) := by
 obtain ⟨rfl, _⟩ := R_reads' h
 exact R_put h i x
end
end Kd
section
variable {P : Program} {ops : Array Oper} {rest : List Oper} {o : Oper} {a : Act} {Q : Exit → Act → World → Prop} {W : World}
theorem gate_dst {N : Tmp} (_hN : o.dst = some N) (h : wpList P ops Q (o :: rest) a W) : wpList P ops Q (o :: rest) a W := h
theorem gate_store {t : TypeId} {p : Tmp} {v : Operand} (_ho : o.op = .store t (.tmp p) v) (h : wpList P ops Q (o :: rest) a W) : wpList P ops Q (o :: rest) a W := h
end
section
variable {P : Program} {ops : Array Oper} {o : Oper} {a : Act} {Q : Exit → Act → World → Prop} {Kc : Act → World → Prop}
namespace Kd
variable {α : Type}
theorem R_append_rows_step (d : Kd α) {Rr : α → List Value → Prop} {w0 W : World} (base : Nat) (hw : Region.wanted o (yielded ops a.tmps) = true) (s x : Operand) (t e : TypeId) (z : Value) (bytes : Nat)
  (ho : o.op = .call { callee := .builtin .append, args := #[s, x], argTypes := #[t, t] })
  (ht : P.underlying t = some (.slice e)) (hinfo : (P.info? e).map (fun i => (i.zero, i.size, i.bytes)) = some (some z, d.sz, bytes)) (hz : z.cells.size = d.sz) (hs0 : 0 < d.sz) (hb0 : 0 < bytes)
  (v : Value) (xs ys : List α) (A : Option Addr) (m c : Nat) (ok okp : Nat → Prop) (hs : a.eval s = v) (hx : a.eval x = .slice A m c)
  (HO : d.R e W base ok v xs) (HR : ReadsRow Rr d.sz W A m ys) (hKM : ∀ x cs, Rr x cs → d.M W base okp x cs) (hokp : ∀ k, okp k → ok k ∧ some k ≠ v.ownBlock) (hfresh : ∀ k, W.heap.size ≤ k → ok k)
  (HB : Below base w0 W) (hbase : base ≤ W.heap.size) (hl : (xs.length + m) * bytes ≤ 140737488355328)
  (h : ∀ v1 w1, d.R e w1 base ok v1 (xs ++ ys) → Below base w0 w1 → W.grownBy w1 v.ownBlock → (v1.ownBlock = v.ownBlock ∨ ∃ b, v1.ownBlock = some b ∧ W.heap.size ≤ b) → Kc (a.put o.dst v1) w1) :
  if Region.wanted o (yielded ops a.tmps) = true then Oper.wp P o a W Kc Q else Kc (a.put o.dst undef) W := by
 obtain ⟨i0, hi, hzz⟩ := Option.map_eq_some_iff.1 hinfo
 simp only [Prod.mk.injEq] at hzz
 obtain ⟨hz0, hz1, hz2⟩ := hzz
 have hm : ys.length = m := HR.1
 have hlen : xs.length + m ≤ 140737488355328 := Nat.le_trans (Nat.le_mul_of_pos_right _ hb0) hl
 obtain ⟨hok, inner, hown, hr⟩ := HO
 have hrun : ∃ v1 w1, (Builtin.append_ #[t, t] o.type #[v, .slice A m c]).run P W = .ok v1 w1 ∧ d.R e w1 base ok v1 (xs ++ ys) ∧ W.grownBy w1 v.ownBlock ∧ (v1.ownBlock = v.ownBlock ∨ ∃ b, v1.ownBlock = some b ∧ W.heap.size ≤ b) := by
  rcases A with _ | ad
  ·have h0 : m = 0 := by
    rcases Nat.eq_zero_or_pos m with h0 | h0
    ·exact h0
    ·obtain ⟨ad, h, _⟩ := HR.2.2 h0
     cases h
   subst h0
   obtain rfl : ys = [] := List.eq_nil_of_length_eq_zero hm
   refine ⟨v, W, ?_, by rw [List.append_nil]; exact ⟨hok, inner, hown, hr⟩, World.grownBy.refl W _, .inl rfl⟩
   rcases hown.2 with ⟨rfl, hn⟩ | ⟨g, cap, cur, rfl, _, _, hnc, _⟩
   ·simp [Builtin.append_, run_underlying ht, sizeOf, typeInfo, hi, Builtin.lenOf, Builtin.firstCells]
   ·simp [Builtin.append_, run_underlying ht, sizeOf, typeInfo, hi, Builtin.lenOf, Builtin.firstCells, hnc, storeCells]
  ·obtain ⟨news, hnr, hnc⟩ := ReadsRow.inner_ HR
   have hnM : Reps (d.M W base okp) d.sz ys news := hnr.imp_ (fun p c hp => hKM p c hp)
   have hone : ∀ u ∈ news, u.oneCell' = true := by
    intro u hu
    obtain ⟨q, hq, rfl⟩ := List.mem_iff_getElem.1 hu
    have hql : q / d.sz < ys.length := by
     rw [Nat.div_lt_iff_lt_mul hs0]
     rw [← hnM.1]
     exact hq
    have hc := hnM.2 (q / d.sz) _ (List.getElem?_eq_getElem hql)
    refine d.K_one (d.K_of_M hc) _ ?_
    rw [List.mem_iff_getElem?]
    refine ⟨q % d.sz, ?_⟩
    rw [List.getElem?_take, if_pos (Nat.mod_lt _ hs0), List.getElem?_drop, Nat.mul_comm, Nat.div_add_mod, List.getElem?_eq_getElem hq]
   obtain ⟨v1, w1, hrun, h2, hg, _, hat⟩ := run_append_own_at (P := P) W base t o.type e i0 z d.sz bytes ht hi hz0 hz1 hz2 hz hs0 v xs.length inner hown ad m c news (by rw [hnM.1, hm]) hnc hone (by simp only [maxLen]; omega) hl hbase
   have hat' : v1.ownBlock = v.ownBlock ∨ ∃ b, v1.ownBlock = some b ∧ W.heap.size ≤ b := by
    rcases hat with hat | hat
    ·exact .inl hat
    ·exact .inr ⟨_, hat, Nat.le_refl _⟩
   have hne : ∀ k, some k ≠ v.ownBlock → k < W.heap.size → some k ≠ v1.ownBlock := by
    intro k hk hlt
    rcases hat' with hat | ⟨b, hb, hle⟩
    ·rw [hat]; exact hk
    ·rw [hb]
     intro he
     injection he with he
     omega
   have step : ∀ {q : α} {c : List Value} {o : Nat → Prop}, d.M W base o q c → (∀ k, o k → ok k ∧ some k ≠ v.ownBlock) → d.M w1 base (fun k => ok k ∧ some k ≠ v1.ownBlock) q c := by
    intro q c o hq ho
    have h1 := d.M_move (w1 := w1) (fun k hk => hg.block k hk.2.2.1 (ho k hk.1).2) (d.M_bound hq)
    exact d.M_mono (fun k hk => ⟨(ho k hk.1).1, hne k (ho k hk.1).2 hk.2.2.1⟩) h1
   refine ⟨v1, w1, hrun, ⟨fun k hk => ?_, inner ++ news, by rw [List.length_append, hm]; exact h2, reps_append (hr.imp_ (fun _ _ hq => step hq (fun _ hk => hk))) (hnM.imp_ (fun _ _ hq => step hq hokp))⟩, hg, hat'⟩
   rcases hat' with hat | ⟨b, hb, hle⟩
   ·exact hok k (hat ▸ hk)
   ·rw [hb] at hk
    injection hk with hk
    exact hfresh k (by omega)
 obtain ⟨v1, w1, hr1, h1, hg, hat⟩ := hrun
 rw [if_pos hw]
 unfold Oper.wp execOp
 simp only [ho, resolve, invoke, builtin, Sem.run_bind, Sem.run_pure, Result.andThen_ok, List.map_toArray, List.map_cons, List.map_nil, hs, hx, hr1]
 exact h v1 w1 h1 (HB.grown hg hbase (own_base hown)) hg hat
end Kd
end
section
variable {P : Program} {tmps : Array Value} {w : World}
end
namespace Kd
section
variable {P : Program} {α : Type}
end
section
variable {P : Program} {ops : Array Oper} {rest : List Oper} {o : Oper} {a : Act} {Q : Exit → Act → World → Prop} {Kc : Act → World → Prop} {α : Type}
end
end Kd
end Go.Proofs.YtffkgndghbdgnaaGreatW.PrintWords
namespace Go.Proofs.YtffkgndghbdgnaaGreatW.PrintLast
section
variable {P : Program} {ops : Array Oper} {Q : Exit → Act → World → Prop} {md : Region.Mode} {S : World → Prop} {ds : List Nat}
def Region.reachB (md : Region.Mode) (ops : Array Oper) (i : Nat) : Nat → Nat → Bool
 | 0, _ => false
 | fuel + 1, d => match ops[d]? with
  | some o => o.after.any fun e => Region.binds md e && (e.on == i || Region.reachB md ops i fuel e.on)
  | none => false
def Region.closedB (md : Region.Mode) (ops : Array Oper) (listed : Array Bool) : Bool :=
 (List.range ops.size).all fun j => !listed.getD j false || match ops[j]? with
  | some o => o.after.all fun e => !Region.binds md e || listed.getD e.on false
  | none => true
def Region.lastB (md : Region.Mode) (ops : Array Oper) (listed : Array Bool) (ds : List Nat) (i : Nat) : Bool :=
 ds.all fun d => listed.getD d true || Region.reachB md ops i ops.size d
def ListedClosed (md : Region.Mode) (ops : Array Oper) (listed : Array Bool) : Prop :=
 ∀ j oj, ops[j]? = some oj → listed.getD j false = true → ∀ e ∈ oj.after, Region.binds md e = true → listed.getD e.on false = true
theorem Region.closedB_spec {listed : Array Bool} (h : Region.closedB md ops listed = true) : ListedClosed md ops listed := by
 intro j oj hj hl e he hb
 have hlt : j < ops.size := (Array.getElem?_eq_some_iff.1 hj).1
 have h1 := List.all_eq_true.1 h j (List.mem_range.2 hlt)
 simp only [hl, hj, Bool.not_true, Bool.false_or] at h1
 have h2 := Array.all_eq_true_iff_forall_mem.1 h1 e he
 simpa [hb] using h2
theorem ListedClosed.set {listed : Array Bool} {i : Nat} (h : ListedClosed md ops listed) (hi : i ∈ Region.ready md ops listed) : ListedClosed md ops (listed.setIfInBounds i true) := by
 obtain ⟨_, oi, hoi, hall⟩ := mem_ready.1 hi
 intro j oj hj hl e he hb
 by_cases hij : i = j
 ·subst hij
  have : oj = oi := Option.some.inj (hj.symm.trans hoi)
  subst this
  exact getD_set_true (hall e he hb)
 ·rw [getD_set_ne false hij] at hl
  exact getD_set_true (h j oj hj hl e he hb)
theorem Region.reach_listed {listed : Array Bool} {i : Nat} (hc : ListedClosed md ops listed) : ∀ (fuel d : Nat), Region.reachB md ops i fuel d = true → listed.getD d false = true → listed.getD i false = true
 | 0, _, h, _ => by simp [Region.reachB] at h
 | fuel + 1, d, h, hl => by
  unfold Region.reachB at h
  cases ho : ops[d]? with
  | none => rw [ho] at h; simp at h
  | some o =>
   rw [ho] at h
   obtain ⟨e, he, h1⟩ := Array.any_eq_true'.1 h
   simp only [Bool.and_eq_true, Bool.or_eq_true, beq_iff_eq] at h1
   have hle := hc d o ho hl e he h1.1
   rcases h1.2 with h2 | h2
   ·rw [← h2]; exact hle
   ·exact Region.reach_listed hc fuel e.on h2 hle
theorem Region.reach_not_ready {listed : Array Bool} {i d fuel : Nat} (hc : ListedClosed md ops listed) (hr : Region.reachB md ops i fuel d = true) (hun : listed.getD i true = false) : d ∉ Region.ready md ops listed := by
 intro hd
 obtain ⟨_, o, ho, hall⟩ := mem_ready.1 hd
 have hi : listed.getD i false = true := by
  cases fuel with
  | zero => simp [Region.reachB] at hr
  | succ n =>
   unfold Region.reachB at hr
   rw [ho] at hr
   obtain ⟨e, he, h1⟩ := Array.any_eq_true'.1 hr
   simp only [Bool.and_eq_true, Bool.or_eq_true, beq_iff_eq] at h1
   have hle := hall e he h1.1
   rcases h1.2 with h2 | h2
   ·rw [← h2]; exact hle
   ·exact Region.reach_listed hc n e.on h2 hle
 rcases Nat.lt_or_ge i listed.size with h' | h'
 ·simp [h'] at hun hi
  rw [hun] at hi
  cases hi
 ·simp [Array.getElem?_eq_none h'] at hun
def wpAnyLast (P : Program) (md : Region.Mode) (ops : Array Oper) (Q : Exit → Act → World → Prop) (S : World → Prop) (ds : List Nat) : Nat → Array Bool → Act → World → Prop
 | 0, listed, a, w => Region.ready md ops listed = [] ∧ Q .normal a w
 | fuel + 1, listed, a, w =>
  (Region.ready md ops listed = [] → Q .normal a w) ∧
  ∀ i ∈ Region.ready md ops listed, wpOp P ops Q i (fun a' w' => (i ∉ ds → S w → S w') ∧ wpAnyLast P md ops Q S ds fuel (listed.setIfInBounds i true) a' w') a w
theorem wpAny_of_last : ∀ (fuel : Nat) (listed : Array Bool) (a : Act) (w : World), wpAnyLast P md ops Q S ds fuel listed a w → wpAny P md ops Q fuel listed a w
 | 0, _, _, _, h => h
 | fuel + 1, _, _, _, h => ⟨h.1, fun i hi => wpOp_mono (fun a' w' h' => wpAny_of_last fuel _ a' w' h'.2) (h.2 i hi)⟩
theorem wpAnyLast_first {i : Nat} {oi : Oper} {v : Value} (hi : ops[i]? = some oi) (hsel : ∀ (j : Nat) (o : Oper) cs b, ops[j]? = some o → o.op ≠ .select cs b)
  (hQ : ∀ c a w, Q (.panic c) (a.put oi.dst v) w → Q (.panic c) a w) (n : Nat) :
  ∀ (fuel : Nat) (listed : Array Bool) (a : Act) (w : World),
   (∀ j oj, ops[j]? = some oj → j ≠ i → listed.getD j true = false → (∀ e ∈ oj.after, Region.binds md e = true → e.on ≠ i) → oi.apart ops oj = true) →
   ListedClosed md ops listed → (∀ d ∈ ds, listed.getD d true = false → Region.reachB md ops i n d = true) →
   i ∈ Region.ready md ops listed → YieldsIf P ops S oi v a → S w →
   wpAnyLast P md ops Q S ds fuel (listed.setIfInBounds i true) (a.put oi.dst v) w → wpAnyLast P md ops Q S ds (fuel + 1) listed a w := by
 intro fuel
 induction fuel with
 | zero =>
  intro listed a w _ _ _ hr hy hS H
  refine ⟨fun h => (by rw [h] at hr; cases hr), fun j hj => ?_⟩
  by_cases hji : j = i
  ·subst hji; exact hy.wpOp hi hS ⟨fun _ h => h, H⟩
  ·have := ready_mono hj hji
   rw [H.1] at this
   cases this
 | succ fuel ih =>
  intro listed a w hfree hc hd hr hy hS H
  refine ⟨fun h => (by rw [h] at hr; cases hr), fun j hj => ?_⟩
  by_cases hji : j = i
  ·subst hji; exact hy.wpOp hi hS ⟨fun _ h => h, H⟩
  ·have h1 := H.2 j (ready_mono hj hji)
   obtain ⟨hjun, oj, hoj, hall⟩ := mem_ready.1 hj
   have hiun := (mem_ready.1 hr).1
   have hnot : ∀ e ∈ oj.after, Region.binds md e = true → e.on ≠ i := fun e he hb heq => by
    have h1 := hall e he hb
    rw [heq] at h1
    rcases Nat.lt_or_ge i listed.size with h' | h'
    ·simp [h'] at hiun h1; rw [hiun] at h1; cases h1
    ·simp [Array.getElem?_eq_none h'] at h1
   have hjd : j ∉ ds := fun hm => Region.reach_not_ready hc (hd j hm hjun) hiun hj
   have h2 := wpOp_putIf hoj (hfree j oj hoj hji hjun hnot) (fun cs b => hsel i oi cs b hi) (fun cs b => hsel j oj cs b hoj) hQ hy h1
   have hfree' : ∀ k ok, ops[k]? = some ok → k ≠ i → (listed.setIfInBounds j true).getD k true = false →
     (∀ e ∈ ok.after, Region.binds md e = true → e.on ≠ i) → oi.apart ops ok = true := fun k ok hk hki hun hno => by
    refine hfree k ok hk hki ?_ hno
    by_cases hjk : j = k
    ·subst hjk; exact hjun
    ·rw [getD_set_ne true hjk] at hun; exact hun
   have hd' : ∀ d ∈ ds, (listed.setIfInBounds j true).getD d true = false → Region.reachB md ops i n d = true := fun d hm hun => by
    refine hd d hm ?_
    by_cases hjk : j = d
    ·subst hjk; exact hjun
    ·rw [getD_set_ne true hjk] at hun; exact hun
   refine wpOp_mono (fun a' w' h3 => ⟨h3.2.1, ih (listed.setIfInBounds j true) a' w' hfree' (hc.set hj) hd' (ready_mono hr (Ne.symm hji)) h3.1 (h3.2.1 hjd hS) ?_⟩) h2
   rw [Array.setIfInBounds_comm _ _ hji]
   exact h3.2.2
theorem wpAnyLast_any {i : Nat} {oi : Oper} {v : Value} (hi : ops[i]? = some oi) (hsel : ∀ (j : Nat) (o : Oper) cs b, ops[j]? = some o → o.op ≠ .select cs b)
  (hQ : ∀ c a w, Q (.panic c) (a.put oi.dst v) w → Q (.panic c) a w) :
  ∀ (fuel : Nat) (listed : Array Bool) (a : Act) (w : World),
   (∀ j oj, ops[j]? = some oj → j ≠ i → listed.getD j true = false → (∀ e ∈ oj.after, Region.binds md e = true → e.on ≠ i) → oi.apart ops oj = true) →
   i ∈ Region.ready md ops listed → Yields P ops oi v a →
   wpAnyLast P md ops Q S ds fuel (listed.setIfInBounds i true) (a.put oi.dst v) w → wpAnyLast P md ops Q S ds (fuel + 1) listed a w := by
 intro fuel
 induction fuel with
 | zero =>
  intro listed a w _ hr hy H
  refine ⟨fun h => (by rw [h] at hr; cases hr), fun j hj => ?_⟩
  by_cases hji : j = i
  ·subst hji; exact (hy.yieldsIf (S := fun _ => True)).wpOp hi trivial ⟨fun _ h => h, H⟩
  ·have := ready_mono hj hji
   rw [H.1] at this
   cases this
 | succ fuel ih =>
  intro listed a w hfree hr hy H
  refine ⟨fun h => (by rw [h] at hr; cases hr), fun j hj => ?_⟩
  by_cases hji : j = i
  ·subst hji; exact (hy.yieldsIf (S := fun _ => True)).wpOp hi trivial ⟨fun _ h => h, H⟩
  ·have h1 := H.2 j (ready_mono hj hji)
   obtain ⟨hjun, oj, hoj, hall⟩ := mem_ready.1 hj
   have hiun := (mem_ready.1 hr).1
   have hnot : ∀ e ∈ oj.after, Region.binds md e = true → e.on ≠ i := fun e he hb heq => by
    have h1 := hall e he hb
    rw [heq] at h1
    rcases Nat.lt_or_ge i listed.size with h' | h'
    ·simp [h'] at hiun h1; rw [hiun] at h1; cases h1
    ·simp [Array.getElem?_eq_none h'] at h1
   have h2 := wpOp_put hoj (hfree j oj hoj hji hjun hnot) (fun cs b => hsel i oi cs b hi) (fun cs b => hsel j oj cs b hoj) hQ hy h1
   have hfree' : ∀ k ok, ops[k]? = some ok → k ≠ i → (listed.setIfInBounds j true).getD k true = false →
     (∀ e ∈ ok.after, Region.binds md e = true → e.on ≠ i) → oi.apart ops ok = true := fun k ok hk hki hun hno => by
    refine hfree k ok hk hki ?_ hno
    by_cases hjk : j = k
    ·subst hjk; exact hjun
    ·rw [getD_set_ne true hjk] at hun; exact hun
   refine wpOp_mono (fun a' w' h3 => ⟨h3.2.1, ih (listed.setIfInBounds j true) a' w' hfree' (ready_mono hr (Ne.symm hji)) h3.1 ?_⟩) h2
   rw [Array.setIfInBounds_comm _ _ hji]
   exact h3.2.2
theorem wpAnyLast_take {i : Nat} {oi : Oper} {v : Value} {fuel : Nat} {listed : Array Bool} {a : Act} {w : World} (hi : ops[i]? = some oi)
  (hs : Region.noSelect ops = true) (hf : Region.free md ops listed i = true) (hr : (Region.ready md ops listed).contains i = true)
  (hc : Region.closedB md ops listed = true) (hl : Region.lastB md ops listed ds i = true)
  (hQ : ∀ c a w, Q (.panic c) (a.put oi.dst v) w → Q (.panic c) a w) (hy : YieldsIf P ops S oi v a) (hS : S w)
  (h : wpAnyLast P md ops Q S ds fuel (listed.setIfInBounds i true) (a.put oi.dst v) w) : wpAnyLast P md ops Q S ds (fuel + 1) listed a w :=
 wpAnyLast_first hi (Region.noSelect_spec hs) hQ ops.size fuel listed a w (Region.free_spec hi hf) (Region.closedB_spec hc)
  (fun d hm hun => by have := List.all_eq_true.1 hl d hm; rw [hun] at this; simpa using this) (by simpa using hr) hy hS h
theorem wpAnyLast_all {rs : List Nat} {fuel : Nat} {listed : Array Bool} {a : Act} {w : World} (hr : Region.ready md ops listed = rs) (hne : rs ≠ [])
  (h : ∀ i ∈ rs, wpOp P ops Q i (fun a' w' => (i ∉ ds → S w → S w') ∧ wpAnyLast P md ops Q S ds fuel (listed.setIfInBounds i true) a' w') a w) : wpAnyLast P md ops Q S ds (fuel + 1) listed a w :=
 ⟨fun h0 => absurd (hr ▸ h0) hne, hr ▸ h⟩
theorem wpAnyLast_done {listed : Array Bool} {a : Act} {w : World} (hr : Region.ready md ops listed = []) (h : Q .normal a w) :
  ∀ fuel, wpAnyLast P md ops Q S ds fuel listed a w
 | 0 => ⟨hr, h⟩
 | _ + 1 => ⟨fun _ => h, by rw [hr]; simp⟩
theorem wp_region_last {id : Nat} {a : Act} {w : World} (hm : P.follows .mixedOrders = true)
  (h : wpAnyLast P .any ops Q S ds ops.size (Array.replicate ops.size false) a { w with drawn := w.drawn + 1 }) : (Code.region id ops true).wp P Q a w :=
 wp_region_any hm (wpAny_of_last _ _ _ _ h)
end
section
variable {P : Program} {ops : Array Oper} {Q : Exit → Act → World → Prop} {md : Region.Mode} {S : World → Prop} {ds : List Nat}
def AllReadyL (P : Program) (md : Region.Mode) (ops : Array Oper) (Q : Exit → Act → World → Prop) (S : World → Prop) (ds : List Nat) (fuel : Nat) (listed : Array Bool) (a : Act) (w : World) (rs : List Nat) : Prop :=
 ∀ i ∈ rs, wpOp P ops Q i (fun a' w' => (i ∉ ds → S w → S w') ∧ wpAnyLast P md ops Q S ds fuel (listed.setIfInBounds i true) a' w') a w
theorem AllReadyL.nil {fuel : Nat} {listed : Array Bool} {a : Act} {w : World} : AllReadyL P md ops Q S ds fuel listed a w [] := fun _ h => by cases h
theorem AllReadyL.cons {fuel : Nat} {listed : Array Bool} {a : Act} {w : World} {i : Nat} {o : Oper} {rs : List Nat} (ho : ops[i]? = some o) (hd : i ∉ ds)
  (h : ∀ K' : Act → World → Prop, Shut (∀ a w, S w → (S w → wpAnyLast P md ops Q S ds fuel (listed.setIfInBounds i true) a w) → K' a w) → if Region.wanted o (yielded ops a.tmps) = true then Oper.wp P o a w K' Q else K' (a.put o.dst undef) w)
  (hs : AllReadyL P md ops Q S ds fuel listed a w rs) : AllReadyL P md ops Q S ds fuel listed a w (i :: rs) := fun j hj => by
 rcases List.mem_cons.1 hj with rfl | hj
 ·exact wpOp_step ho (fun K' hK => h K' (fun a w hS hW => hK a w ⟨fun _ _ => hS, hW hS⟩))
 ·exact hs j hj
theorem wpAnyLast_ready {rs : List Nat} {fuel : Nat} {listed : Array Bool} {a : Act} {w : World} (hr : Region.ready md ops listed = rs) (hne : rs ≠ [])
  (h : AllReadyL P md ops Q S ds fuel listed a w rs) : wpAnyLast P md ops Q S ds (fuel + 1) listed a w := wpAnyLast_all hr hne h
theorem start_ {id n : Nat} {a : Act} {w : World} (l : Array Bool) (hm : P.follows .mixedOrders = true) (hn : ops.size = n) (hl : Array.replicate n false = l) (hS : S w.drew)
  (h : S w.drew → wpAnyLast P .any ops Q S ds n l a w.drew) : (Code.region id ops true).wp P Q a w := by
 subst hn
 subst hl
 exact wp_region_last hm (h hS)
def takeB (md : Region.Mode) (ops : Array Oper) (ds : List Nat) (l l' : Array Bool) (i : Nat) : Bool :=
 Region.noSelect ops && Region.free md ops l i && (Region.ready md ops l).contains i && Region.closedB md ops l && Region.lastB md ops l ds i && (l.setIfInBounds i true == l')
theorem take_ {i : Nat} {N : Option Tmp} {oi : Oper} {v : Value} {fuel : Nat} {l : Array Bool} {a : Act} {w : World} (l' : Array Bool) (hi : ops[i]? = some oi) (hN : oi.dst = N) (hc : takeB md ops ds l l' i = true)
  (hQ : ∀ c a w, Q (.panic c) (a.put oi.dst v) w → Q (.panic c) a w) (hy : YieldsIf P ops S oi v a) (hS : S w) {a' : Act} (ha : a.put N v = a')
  (h : wpAnyLast P md ops Q S ds fuel l' a' w) : wpAnyLast P md ops Q S ds (fuel + 1) l a w := by
 subst ha
 subst hN
 simp only [takeB, Bool.and_eq_true, beq_iff_eq] at hc
 obtain ⟨⟨⟨⟨⟨h1, h2⟩, h3⟩, h4⟩, h5⟩, h6⟩ := hc
 subst h6
 exact wpAnyLast_take hi h1 h2 h3 h4 h5 hQ hy hS h
def anyB (md : Region.Mode) (ops : Array Oper) (l l' : Array Bool) (i : Nat) : Bool :=
 Region.noSelect ops && Region.free md ops l i && (Region.ready md ops l).contains i && (l.setIfInBounds i true == l')
theorem pure_ {i : Nat} {N : Option Tmp} {oi : Oper} {v : Value} {fuel : Nat} {l : Array Bool} {a : Act} {w : World} (l' : Array Bool) (hi : ops[i]? = some oi) (hN : oi.dst = N) (hc : anyB md ops l l' i = true)
  (hQ : ∀ c a w, Q (.panic c) (a.put oi.dst v) w → Q (.panic c) a w) (hy : Yields P ops oi v a) {a' : Act} (ha : a.put N v = a')
  (h : wpAnyLast P md ops Q S ds fuel l' a' w) : wpAnyLast P md ops Q S ds (fuel + 1) l a w := by
 subst ha
 subst hN
 simp only [anyB, Bool.and_eq_true, beq_iff_eq] at hc
 obtain ⟨⟨⟨h1, h2⟩, h3⟩, h6⟩ := hc
 subst h6
 exact wpAnyLast_any hi (Region.noSelect_spec h1) hQ fuel l a w (Region.free_spec hi h2) (by simpa using h3) hy h
def readyB (md : Region.Mode) (ops : Array Oper) (l l' : Array Bool) (i : Nat) : Bool := (Region.ready md ops l == [i]) && (l.setIfInBounds i true == l')
theorem one_ {i : Nat} {N : Option Tmp} {oi : Oper} {fuel : Nat} {l : Array Bool} {a : Act} {w : World} (l' : Array Bool) (hi : ops[i]? = some oi) (hN : oi.dst = N) (hc : readyB md ops l l' i = true) (hd : i ∉ ds)
  (h : ∀ K : Act → World → Prop, Shut (∀ a' w', S w' → (S w' → wpAnyLast P md ops Q S ds fuel l' a' w') → K a' w') → if Region.wanted oi (yielded ops a.tmps) = true then Oper.wp P oi a w K Q else K (a.put N undef) w) :
  wpAnyLast P md ops Q S ds (fuel + 1) l a w := by
 subst hN
 simp only [readyB, Bool.and_eq_true, beq_iff_eq] at hc
 obtain ⟨h1, h2⟩ := hc
 subst h2
 exact wpAnyLast_ready h1 (by simp) (AllReadyL.cons hi hd (fun K hK => h K hK) AllReadyL.nil)
theorem done_ {l : Array Bool} {a : Act} {w : World} {n : Nat} (hr : (Region.ready md ops l == []) = true) (h : Q .normal a w) : wpAnyLast P md ops Q S ds n l a w := wpAnyLast_done (by simpa using hr) h n
theorem two_ {i j : Nat} {Ni Nj : Option Tmp} {oi oj : Oper} {fuel : Nat} {l : Array Bool} {a : Act} {w : World} (li lj : Array Bool) (hi : ops[i]? = some oi) (hj : ops[j]? = some oj) (hNi : oi.dst = Ni) (hNj : oj.dst = Nj)
  (hc : (Region.ready md ops l == [i, j] && l.setIfInBounds i true == li && l.setIfInBounds j true == lj) = true) (hdi : i ∉ ds) (hdj : j ∉ ds)
  (h1 : ∀ K : Act → World → Prop, Shut (∀ a' w', S w' → (S w' → wpAnyLast P md ops Q S ds fuel li a' w') → K a' w') → if Region.wanted oi (yielded ops a.tmps) = true then Oper.wp P oi a w K Q else K (a.put Ni undef) w)
  (h2 : ∀ K : Act → World → Prop, Shut (∀ a' w', S w' → (S w' → wpAnyLast P md ops Q S ds fuel lj a' w') → K a' w') → if Region.wanted oj (yielded ops a.tmps) = true then Oper.wp P oj a w K Q else K (a.put Nj undef) w) :
  wpAnyLast P md ops Q S ds (fuel + 1) l a w := by
 subst hNi
 subst hNj
 simp only [Bool.and_eq_true, beq_iff_eq] at hc
 obtain ⟨⟨h3, h4⟩, h5⟩ := hc
 subst h4
 subst h5
 exact wpAnyLast_ready h3 (by simp) (AllReadyL.cons hi hdi (fun K hK => h1 K hK) (AllReadyL.cons hj hdj (fun K hK => h2 K hK) AllReadyL.nil))
def putAll : Act → List (Tmp × Value) → Act
 | a, [] => a
 | a, (n, v) :: r => putAll (a.put (some n) v) r
theorem join_ {σ : Type} {fuel : Nat} {l : Array Bool} {a : Act} {w : World} (fuel' : Nat) (l' : Array Bool) (ns : σ → List (Tmp × Value)) (F : σ → World → Prop)
  (hcont : ∀ s w', F s w' → wpAnyLast P md ops Q S ds fuel' l' (putAll a (ns s)) w')
  (h : (∀ s w', F s w' → wpAnyLast P md ops Q S ds fuel' l' (putAll a (ns s)) w') → wpAnyLast P md ops Q S ds fuel l a w) : wpAnyLast P md ops Q S ds fuel l a w := h hcont
theorem norm_ {fuel : Nat} {l : Array Bool} {a a' : Act} {w : World} (ha : a = a') (h : wpAnyLast P md ops Q S ds fuel l a' w) : wpAnyLast P md ops Q S ds fuel l a w := by
 subst ha
 exact h
theorem call_ {oi : Oper} {N : Option Tmp} {a : Act} {w : World} {K : Act → World → Prop} (f : FuncId) (args : Array Value) (hw : Region.wanted oi (yielded ops a.tmps) = true) (hN : oi.dst = N) (hrun : (execOp a.eval oi).run P w = .ok (.enter f args) w)
  (h : Calls P f args w fun e w' => ∃ v, e = .returned v ∧ K (a.put N v) w') : if Region.wanted oi (yielded ops a.tmps) = true then Oper.wp P oi a w K Q else K (a.put N undef) w := by
 rw [if_pos hw]
 subst hN
 unfold Oper.wp
 rw [hrun, Oper.upon_enter]
 refine h.mono fun e w'' hh => ?_
 obtain ⟨v, rfl, hk⟩ := hh
 exact hk
theorem enters_ {f : FuncId} {fn : Func} (hf : P.funcs[f]? = some fn) (hname : (fn.name == "runtime.NumGoroutine") = false) (hb : fn.body.isSome = true) (args : Array Value) (w : World) : (callFunc f args).run P w = .ok (.enter f args) w := by
 have h1 : fn.name ≠ "runtime.NumGoroutine" := by simpa using hname
 obtain ⟨c, hc⟩ := Option.isSome_iff_exists.1 hb
 simp [callFunc, hf, h1, hc]
theorem goes_ {oi : Oper} {N : Option Tmp} {a : Act} {w : World} {K : Act → World → Prop} {f : FuncId} {fn : Func} {as : Array Operand} {ts : Array TypeId} (hf : P.funcs[f]? = some fn) (hname : (fn.name == "runtime.NumGoroutine") = false) (hb : fn.body.isSome = true) (args : Array Value)
  (hw : Region.wanted oi (yielded ops a.tmps) = true) (hN : oi.dst = N) (hop : oi.op = .call { callee := .value (.func f), args := as, argTypes := ts }) (hargs : as.map a.eval = args)
  (h : Calls P f args w fun e w' => ∃ v, e = .returned v ∧ K (a.put N v) w') : if Region.wanted oi (yielded ops a.tmps) = true then Oper.wp P oi a w K Q else K (a.put N undef) w := by
 refine call_ f args hw hN ?_ h
 have he := enters_ hf hname hb args w
 unfold execOp
 simp [hop, resolve, Deferred.ofValue, invoke, Act.eval, hargs, he]
theorem goesL_ {rest : List Oper} {oi : Oper} {a : Act} {w : World} (N : Option Tmp) (hd : oi.dst = N) (hg : oi.guard = none) {f : FuncId} {fn : Func} {as : Array Operand} {ts : Array TypeId} (hf : P.funcs[f]? = some fn) (hname : (fn.name == "runtime.NumGoroutine") = false) (hb : fn.body.isSome = true) (args : Array Value)
  (hop : oi.op = .call { callee := .value (.func f), args := as, argTypes := ts }) (hargs : as.map a.eval = args)
  (h : Calls P f args w fun e w' => ∃ v, e = .returned v ∧ wpList P ops Q rest (a.put N v) w') : wpList P ops Q (oi :: rest) a w := by
 refine wpList_plain hg fun K hK => ?_
 have he := enters_ hf hname hb args w
 have hrun : (execOp a.eval oi).run P w = .ok (.enter f args) w := by
  unfold execOp
  simp [hop, resolve, Deferred.ofValue, invoke, Act.eval, hargs, he]
 unfold Oper.wp
 rw [hrun, Oper.upon_enter]
 refine h.mono fun e w'' hh => ?_
 obtain ⟨v, rfl, hk⟩ := hh
 subst hd
 exact hK _ _ hk
theorem i64_w (n : Int) : IntKind.i64.wrap n = Go.RowKit.wrap64 n := by unfold Go.RowKit.wrap64; exact IntKind.wrap_i64 n
theorem i32_w (n : Int) : IntKind.i32.wrap n = Go.RowKit.wrap32 n := by unfold Go.RowKit.wrap32; exact IntKind.wrap_i32 n
end
end Go.Proofs.YtffkgndghbdgnaaGreatW.PrintLast
namespace Go.Proofs.YtffkgndghbdgnaaGreatW.PrintLast
open Go.Proofs.YtffkgndghbdgnaaGreatW.PrintWords (Aside0)
def needsOf (md : Region.Mode) (o : Oper) : List Nat := (o.after.toList.filter (fun e => Region.binds md e)).map (fun e => e.on)
def clashOf (md : Region.Mode) (ops : Array Oper) (i : Nat) (oi : Oper) : List Nat := (List.range ops.size).filter fun j => !(j == i) && match ops[j]? with
 | some oj => !(oj.after.any (fun e => Region.binds md e && e.on == i) || oi.apart ops oj)
 | none => false
def rtab (md : Region.Mode) (ops : Array Oper) : Bool × List (List Nat × List Nat) := (Region.noSelect ops, (List.range ops.size).map fun i => match ops[i]? with
 | some o => (needsOf md o, clashOf md ops i o)
 | none => ([], []))
def readyAt (T : List (List Nat × List Nat)) (l : List Bool) (i : Nat) : Bool := !l.getD i true && match T[i]? with
 | some r => r.1.all (fun j => l.getD j false)
 | none => false
def readyT (T : List (List Nat × List Nat)) (l : List Bool) : List Nat := (List.range T.length).filter (readyAt T l)
def freeT (T : List (List Nat × List Nat)) (l : List Bool) (i : Nat) : Bool := match T[i]? with
 | some r => r.2.all (fun j => l.getD j true)
 | none => false
def closedT (T : List (List Nat × List Nat)) (l : List Bool) : Bool := (List.range T.length).all fun j => !l.getD j false || match T[j]? with
 | some r => r.1.all (fun k => l.getD k false)
 | none => true
def reachT (T : List (List Nat × List Nat)) (i : Nat) : Nat → Nat → Bool
 | 0, _ => false
 | fuel + 1, d => match T[d]? with
  | some r => r.1.any fun j => j == i || reachT T i fuel j
  | none => false
def lastT (T : List (List Nat × List Nat)) (l : List Bool) (ds : List Nat) (i : Nat) : Bool := ds.all fun d => l.getD d true || reachT T i T.length d
section
variable {md : Region.Mode} {ops : Array Oper} {T : Bool × List (List Nat × List Nat)} {l l' li lj lk : Array Bool} {ds : List Nat} {i j k : Nat}
theorem gd (l : Array Bool) (j : Nat) (b : Bool) : l.getD j b = l.toList.getD j b := by simp [Array.getD_eq_getD_getElem?, List.getD_eq_getElem?_getD]
theorem needs_all (o : Oper) (p : Nat → Bool) : o.after.all (fun e => !Region.binds md e || p e.on) = (needsOf md o).all p := by
 unfold needsOf
 rw [← Array.all_toList]
 induction o.after.toList with
 | nil => rfl
 | cons e r ih =>
  rw [List.all_cons, ih, List.filter_cons]
  cases h : Region.binds md e <;> simp
theorem needs_any (o : Oper) (p : Nat → Bool) : o.after.any (fun e => Region.binds md e && p e.on) = (needsOf md o).any p := by
 unfold needsOf
 rw [← Array.any_toList]
 induction o.after.toList with
 | nil => rfl
 | cons e r ih =>
  rw [List.any_cons, ih, List.filter_cons]
  cases h : Region.binds md e <;> simp
theorem rtab_length : (rtab md ops).2.length = ops.size := by simp [rtab]
theorem rtab_some {o : Oper} (h : ops[i]? = some o) : (rtab md ops).2[i]? = some (needsOf md o, clashOf md ops i o) := by
 have hi := (Array.getElem?_eq_some_iff.1 h).1
 unfold rtab
 rw [List.getElem?_map, List.getElem?_range hi, Option.map_some, h]
theorem rtab_none (h : ops[i]? = none) : (rtab md ops).2[i]? = none := by
 have hi : ops.size ≤ i := Array.getElem?_eq_none_iff.1 h
 exact List.getElem?_eq_none (by rw [rtab_length]; exact hi)
theorem readyAt_eq : readyAt (rtab md ops).2 l.toList i = (!l.getD i true && ((ops[i]?).map (·.after.all fun e => !Region.binds md e || l.getD e.on false)).getD false) := by
 unfold readyAt
 rw [gd]
 cases h : ops[i]? with
 | none => rw [rtab_none h]; rfl
 | some o =>
  rw [rtab_some h]
  simp only [Option.map_some, Option.getD_some]
  rw [← needs_all]
  simp only [gd]
theorem ready_eq : Region.ready md ops l = readyT (rtab md ops).2 l.toList := by
 unfold Region.ready readyT
 rw [rtab_length]
 refine List.filter_congr (fun i _ => ?_)
 rw [readyAt_eq]
theorem free_eq : Region.free md ops l i = freeT (rtab md ops).2 l.toList i := by
 unfold Region.free freeT
 cases h : ops[i]? with
 | none => rw [rtab_none h]
 | some oi =>
  rw [rtab_some h]
  simp only [clashOf]
  rw [List.all_filter]
  congr 1
  funext j
  rw [gd]
  cases hj : ops[j]? with
  | none => cases (j == i) <;> cases (l.toList.getD j true) <;> simp
  | some oj =>
   cases (j == i) <;> cases (l.toList.getD j true) <;> cases (oj.after.any (fun e => Region.binds md e && e.on == i) || oi.apart ops oj) <;> simp_all
theorem closed_eq : Region.closedB md ops l = closedT (rtab md ops).2 l.toList := by
 unfold Region.closedB closedT
 rw [rtab_length]
 congr 1
 funext j
 rw [gd]
 cases h : ops[j]? with
 | none => rw [rtab_none h]
 | some o =>
  rw [rtab_some h]
  simp only
  rw [← needs_all]
  simp only [gd]
theorem reach_eq : ∀ (fuel d : Nat), Region.reachB md ops i fuel d = reachT (rtab md ops).2 i fuel d
 | 0, _ => rfl
 | fuel + 1, d => by
  unfold Region.reachB reachT
  cases h : ops[d]? with
  | none => rw [rtab_none h]
  | some o =>
   rw [rtab_some h]
   simp only
   rw [← needs_any]
   congr 1
   funext e
   rw [reach_eq fuel]
theorem last_eq : Region.lastB md ops l ds i = lastT (rtab md ops).2 l.toList ds i := by
 unfold Region.lastB lastT
 rw [rtab_length]
 congr 1
 funext d
 rw [gd, reach_eq]
theorem readyAt_mem (h : readyAt T.2 l.toList i = true) (hT : rtab md ops = T) : (Region.ready md ops l).contains i = true := by
 subst hT
 rw [ready_eq]
 unfold readyT
 rw [List.contains_iff_mem, List.mem_filter, List.mem_range]
 refine ⟨?_, h⟩
 unfold readyAt at h
 rw [Bool.and_eq_true] at h
 cases hq : (rtab md ops).2[i]? with
 | none => rw [hq] at h; simp at h
 | some r => exact (List.getElem?_eq_some_iff.1 hq).1
theorem set_of (h : (l.toList.set i true == l'.toList) = true) : (l.setIfInBounds i true == l') = true := by
 rw [beq_iff_eq] at h ⊢
 apply Array.ext'
 rw [Array.toList_setIfInBounds]
 exact h
def anyT (T : Bool × List (List Nat × List Nat)) (l l' : List Bool) (i : Nat) : Bool := T.1 && freeT T.2 l i && readyAt T.2 l i && (l.set i true == l')
theorem any_of (hT : rtab md ops = T) (h : anyT T l.toList l'.toList i = true) : anyB md ops l l' i = true := by
 simp only [anyT, Bool.and_eq_true] at h
 obtain ⟨⟨⟨h1, h2⟩, h3⟩, h4⟩ := h
 have h5 := readyAt_mem h3 hT
 have h6 := set_of h4
 subst hT
 simp only [anyB, Bool.and_eq_true]
 exact ⟨⟨⟨h1, by rw [free_eq]; exact h2⟩, h5⟩, h6⟩
def takeT (T : Bool × List (List Nat × List Nat)) (ds : List Nat) (l l' : List Bool) (i : Nat) : Bool := T.1 && freeT T.2 l i && readyAt T.2 l i && closedT T.2 l && lastT T.2 l ds i && (l.set i true == l')
theorem take_of (hT : rtab md ops = T) (h : takeT T ds l.toList l'.toList i = true) : takeB md ops ds l l' i = true := by
 simp only [takeT, Bool.and_eq_true] at h
 obtain ⟨⟨⟨⟨⟨h1, h2⟩, h3⟩, h4⟩, h5⟩, h6⟩ := h
 have h7 := readyAt_mem h3 hT
 have h8 := set_of h6
 subst hT
 simp only [takeB, Bool.and_eq_true]
 exact ⟨⟨⟨⟨⟨h1, by rw [free_eq]; exact h2⟩, h7⟩, by rw [closed_eq]; exact h4⟩, by rw [last_eq]; exact h5⟩, h8⟩
theorem one_of (hT : rtab md ops = T) (h : (readyT T.2 l.toList == [i] && l.toList.set i true == l'.toList) = true) : readyB md ops l l' i = true := by
 simp only [Bool.and_eq_true] at h
 obtain ⟨h1, h2⟩ := h
 subst hT
 simp only [readyB, Bool.and_eq_true]
 exact ⟨by rw [ready_eq]; exact h1, set_of h2⟩
theorem two_of (hT : rtab md ops = T) (h : (readyT T.2 l.toList == [i, j] && l.toList.set i true == li.toList && l.toList.set j true == lj.toList) = true) : (Region.ready md ops l == [i, j] && l.setIfInBounds i true == li && l.setIfInBounds j true == lj) = true := by
 simp only [Bool.and_eq_true] at h ⊢
 obtain ⟨⟨h1, h2⟩, h3⟩ := h
 subst hT
 exact ⟨⟨by rw [ready_eq]; exact h1, set_of h2⟩, set_of h3⟩
theorem done_of (hT : rtab md ops = T) (h : (readyT T.2 l.toList == []) = true) : (Region.ready md ops l == []) = true := by
 subst hT
 rw [ready_eq]
 exact h
def upM (B : List Nat) (d : Nat) : List Nat → Nat
 | [] => 0
 | n :: r => (2 ^ n ||| (if n < d then B.getD n 0 else 0)) ||| upM B d r
def waitsOk (T : List (List Nat × List Nat)) (B : List Nat) : Bool := (List.range T.length).all fun d => match T[d]? with
 | some r => (B.getD d 0 ||| upM B d r.1) == upM B d r.1
 | none => false
theorem upM_bit {B : List Nat} {d i : Nat} : ∀ {ns : List Nat}, (upM B d ns).testBit i = true → ∃ n ∈ ns, n = i ∨ (n < d ∧ (B.getD n 0).testBit i = true)
 | [], h => by simp [upM] at h
 | n :: r, h => by
  unfold upM at h
  rw [Nat.testBit_or, Nat.testBit_or, Bool.or_eq_true, Bool.or_eq_true] at h
  rcases h with (h | h) | h
  ·rw [Nat.testBit_two_pow] at h
   exact ⟨n, List.mem_cons_self, .inl (by simpa using h)⟩
  ·by_cases hn : n < d
   ·rw [if_pos hn] at h
    exact ⟨n, List.mem_cons_self, .inr ⟨hn, h⟩⟩
   ·rw [if_neg hn] at h
    simp at h
  ·obtain ⟨m, hm, h2⟩ := upM_bit h
   exact ⟨m, List.mem_cons_of_mem _ hm, h2⟩
theorem reach_bit {T : List (List Nat × List Nat)} {B : List Nat} (hB : waitsOk T B = true) : ∀ (fuel d : Nat), d < fuel → d < T.length → (B.getD d 0).testBit i = true → reachT T i fuel d = true
 | 0, d, h, _, _ => by omega
 | fuel + 1, d, h, hd, hb => by
  have h1 := List.all_eq_true.1 hB d (List.mem_range.2 hd)
  cases hr : T[d]? with
  | none => rw [hr] at h1; simp at h1
  | some r =>
   rw [hr] at h1
   simp only [beq_iff_eq] at h1
   have h2 : (upM B d r.1).testBit i = true := by rw [← h1, Nat.testBit_or, hb, Bool.true_or]
   obtain ⟨n, hn, h3⟩ := upM_bit h2
   unfold reachT
   rw [hr]
   simp only
   rw [List.any_eq_true]
   refine ⟨n, hn, ?_⟩
   rcases h3 with rfl | ⟨h4, h5⟩
   ·simp
   ·rw [reach_bit hB fuel n (by omega) (by omega) h5, Bool.or_true]
def lastW (T : List (List Nat × List Nat)) (B : List Nat) (l : List Bool) (ds : List Nat) (i : Nat) : Bool := ds.all fun d => l.getD d true || (decide (d < T.length) && (B.getD d 0).testBit i)
def takeW (T : Bool × List (List Nat × List Nat)) (B : List Nat) (ds : List Nat) (l l' : List Bool) (i : Nat) : Bool := T.1 && freeT T.2 l i && readyAt T.2 l i && closedT T.2 l && lastW T.2 B l ds i && (l.set i true == l')
theorem take_ofW {B : List Nat} (hT : rtab md ops = T) (hB : waitsOk T.2 B = true) (h : takeW T B ds l.toList l'.toList i = true) : takeB md ops ds l l' i = true := by
 refine take_of hT ?_
 simp only [takeW, takeT, Bool.and_eq_true] at h ⊢
 obtain ⟨⟨⟨⟨⟨h1, h2⟩, h3⟩, h4⟩, h5⟩, h6⟩ := h
 refine ⟨⟨⟨⟨⟨h1, h2⟩, h3⟩, h4⟩, ?_⟩, h6⟩
 unfold lastW at h5
 unfold lastT
 rw [List.all_eq_true] at h5 ⊢
 intro d hd
 have h7 := h5 d hd
 rw [Bool.or_eq_true, Bool.and_eq_true, decide_eq_true_eq] at h7
 rcases h7 with h7 | ⟨h8, h9⟩
 ·rw [h7, Bool.true_or]
 ·rw [reach_bit hB _ d h8 h8 h9, Bool.or_true]
theorem with_tabW {P : Program} {Q : Exit → Act → World → Prop} {S : World → Prop} {n : Nat} {a : Act} {w : World} {B : List Nat} (hT : rtab md ops = T) (hB : waitsOk T.2 B = true) (h : Aside0 (rtab md ops = T) → Aside0 (waitsOk T.2 B = true) → wpAnyLast P md ops Q S ds n l a w) : wpAnyLast P md ops Q S ds n l a w := h ⟨hT⟩ ⟨hB⟩
end
def opsIn : Code → Nat → Option (Array Oper)
 | .region id ops _, k => if id == k then some ops else none
 | .seq a b, k => match opsIn a k with
  | some o => some o
  | none => opsIn b k
 | .cond _ a b, k => match opsIn a k with
  | some o => some o
  | none => opsIn b k
 | .block _ c, k => opsIn c k
 | .loop c, k => opsIn c k
 | .scope c, k => opsIn c k
 | .rangeFunc _ _ a b, k => match opsIn a k with
  | some o => some o
  | none => opsIn b k
 | _, _ => none
def opsOf (f : Func) (k : Nat) : Array Oper := ((f.body.bind fun c => opsIn c k)).getD #[]
end Go.Proofs.YtffkgndghbdgnaaGreatW.PrintLast
namespace Go.Proofs.YtffkgndghbdgnaaGreatW.PrintWords
open Go.RowKit
namespace Kd
section
variable {α : Type} {d : Kd α} {e base g o n cap : Nat} {ok okp : Nat → Prop} {w W : World} {v : Value} {xs : List α}
end
section
variable {α : Type} {enc : α → Value} {h1 : ∀ x, (enc x).oneCell' = true} {e base g o n cap : Nat} {ok : Nat → Prop} {W : World} {xs : List α}
end
end Kd
end Go.Proofs.YtffkgndghbdgnaaGreatW.PrintWords
namespace Go.Proofs.YtffkgndghbdgnaaGreatW.PrintWords
open Go.RowKit
namespace Kd
def tag {α : Type} (f : Nat → Nat) (d : Kd α) : Kd (α × Nat) where
 sz := d.sz
 E := d.E
 K := fun w x cs => d.K w x.1 cs
 M := fun w base ok x cs => d.M w base (fun k => ok k ∧ f k = x.2) x.1 cs
 K_len := fun h => d.K_len h
 K_one := fun h => d.K_one h
 K_below := fun hb h => d.K_below hb h
 K_of_M := fun h => d.K_of_M h
 M_mono := fun hok h => d.M_mono (fun k hk => ⟨hok k hk.1, hk.2⟩) h
 M_bound := fun h => d.M_mono (fun _ hk => ⟨⟨hk.1.1, hk.2⟩, hk.1.2⟩) (d.M_bound h)
 M_move := fun hm h => d.M_move (fun k hk => hm k hk.1) h
 M_lower := fun hb h => d.M_lower hb h
def bare {α : Type} (d : Kd α) : Kd α where
 sz := d.sz
 E := d.E
 K := d.K
 M := fun w base _ x cs => d.M w base (fun _ => False) x cs
 K_len := fun h => d.K_len h
 K_one := fun h => d.K_one h
 K_below := fun hb h => d.K_below hb h
 K_of_M := fun h => d.K_of_M h
 M_mono := fun _ h => h
 M_bound := fun h => h
 M_move := fun _ h => d.M_move (fun _ hk => hk.elim) h
 M_lower := fun hb h => d.M_lower hb h
def raw (sz : Nat) : Kd (List Value) where
 sz := sz
 E := []
 K := fun _ x cs => cs = x ∧ cs.length = sz ∧ ∀ u ∈ cs, u.oneCell' = true
 M := fun _ _ _ x cs => cs = x ∧ cs.length = sz ∧ ∀ u ∈ cs, u.oneCell' = true
 K_len := fun h => h.2.1
 K_one := fun h => h.2.2
 K_below := fun _ h => h
 K_of_M := fun h => h
 M_mono := fun _ h => h
 M_bound := fun h => h
 M_move := fun _ h => h
 M_lower := fun _ h => h
def S {α : Type} (d : Kd α) (e : Nat) (w : World) (base : Nat) (ok : Nat → Prop) (v : Value) (xs : List α) : Prop := ∃ f, (tag f d).R e w base ok v xs.zipIdx
section
variable {α β : Type} {d : Kd α} {d' : Kd β} {e e' : Nat} {w w1 W : World} {base b : Nat} {ok ok' okv oku : Nat → Prop} {u v : Value} {xs : List α} {ys : List β}
theorem zip_at {xs : List α} {j : Nat} {p : α} (h : xs[j]? = some p) : xs.zipIdx[j]? = some (p, j) := by rw [List.getElem?_zipIdx, h, Nat.zero_add]; rfl
theorem S_R (h : S d e w base ok v xs) : d.R e w base ok v xs := by
 obtain ⟨f, h0, inner, ho, hr⟩ := h
 rw [List.length_zipIdx] at ho
 exact ⟨h0, inner, ho, by have := hr.1; rw [List.length_zipIdx] at this; exact this, fun j p hj => d.M_mono (fun _ hk => hk.1) (hr.2 j (p, j) (zip_at hj))⟩
theorem R_tight (hE : d.E = []) (h : d.R e w base ok v xs) : d.R e w base (fun k => some k = v.ownBlock) v xs := by
 obtain ⟨h0, inner, ho, hr⟩ := h
 refine ⟨fun k hk => hk.symm, inner, ho, hr.imp_ (fun p c hp => d.M_mono (fun k hk => ?_) (d.M_bound hp))⟩
 obtain ⟨_, _, _, q, hq, _⟩ := hk
 rw [hE] at hq
 cases hq
theorem S_mono (h : S d e w base ok v xs) (hok : ∀ k, ok k → ok' k) : S d e w base ok' v xs := by
 obtain ⟨f, h⟩ := h
 exact ⟨f, R_mono h hok⟩
theorem S_bound (h : S d e w base ok v xs) : S d e w base (fun k => ok k ∧ base ≤ k ∧ k < w.heap.size ∧ ∃ q, q ∈ e :: d.E ∧ ∃ cells, w.heap[k]? = some (.cells cells q (0, 0))) v xs := by
 obtain ⟨f, h⟩ := h
 exact ⟨f, R_bound h⟩
theorem S_move (h : S d e w base ok v xs) (hm : ∀ k, ok k → w1.heap[k]? = w.heap[k]?) : S d e w1 base ok v xs := by
 obtain ⟨f, h⟩ := h
 exact ⟨f, R_move h hm⟩
theorem S_lower {base' : Nat} (h : S d e w base ok v xs) (hb : base' ≤ base) : S d e w base' ok v xs := by
 obtain ⟨f, h⟩ := h
 exact ⟨f, R_lower h hb⟩
theorem S_step (h : S d e w base ok v xs) (hm : ∀ k, ok k → k < w.heap.size → w1.heap[k]? = w.heap[k]?) : S d e w1 base ok v xs :=
 S_mono (S_move (S_bound h) (fun k hk => hm k hk.1 hk.2.2.1)) (fun _ hk => hk.1)
theorem S_below (h : S d e w base ok v xs) (hb : Below w.heap.size w w1) : S d e w1 base ok v xs := S_step h (fun k _ hk => hb.block k hk)
theorem S_alloc (h : S d e w base ok v xs) (o : Obj) : S d e (w.alloc o) base ok v xs := S_below h (below_alloc (Below.refl _ _) o)
theorem S_drew (h : S d e w base ok v xs) : S d e w.drew base ok v xs := S_below h (below_drew (Below.refl _ _))
theorem S_drewN (h : S d e w base ok v xs) (m : Nat) : S d e (w.drewN m) base ok v xs := S_below h (pw_below_drewN (Below.refl _ _) m)
theorem S_typed (h : S d e w base ok v xs) : ∀ k, v.ownBlock = some k → ∃ cells, w.heap[k]? = some (.cells cells e (0, 0)) := R_typed (S_R h)
theorem S_elder' (h : S d e W base ok u xs) (hbase : ∀ k, v.ownBlock = some k → W.heap.size ≤ k) (hb : Below W.heap.size W w1) : S d e w1 base (fun k => ok k ∧ some k ≠ v.ownBlock) u xs := by
 obtain ⟨f, h⟩ := h
 exact ⟨f, R_elder' h hbase hb⟩
theorem S_bare (h : (bare d).R e w base ok v xs) : S d e w base ok v xs := by
 obtain ⟨h0, inner, ho, hr⟩ := h
 refine ⟨fun _ => 0, h0, inner, by rw [List.length_zipIdx]; exact ho, by rw [List.length_zipIdx]; exact hr.1, fun j p hj => ?_⟩
 rw [List.getElem?_zipIdx, Nat.zero_add] at hj
 obtain ⟨x, hx, rfl⟩ := Option.map_eq_some_iff.1 hj
 exact d.M_mono (fun _ hk => hk.elim) (hr.2 j x hx)
end
section
variable {α β : Type} {d : Kd α} {d' : Kd β} {e e' g : Nat} {w w1 W : World} {base b : Nat} {ok ok' okv oku : Nat → Prop} {u v : Value} {xs : List α} {ys : List β}
theorem S_form (h : S d e w base ok v xs) (hp : 0 < xs.length) : ∃ g cap, v = .slice (some ⟨g, 0, none⟩) xs.length cap ∧ base ≤ g ∧ g < w.heap.size ∧ ∃ cells, w.heap[g]? = some (.cells cells e (0, 0)) := R_form (S_R h) hp
theorem S_slice (h : S d e w base ok v xs) : ∃ A c, v = .slice A xs.length c := R_slice (S_R h)
theorem S_reads' {A : Option Addr} {n c : Nat} (h : S d e w base ok (.slice A n c) xs) : n = xs.length ∧ n ≤ c ∧ d.C w A xs.length xs := R_reads' (S_R h)
end
section
variable {P : Program} {ops : Array Oper} {rest : List Oper} {o : Oper} {a : Act} {Q : Exit → Act → World → Prop} {Kc : Act → World → Prop} {α : Type}
theorem S_make (d : Kd α) {w0 W : World} (base e : Nat) (hgd : o.guard = none) {N : Tmp} (hd : o.dst = some N) (t : TypeId) (x y : Operand) (ho : o.op = .makeSlice t x y) (n : Int) (hx : a.eval x = .int .i64 n) (hy : a.eval y = .int .i64 n)
  (ht : P.underlying t = some (.slice e)) (z : Value) (bytes : Nat) (hinfo : (P.info? e).map (fun i => (i.zero, i.size, i.bytes)) = some (some z, d.sz, bytes)) (hz : z.cells.size = d.sz) (hs0 : 0 < d.sz) (hb0 : 0 < bytes)
  (z0 : α) {ok okp : Nat → Prop} (hzero : d.M W base (fun _ => False) z0 z.cells.toList) (_hok : ∀ k, okp k → ok k) (hfresh : ok W.heap.size) (h0 : 0 ≤ n) (hl : n.toNat * bytes ≤ 281474976710656) (HB : Below base w0 W) (hbase : base ≤ W.heap.size)
  (h : ∀ v1 w1, S d e w1 base ok v1 (List.replicate n.toNat z0) → Below base w0 w1 → W.grownBy w1 none → (∃ b, v1.ownBlock = some b ∧ W.heap.size ≤ b) → wpList P ops Q rest (a.put o.dst v1) w1) : wpList P ops Q (o :: rest) a W :=
 R_make (bare d) base e hgd hd t x y ho n hx hy ht z bytes hinfo hz hs0 hb0 z0 (ok := ok) (okp := ok) hzero (fun _ hk => hk) hfresh h0 hl HB hbase (fun v1 w1 hr => h v1 w1 (S_bare hr))
end
def gap {α : Type} (f : Nat → Nat) (d : Kd α) (i : Nat) (c : List Value) : Kd (α × Nat) where
 sz := d.sz
 E := d.E
 K := fun w x cs => (x.2 = i → cs = c ∧ cs.length = d.sz ∧ ∀ u ∈ cs, u.oneCell' = true) ∧ (x.2 ≠ i → d.K w x.1 cs)
 M := fun w base ok x cs => (x.2 = i → cs = c ∧ cs.length = d.sz ∧ ∀ u ∈ cs, u.oneCell' = true) ∧ (x.2 ≠ i → d.M w base (fun k => ok k ∧ f k = x.2) x.1 cs)
 K_len := fun {w x cs} h => by
  by_cases hx : x.2 = i
  ·exact (h.1 hx).2.1
  ·exact d.K_len (h.2 hx)
 K_one := fun {w x cs} h => by
  by_cases hx : x.2 = i
  ·exact (h.1 hx).2.2
  ·exact d.K_one (h.2 hx)
 K_below := fun hb h => ⟨h.1, fun hx => d.K_below hb (h.2 hx)⟩
 K_of_M := fun h => ⟨h.1, fun hx => d.K_of_M (h.2 hx)⟩
 M_mono := fun hok h => ⟨h.1, fun hx => d.M_mono (fun k hk => ⟨hok k hk.1, hk.2⟩) (h.2 hx)⟩
 M_bound := fun h => ⟨h.1, fun hx => d.M_mono (fun _ hk => ⟨⟨hk.1.1, hk.2⟩, hk.1.2⟩) (d.M_bound (h.2 hx))⟩
 M_move := fun hm h => ⟨h.1, fun hx => d.M_move (fun k hk => hm k hk.1) (h.2 hx)⟩
 M_lower := fun hb h => ⟨h.1, fun hx => d.M_lower hb (h.2 hx)⟩
def H {α : Type} (d : Kd α) (e : Nat) (w : World) (base : Nat) (ok : Nat → Prop) (v : Value) (xs : List α) (i : Int) (oki : Nat → Prop) (c : List Value) : Prop :=
 (∀ k, oki k → ok k) ∧ ∃ f, (gap f d i.toNat c).R e w base (fun k => ok k ∧ ¬ oki k) v xs.zipIdx
section
variable {α β : Type} {d : Kd α} {e e' g n cap : Nat} {w w1 W : World} {base : Nat} {ok ok' oki okp : Nat → Prop} {u v : Value} {xs : List α} {i : Int} {c : List Value}
theorem S_lend (h : S d e W base ok (.slice (some ⟨g, 0, none⟩) n cap) xs) (z : α) (i : Int) (h0 : 0 ≤ i) (h1 : i < n) :
  ∃ (oki : Nat → Prop) (c : List Value), c.length = d.sz ∧ d.M W base oki (xs.getD i.toNat z) c ∧ (∀ j u, c[j]? = some u → W.cell? ⟨g, i.toNat * d.sz + j, none⟩ = some u) ∧ (∀ k, oki k → ok k ∧ k ≠ g) ∧ H d e W base ok (.slice (some ⟨g, 0, none⟩) n cap) xs i oki c := by
 obtain ⟨f, hR⟩ := h
 have hn := (R_reads' hR).1
 rw [List.length_zipIdx] at hn
 have hgo : some g = (Value.slice (some ⟨g, 0, none⟩) n cap).ownBlock := by simp [Value.ownBlock]
 obtain ⟨hok0, inner, ho, hr⟩ := hR
 have hil : i.toNat < xs.length := by omega
 have hlen : inner.length = xs.length * d.sz := by have := hr.1; rw [List.length_zipIdx] at this; exact this
 have hseg : i.toNat * d.sz + d.sz ≤ inner.length := by rw [hlen, ← Nat.succ_mul]; exact Nat.mul_le_mul_right _ hil
 have hM := hr.2 i.toNat _ (zip_at (List.getElem?_eq_getElem hil))
 have hkg : ∀ k, some k ≠ (Value.slice (some ⟨g, 0, none⟩) n cap).ownBlock → k ≠ g := fun k hk he => hk (by rw [he]; exact hgo)
 refine ⟨fun k => (ok k ∧ k ≠ g) ∧ f k = i.toNat, (inner.drop (i.toNat * d.sz)).take d.sz, by rw [List.length_take, List.length_drop]; omega, ?_, fun j u hu => ?_, fun k hk => hk.1, fun k hk => hk.1.1, f, fun k hk => ⟨hok0 k hk, fun h2 => h2.1.2 ?_⟩, inner, ho, hr.1, fun m p hm => ?_⟩
 ·rw [List.getD_eq_getElem?_getD, List.getElem?_eq_getElem hil]
  exact d.M_mono (fun k hk => ⟨⟨hk.1.1, hkg k hk.1.2⟩, hk.2⟩) hM
 ·rw [List.getElem?_take] at hu
  split at hu
  ·rw [List.getElem?_drop] at hu
   have := ho.cells (g := g) hgo.symm _ u hu
   rwa [add_plain] at this
  ·cases hu
 ·rw [← hgo] at hk; injection hk with hk; exact hk.symm
 ·have hold := hr.2 m p hm
  have hp2 : p.2 = m := by
   rw [List.getElem?_zipIdx, Nat.zero_add] at hm
   obtain ⟨q, _, rfl⟩ := Option.map_eq_some_iff.1 hm
   rfl
  refine ⟨fun hx => ?_, fun hx => d.M_mono (fun k hk => ⟨⟨⟨hk.1.1, fun h2 => hx ?_⟩, hk.1.2⟩, hk.2⟩) hold⟩
  ·have hmi : m = i.toNat := by omega
   subst hmi
   exact ⟨rfl, d.K_len (d.K_of_M hM), d.K_one (d.K_of_M hM)⟩
  ·rw [← hk.2]; exact h2.2
open Classical in
theorem H_back (h : H d e w base ok v xs i oki c) {x' : α} (hM : d.M w base okp x' c) (hok : ∀ k, okp k → oki k) : S d e w base ok v (xs.set i.toNat x') := by
 obtain ⟨ho, f, h0, inner, hown, hr⟩ := h
 refine ⟨fun k => if oki k then i.toNat else f k, fun k hk => (h0 k hk).1, inner, by rw [List.length_zipIdx, List.length_set]; rw [List.length_zipIdx] at hown; exact hown, by have := hr.1; rw [List.length_zipIdx] at this; rw [List.length_zipIdx, List.length_set]; exact this, fun m p hm => ?_⟩
 rw [List.getElem?_zipIdx, Nat.zero_add] at hm
 obtain ⟨q, hq, rfl⟩ := Option.map_eq_some_iff.1 hm
 have hml : m < xs.length := by
  have := (List.getElem?_eq_some_iff.1 hq).1
  rwa [List.length_set] at this
 by_cases hmi : m = i.toNat
 ·subst hmi
  rw [List.getElem?_set_self hml] at hq
  injection hq with hq
  subst hq
  have hc := ((hr.2 i.toNat _ (zip_at (List.getElem?_eq_getElem hml))).1 rfl).1
  show d.M w base _ x' ((inner.drop (i.toNat * d.sz)).take d.sz)
  rw [show (inner.drop (i.toNat * d.sz)).take d.sz = c from hc]
  exact d.M_mono (fun k hk => ⟨⟨ho k (hok k hk), fun he => (h0 k he.symm).2 (hok k hk)⟩, if_pos (hok k hk)⟩) hM
 ·rw [List.getElem?_set_ne (Ne.symm hmi)] at hq
  exact d.M_mono (fun k hk => ⟨⟨hk.1.1.1, hk.1.2⟩, (if_neg hk.1.1.2).trans hk.2⟩) ((hr.2 m (q, m) (zip_at hq)).2 hmi)
theorem H_more {okg : Nat → Prop} (h : H d e w base (fun k => ok k ∧ ¬ okg k) v xs i oki c) (hg : ∀ k, okg k → ok k) : H d e w base ok v xs i (fun k => oki k ∨ okg k) c := by
 obtain ⟨ho, f, h⟩ := h
 exact ⟨fun k hk => hk.elim (fun h2 => (ho k h2).1) (hg k), f, R_mono h (fun k hk => ⟨hk.1.1, fun h2 => h2.elim hk.2 hk.1.2⟩)⟩
theorem S_elem (h : S d e W base ok (.slice (some ⟨g, 0, none⟩) n cap) xs) (z : α) (i : Int) (h0 : 0 ≤ i) (h1 : i < n) :
  ∃ (oki : Nat → Prop) (c : List Value), c.length = d.sz ∧ d.M W base oki (xs.getD i.toNat z) c ∧ (∀ j u, c[j]? = some u → W.cell? ⟨g, i.toNat * d.sz + j, none⟩ = some u) ∧ (∀ j, W.frozen? ⟨g, i.toNat * d.sz + j, none⟩ = false) ∧ (∀ k, oki k → ok k ∧ k ≠ g) ∧ H d e W base ok (.slice (some ⟨g, 0, none⟩) n cap) xs i oki c := by
 obtain ⟨_, _, _, _, hfr⟩ := R_elem (S_R h) z i h0 h1
 obtain ⟨oki, c, hcl, hM, hcc, hoki, hH⟩ := S_lend h z i h0 h1
 exact ⟨oki, c, hcl, hM, hcc, hfr, hoki, hH⟩
theorem H_raw (h : H d e W base ok (.slice (some ⟨g, 0, none⟩) n cap) xs i oki c) (h0 : 0 ≤ i) (h1 : i < n) :
  ∃ rows : List (List Value), rows.length = xs.length ∧ (raw d.sz).R e W base (fun _ => True) (.slice (some ⟨g, 0, none⟩) n cap) rows ∧ c.length = d.sz ∧ (∀ u ∈ c, u.oneCell' = true) ∧ (∀ j u, c[j]? = some u → W.cell? ⟨g, i.toNat * d.sz + j, none⟩ = some u) ∧
   ∀ w1 c', W.grownBy w1 (some g) → (raw d.sz).R e w1 base (fun _ => True) (.slice (some ⟨g, 0, none⟩) n cap) (rows.set i.toNat c') → H d e w1 base ok (.slice (some ⟨g, 0, none⟩) n cap) xs i oki c' := by
 obtain ⟨hoo, f, hR⟩ := h
 have hn := (R_reads' hR).1
 rw [List.length_zipIdx] at hn
 have hgo : some g = (Value.slice (some ⟨g, 0, none⟩) n cap).ownBlock := by simp [Value.ownBlock]
 obtain ⟨hok0, inner, ho, hr⟩ := hR
 have hil : i.toNat < xs.length := by omega
 have hlen : inner.length = xs.length * d.sz := by have := hr.1; rw [List.length_zipIdx] at this; exact this
 have hkg : ∀ k, some k ≠ (Value.slice (some ⟨g, 0, none⟩) n cap).ownBlock → k ≠ g := fun k hk he => hk (by rw [he]; exact hgo)
 have hci := (hr.2 i.toNat _ (zip_at (List.getElem?_eq_getElem hil))).1 rfl
 rw [hci.1] at hci
 have hc := ((hr.2 i.toNat _ (zip_at (List.getElem?_eq_getElem hil))).1 rfl).1
 refine ⟨(List.range xs.length).map fun j => (inner.drop (j * d.sz)).take d.sz, by rw [List.length_map, List.length_range], ⟨fun _ _ => trivial, inner, ?_, ?_, fun j p hj => ?_⟩, hci.2.1, hci.2.2, fun j u hu => ?_, fun w1 c' hg hraw => ?_⟩
 ·rw [List.length_map, List.length_range]; rw [List.length_zipIdx] at ho; exact ho
 ·rw [List.length_map, List.length_range]; exact hlen
 ·rw [List.getElem?_map] at hj
  obtain ⟨j', hj', rfl⟩ := Option.map_eq_some_iff.1 hj
  obtain ⟨hl, he⟩ := List.getElem?_eq_some_iff.1 hj'
  rw [List.getElem_range] at he
  subst he
  rw [List.length_range] at hl
  have hm := (gap f d i.toNat c).K_of_M (hr.2 j _ (zip_at (List.getElem?_eq_getElem hl)))
  exact ⟨rfl, (gap f d i.toNat c).K_len hm, (gap f d i.toNat c).K_one hm⟩
 ·rw [← hc, List.getElem?_take] at hu
  split at hu
  ·rw [List.getElem?_drop] at hu
   have := ho.cells (g := g) hgo.symm _ u hu
   rwa [add_plain] at this
  ·cases hu
 ·obtain ⟨_, inner', ho', hr'⟩ := hraw
  have hl' : inner'.length = xs.length * d.sz := by have := hr'.1; rw [List.length_set, List.length_map, List.length_range] at this; exact this
  rw [List.length_set, List.length_map, List.length_range] at ho'
  refine ⟨hoo, f, hok0, inner', by rw [List.length_zipIdx]; exact ho', by rw [List.length_zipIdx]; exact hl', fun m p hm => ?_⟩
  rw [List.getElem?_zipIdx, Nat.zero_add] at hm
  obtain ⟨q, hq, rfl⟩ := Option.map_eq_some_iff.1 hm
  have hml : m < xs.length := (List.getElem?_eq_some_iff.1 hq).1
  have hold := hr.2 m (q, m) (zip_at hq)
  refine ⟨fun hx => ?_, fun hx => ?_⟩
  ·have hx' : m = i.toNat := hx
   subst hx'
   exact hr'.2 i.toNat c' (List.getElem?_set_self (by rw [List.length_map, List.length_range]; exact hml))
  ·have hx' : m ≠ i.toNat := hx
   have hcm := (hr'.2 m ((inner.drop (m * d.sz)).take d.sz) (by
    rw [List.getElem?_set_ne (Ne.symm hx'), List.getElem?_map, List.getElem?_eq_getElem (by rw [List.length_range]; exact hml), List.getElem_range]
    rfl)).1
   show d.M w1 base _ q ((inner'.drop (m * d.sz)).take d.sz)
   rw [show (inner'.drop (m * d.sz)).take d.sz = _ from hcm]
   exact d.M_mono (fun k hk => hk.1) (d.M_move (w1 := w1) (fun k hk => hg.block k hk.2.2.1 (fun he => hkg k hk.1.1.2 (by injection he))) (d.M_bound (hold.2 hx)))
theorem H_seg (h : H d e W base ok (.slice (some ⟨g, 0, none⟩) n cap) xs i oki c) (h0 : 0 ≤ i) (h1 : i < n) {seg : List Value} {j : Nat} (hj : j + seg.length ≤ d.sz) (hone : ∀ q ∈ seg, q.oneCell' = true) :
  H d e (W.setCells g (i.toNat * d.sz + j) seg) base ok (.slice (some ⟨g, 0, none⟩) n cap) xs i oki (c.take j ++ seg ++ c.drop (j + seg.length)) ∧ W.grownBy (W.setCells g (i.toNat * d.sz + j) seg) (some g) := by
 obtain ⟨rows, _, hraw, hcl, hco, hcc, hback⟩ := H_raw h h0 h1
 obtain ⟨h2, h3⟩ := R_seg hraw i h0 h1 (c := c) (seg := seg) (j := j) (x' := c.take j ++ seg ++ c.drop (j + seg.length)) (okp := fun _ => False) hcl hcc hj
  ⟨rfl, by
   show (c.take j ++ seg ++ c.drop (j + seg.length)).length = d.sz
   simp only [List.length_append, List.length_take, List.length_drop]; omega, fun u hu => by
   rcases List.mem_append.1 hu with hu | hu
   ·rcases List.mem_append.1 hu with hu | hu
    ·exact hco u (List.mem_of_mem_take hu)
    ·exact hone u hu
   ·exact hco u (List.mem_of_mem_drop hu)⟩ (fun _ hk => hk.elim)
 exact ⟨hback _ _ h3 h2, h3⟩
theorem S_seg {okg : Nat → Prop} (hH : H d e W base (fun k => ok k ∧ ¬ okg k) (.slice (some ⟨g, 0, none⟩) n cap) xs i oki c) (h0 : 0 ≤ i) (h1 : i < n) {seg : List Value} {j : Nat} (hj : j + seg.length ≤ d.sz)
  {x' : α} (hM : d.M W base okp x' (c.take j ++ seg ++ c.drop (j + seg.length))) (hokp : ∀ k, okp k → oki k ∨ okg k) (hg : ∀ k, okg k → ok k ∧ k ≠ g) :
  S d e (W.setCells g (i.toNat * d.sz + j) seg) base ok (.slice (some ⟨g, 0, none⟩) n cap) (xs.set i.toNat x') ∧ W.grownBy (W.setCells g (i.toNat * d.sz + j) seg) (some g) := by
 have hne : ∀ k, oki k ∨ okg k → k ≠ g := by
  intro k hk he
  subst he
  rcases hk with hk | hk
  ·obtain ⟨_, f, hR⟩ := hH
   exact (hR.1 k (by simp [Value.ownBlock])).2 hk
  ·exact (hg k hk).2 rfl
 obtain ⟨h2, h3⟩ := H_seg (H_more hH (fun k hk => (hg k hk).1)) h0 h1 hj (fun q hq => d.K_one (d.K_of_M hM) q (List.mem_append_left _ (List.mem_append_right _ hq)))
 exact ⟨H_back h2 (M_step hM (fun k hk hlt => h3.block k hlt (fun he => hne k (hokp k hk) (by injection he)))) hokp, h3⟩
end
section
variable {P : Program} {ops : Array Oper} {rest : List Oper} {o : Oper} {a : Act} {Q : Exit → Act → World → Prop} {α : Type}
end
end Kd
end Go.Proofs.YtffkgndghbdgnaaGreatW.PrintWords
namespace Go.Proofs.YtffkgndghbdgnaaGreatW.PrintWords
open Go.RowKit
namespace Kd
section
variable {α : Type} {n : Nat} {d : Kd α} {hs : 0 < d.sz} {w : World} {base : Nat} {ok : Nat → Prop} {xs : List α} {cs : List Value}
end
section
variable {α : Type} {n : Nat} {enc : α → Value} {h1 : ∀ x, (enc x).oneCell' = true} {hs : 0 < (scalar enc h1).sz} {w : World} {base : Nat} {ok : Nat → Prop} {xs : List α} {cs : List Value}
end
end Kd
end Go.Proofs.YtffkgndghbdgnaaGreatW.PrintWords
namespace Go.Proofs.YtffkgndghbdgnaaGreatW.PrintWords
open Go.RowKit
section
variable {P : Program}
end
namespace Kd
section
variable {P : Program} {ops : Array Oper} {rest : List Oper} {o : Oper} {a : Act} {Q : Exit → Act → World → Prop} {Kc : Act → World → Prop} {α : Type}
end
section
variable {α : Type} {d : Kd α} {e : Nat} {w : World} {base : Nat} {ok : Nat → Prop} {v : Value} {xs : List α}
end
section
variable {P : Program} {ops : Array Oper} {rest : List Oper} {o : Oper} {a : Act} {Q : Exit → Act → World → Prop} {Kc : Act → World → Prop} {α : Type}
end
end Kd
end Go.Proofs.YtffkgndghbdgnaaGreatW.PrintWords
namespace Go.Proofs.YtffkgndghbdgnaaGreatW.PrintWords
open Go.RowKit
namespace Kd
structure Heap {α : Type} (d : Kd α) : Prop where
 K : ∀ {w w1 : World} {x : α} {cs : List Value}, (∀ k, k < w.heap.size → w1.heap[k]? = w.heap[k]?) → d.K w x cs → d.K w1 x cs
theorem cell_heap {w w1 : World} (hb : ∀ k, k < w.heap.size → w1.heap[k]? = w.heap[k]?) {a : Addr} {v : Value} (h : w.cell? a = some v) : w1.cell? a = some v := by
 have := hb a.block (World.block_lt_of_cell? w a h)
 simpa [World.cell?, this] using h
theorem Heap.C {α : Type} {d : Kd α} (hd : Heap d) {w w1 : World} {A : Option Addr} {n : Nat} {xs : List α} (hb : ∀ k, k < w.heap.size → w1.heap[k]? = w.heap[k]?) (h : d.C w A n xs) : d.C w1 A n xs :=
 ⟨h.1, h.2.1, fun hn => by
  obtain ⟨ad, e, hc⟩ := h.2.2 hn
  refine ⟨ad, e, fun j p hj => ?_⟩
  obtain ⟨c, hs, hr, hcell⟩ := hc j p hj
  exact ⟨c, hs, hd.K hb hr, fun i u hu => cell_heap hb (hcell i u hu)⟩⟩
section
variable {α : Type} {d : Kd α} {e base g n c : Nat} {ok : Nat → Prop} {w w0 W : World} {A : Option Addr} {xs : List α}
end
end Kd
end Go.Proofs.YtffkgndghbdgnaaGreatW.PrintWords
namespace Go.Proofs.YtffkgndghbdgnaaGreatW.PrintWords
open Go.RowKit
def Kept (w W : World) (S : Nat → Prop) : Prop := w.heap.size ≤ W.heap.size ∧ ∀ i, i < w.heap.size → ¬ S i → W.heap[i]? = w.heap[i]?
section
variable {w W W2 : World} {S S2 S' : Nat → Prop}
theorem Kept.refl (w : World) (S : Nat → Prop) : Kept w w S := ⟨Nat.le_refl _, fun _ _ _ => rfl⟩
theorem Kept.of_below (h : Below w.heap.size w W) (S : Nat → Prop) : Kept w W S := ⟨h.size, fun i hi _ => h.block i hi⟩
theorem Kept.mono (h : Kept w W S) (hs : ∀ k, S k → S' k) : Kept w W S' := ⟨h.1, fun i hi hn => h.2 i hi (fun hk => hn (hs i hk))⟩
theorem Kept.then_ (h : Kept w W S) (k : Kept W W2 S2) (hs : ∀ k, S2 k → S k ∨ w.heap.size ≤ k) : Kept w W2 S :=
 ⟨Nat.le_trans h.1 k.1, fun i hi hn => (k.2 i (Nat.lt_of_lt_of_le hi h.1) (fun h2 => (hs i h2).elim hn (fun h3 => by omega))).trans (h.2 i hi hn)⟩
theorem Kept.below (h : Kept w W S) (hb : Below W.heap.size W W2) : Kept w W2 S := h.then_ (Kept.of_below hb (fun _ => False)) (fun _ hk => hk.elim)
theorem Kept.alloc (h : Kept w W S) (o : Obj) : Kept w (W.alloc o) S := h.below (below_alloc (Below.refl _ _) o)
theorem Kept.drew (h : Kept w W S) : Kept w W.drew S := h
theorem Kept.drewN (h : Kept w W S) (m : Nat) : Kept w (W.drewN m) S := h
theorem Kept.setCell (h : Kept w W S) {p : Addr} (hp : S p.block ∨ w.heap.size ≤ p.block) (u : Value) : Kept w (W.setCell p u) S :=
 h.then_ (S2 := fun k => k = p.block) ⟨by simp [World.setCell], fun i _ hn => Below.heap_setCell W p u i hn⟩ (fun k hk => by rw [hk]; exact hp)
end
namespace Kd
section
variable {α : Type} {d : Kd α} {e base n c : Nat} {ok oki S S2 : Nat → Prop} {w w0 W W1 W2 : World} {v : Value} {A : Option Addr} {xs : List α} {i : Int} {cs : List Value}
end
end Kd
end Go.Proofs.YtffkgndghbdgnaaGreatW.PrintWords
namespace Go.Proofs.YtffkgndghbdgnaaGreatW.PrintWords
open Go.RowKit
def Foot (P : World → Prop) (W : World) (ok : Nat → Prop) : Prop := ∀ W' : World, (∀ k, ok k → k < W.heap.size → W'.heap[k]? = W.heap[k]?) → P W'
theorem heap_lt {W W1 : World} {k : Nat} (h : W1.heap[k]? = W.heap[k]?) (hlt : k < W.heap.size) : k < W1.heap.size := by
 rw [Array.getElem?_eq_getElem hlt] at h
 exact (Array.getElem?_eq_some_iff.1 h).1
namespace Foot
variable {P Q : World → Prop} {W W1 : World} {ok ok' : Nat → Prop}
theorem mono (h : Foot P W ok) (hok : ∀ k, ok k → ok' k) : Foot P W ok' := fun W' hW => h W' (fun k hk hlt => hW k (hok k hk) hlt)
theorem step (h : Foot P W ok) (hm : ∀ k, ok k → k < W.heap.size → W1.heap[k]? = W.heap[k]?) : Foot P W1 ok := fun W' hW => h W' (fun k hk hlt => (hW k hk (heap_lt (hm k hk hlt) hlt)).trans (hm k hk hlt))
end Foot
namespace Kd
def F {α : Type} (d : Kd α) (W : World) (ok : Nat → Prop) (A : Option Addr) (n : Nat) (xs : List α) : Prop := Foot (fun W => d.C W A n xs) W ok
def FK {α : Type} (d : Kd α) (W : World) (ok : Nat → Prop) (x : α) (c : List Value) : Prop := Foot (fun W => d.K W x c) W ok
section
variable {α β : Type} {d : Kd α} {e base n n' cc g N : Nat} {ok ok' okp S : Nat → Prop} {w w0 w1 W W1 : World} {A A' : Option Addr} {u v v1 : Value} {xs : List α} {xs' : List β} {d' : Kd β} {x : α} {c : List Value}
end
end Kd
end Go.Proofs.YtffkgndghbdgnaaGreatW.PrintWords
namespace Go.Proofs.YtffkgndghbdgnaaGreatW.PrintWords
open Go.RowKit
namespace Kd
section
variable {α : Type} {d : Kd α} {e base n cc g : Nat} {ok ok' okp S : Nat → Prop} {w w1 W W1 : World} {A : Option Addr} {u v v1 : Value} {xs : List α} {x : α} {c : List Value}
def N {α : Type} (d : Kd α) (e : Nat) (w : World) (base : Nat) (ok : Nat → Prop) (v : Value) (xs : List α) : Prop :=
 (∀ k, v.ownBlock = some k → ok k) ∧ ∃ rows : List (List Value), rows.length = xs.length ∧ (raw d.sz).R e w base (fun k => some k = v.ownBlock) v rows ∧ ∀ (j : Nat) (x : α) (c : List Value), xs[j]? = some x → rows[j]? = some c → FK d w (fun k => ok k ∧ some k ≠ v.ownBlock) x c
end
end Kd
end Go.Proofs.YtffkgndghbdgnaaGreatW.PrintWords
namespace Go.Proofs.YtffkgndghbdgnaaGreatW.PrintWords
open Go.RowKit
namespace Kd
section
variable {α : Type} {d : Kd α} {e base n cap g : Nat} {ok ok' okp : Nat → Prop} {w w1 W : World} {v v1 : Value} {xs ys : List α}
end
section
variable {P : Program} {ops : Array Oper} {rest : List Oper} {o : Oper} {a : Act} {Q : Exit → Act → World → Prop} {Kc : Act → World → Prop} {α : Type}
end
end Kd
end Go.Proofs.YtffkgndghbdgnaaGreatW.PrintWords
namespace Go.Proofs.YtffkgndghbdgnaaGreatW.PrintMore
open Go.RowKit Go.Proofs.YtffkgndghbdgnaaGreatW.PrintWords
namespace Kd
open Go.Proofs.YtffkgndghbdgnaaGreatW.PrintWords.Kd
end Kd
namespace Kd
open Go.Proofs.YtffkgndghbdgnaaGreatW.PrintWords.Kd
section
variable {α : Type} {d : Kd α} {e base g N : Nat} {ok : Nat → Prop} {W w1 : World} {u v : Value} {xs : List α}
end
end Kd
theorem max2_int (k k' : IntKind) (x y : Int) : Builtin.max2 (.int k x) (.int k' y) = pure (.int k (if x < y then y else x)) := by simp only [Builtin.max2, gt_iff_lt]
theorem min2_int (k k' : IntKind) (x y : Int) : Builtin.min2 (.int k x) (.int k' y) = pure (.int k (if y < x then y else x)) := by simp only [Builtin.min2]
theorem max_two (ats : Array TypeId) (ty : TypeId) (a b : Value) : Builtin.max_ ats ty #[a, b] = (Builtin.max2 a b >>= fun s => pure s) := by simp only [Builtin.max_, List.foldlM_cons, List.foldlM_nil]
theorem min_two (ats : Array TypeId) (ty : TypeId) (a b : Value) : Builtin.min_ ats ty #[a, b] = (Builtin.min2 a b >>= fun s => pure s) := by simp only [Builtin.min_, List.foldlM_cons, List.foldlM_nil]
theorem max_three (ats : Array TypeId) (ty : TypeId) (a b c : Value) : Builtin.max_ ats ty #[a, b, c] = (Builtin.max2 a b >>= fun s => Builtin.max2 s c >>= fun s => pure s) := by simp only [Builtin.max_, List.foldlM_cons, List.foldlM_nil]
theorem min_three (ats : Array TypeId) (ty : TypeId) (a b c : Value) : Builtin.min_ ats ty #[a, b, c] = (Builtin.min2 a b >>= fun s => Builtin.min2 s c >>= fun s => pure s) := by simp only [Builtin.min_, List.foldlM_cons, List.foldlM_nil]
theorem max_four (ats : Array TypeId) (ty : TypeId) (a b c d : Value) : Builtin.max_ ats ty #[a, b, c, d] = (Builtin.max2 a b >>= fun s => Builtin.max2 s c >>= fun s => Builtin.max2 s d >>= fun s => pure s) := by simp only [Builtin.max_, List.foldlM_cons, List.foldlM_nil]
theorem min_four (ats : Array TypeId) (ty : TypeId) (a b c d : Value) : Builtin.min_ ats ty #[a, b, c, d] = (Builtin.min2 a b >>= fun s => Builtin.min2 s c >>= fun s => Builtin.min2 s d >>= fun s => pure s) := by simp only [Builtin.min_, List.foldlM_cons, List.foldlM_nil]
end Go.Proofs.YtffkgndghbdgnaaGreatW.PrintMore
namespace Go.Proofs.YtffkgndghbdgnaaGreatW.PrintWords
open Go.RowKit
section
variable {P : Program} {ops : Array Oper} {rest : List Oper} {o : Oper} {a : Act} {Q : Exit → Act → World → Prop} {W : World}
theorem gate_callee {f : FuncId} {as : Array Operand} {ts : Array TypeId} (_ho : o.op = .call { callee := .value (.func f), args := as, argTypes := ts }) (h : wpList P ops Q (o :: rest) a W) : wpList P ops Q (o :: rest) a W := h
theorem gate_builtin {b : Builtin} {xs : Array Operand} {ts : Array TypeId} (_ho : o.op = .call { callee := .builtin b, args := xs, argTypes := ts }) (h : wpList P ops Q (o :: rest) a W) : wpList P ops Q (o :: rest) a W := h
end
def mx (a b : Int) : Int := if a < b then b else a
def shr (k : IntKind) (x y : Int) : Int := x / 2 ^ min y.toNat k.bits
theorem shr_small {k : IntKind} {x y j : Int} (h : shr k x y = j) (hy : y ≤ k.bits) : x / 2 ^ y.toNat = j := by rw [← h]; unfold shr; rw [Nat.min_eq_left (by omega)]
namespace Kd
section
variable {α : Type} {d : Kd α} {e base : Nat} {ok : Nat → Prop} {W w1 : World} {v : Value} {xs : List α}
end
section
variable {α : Type} {d : Kd α} {e base g n cap : Nat} {ok oki okp : Nat → Prop} {W : World} {xs : List α} {i : Int} {c : List Value}
end
section
variable {α : Type} {d : Kd α} {e base b b' g N : Nat} {ok ok1 : Nat → Prop} {W W2 w1 : World} {u v : Value} {xs ys : List α} {S : Nat → Prop}
end
end Kd
end Go.Proofs.YtffkgndghbdgnaaGreatW.PrintWords
namespace Go.Proofs.YtffkgndghbdgnaaGreatW.PrintWords
open Go.RowKit
namespace Kd
section
variable {α β : Type} {d : Kd α} {e base base' n m c g N' lo hi : Nat} {ok ok' S : Nat → Prop} {w W w1 : World} {A : Option Addr} {ad : Addr} {u v v1 : Value} {xs : List α}
end
end Kd
end Go.Proofs.YtffkgndghbdgnaaGreatW.PrintWords
namespace Go.Proofs.YtffkgndghbdgnaaGreat.Frame
open Go.RowKit Go.Proofs.YtffkgndghbdgnaaGreatW.PrintWords Go.Proofs.YtffkgndghbdgnaaGreatW.PrintLast Go.Proofs.YtffkgndghbdgnaaGreatW.PrintMore
theorem tmod_nat (n : Nat) (m : Int) : Int.tmod (n : Int) m = (n : Int) % m := Int.tmod_eq_emod_of_nonneg (Int.natCast_nonneg n)
structure Moved (T : List Nat) (M W : World) : Prop where
 size : M.heap.size ≤ W.heap.size
 blk : ∀ k, k < M.heap.size → W.heap[k]? = M.heap[k]? ∨ ∃ t, t ∈ T ∧ (∃ cs, M.heap[k]? = some (.cells cs t (0, 0))) ∧ ∃ cs, W.heap[k]? = some (.cells cs t (0, 0))
theorem Moved.refl (T : List Nat) (M : World) : Moved T M M := ⟨Nat.le_refl _, fun _ _ => .inl rfl⟩
theorem Moved.trans {T : List Nat} {a b c : World} (h : Moved T a b) (k : Moved T b c) : Moved T a c := by
 refine ⟨Nat.le_trans h.size k.size, fun i hi => ?_⟩
 rcases k.blk i (Nat.lt_of_lt_of_le hi h.size) with h2 | ⟨t, ht, ⟨cs, h2⟩, h3⟩
 ·rcases h.blk i hi with h1 | ⟨t, ht, h4, ⟨cs, h5⟩⟩
  ·exact .inl (h2.trans h1)
  ·exact .inr ⟨t, ht, h4, cs, h2.trans h5⟩
 ·rcases h.blk i hi with h1 | ⟨t', ht', h4, ⟨cs', h5⟩⟩
  ·exact .inr ⟨t, ht, ⟨cs, h1 ▸ h2⟩, h3⟩
  ·rw [h5] at h2
   injection h2 with h2
   injection h2 with _ h2
   subst h2
   exact .inr ⟨t', ht', h4, h3⟩
theorem Moved.below {T : List Nat} {a b : World} (h : Below a.heap.size a b) : Moved T a b := ⟨h.size, fun k hk => .inl (h.block k hk)⟩
theorem R_moved {α : Type} {d : Kd α} {e base : Nat} {ok : Nat → Prop} {v : Value} {xs : List α} {T : List Nat} {M W : World} (h : d.R e M base ok v xs) (hm : Moved T M W) (ht : ∀ q, q ∈ e :: d.E → q ∉ T) : d.R e W base ok v xs := by
 refine Kd.R_mono (Kd.R_move (Kd.R_bound h) (fun k hk => ?_)) (fun _ hk => hk.1)
 obtain ⟨_, _, hlt, q, hq, cells, hc⟩ := hk
 rcases hm.blk k hlt with h1 | ⟨t, htT, ⟨cs, h2⟩, _⟩
 ·exact h1
 ·rw [hc] at h2
  injection h2 with h2
  injection h2 with _ h2
  subst h2
  exact absurd htT (ht _ hq)
abbrev Blk := Nat × List Value × Nat
structure Fr (T : List Nat) (w W : World) (L : List Blk) (Ms : List World) : Prop where
 below : Below w.heap.size w W
 blk : ∀ b, b ∈ L → W.heap[b.1]? = some (.cells b.2.1.toArray b.2.2 (0, 0)) ∧ w.heap.size ≤ b.1 ∧ b.2.2 ∈ T
 nd : L.Pairwise fun x y => x.1 ≠ y.1
 mv : ∀ M, M ∈ Ms → Moved T M W
inductive At : List Blk → Nat → List Value → Nat → List Value → List Blk → Prop
 | head {g : Nat} {cs : List Value} {t : Nat} {cs' : List Value} {L : List Blk} : At ((g, cs, t) :: L) g cs t cs' ((g, cs', t) :: L)
 | tail {b : Blk} {L L' : List Blk} {g : Nat} {cs : List Value} {t : Nat} {cs' : List Value} : At L g cs t cs' L' → At (b :: L) g cs t cs' (b :: L')
theorem At.mem {L L' : List Blk} {g t : Nat} {cs cs' : List Value} (h : At L g cs t cs' L') : (g, cs, t) ∈ L := by
 induction h with
 | head => exact List.mem_cons_self
 | tail _ ih => exact List.mem_cons_of_mem _ ih
theorem At.or {L L' : List Blk} {g t : Nat} {cs cs' : List Value} (h : At L g cs t cs' L') : ∀ b, b ∈ L' → b = (g, cs', t) ∨ b ∈ L := by
 induction h with
 | head => intro b hb; rcases List.mem_cons.1 hb with h | h; exact .inl h; exact .inr (List.mem_cons_of_mem _ h)
 | tail _ ih =>
  intro b hb
  rcases List.mem_cons.1 hb with h | h
  ·exact .inr (h ▸ List.mem_cons_self)
  ·rcases ih b h with h | h
   ·exact .inl h
   ·exact .inr (List.mem_cons_of_mem _ h)
theorem At.fst {L L' : List Blk} {g t : Nat} {cs cs' : List Value} (h : At L g cs t cs' L') : L'.map (·.1) = L.map (·.1) := by
 induction h with
 | head => rfl
 | tail _ ih => simp [ih]
theorem At.other {L L' : List Blk} {g t : Nat} {cs cs' : List Value} (h : At L g cs t cs' L') (hn : L.Pairwise fun x y => x.1 ≠ y.1) : ∀ b, b ∈ L' → b = (g, cs', t) ∨ (b ∈ L ∧ b.1 ≠ g) := by
 induction h with
 | head =>
  intro b hb
  rcases List.mem_cons.1 hb with h | h
  ·exact .inl h
  ·exact .inr ⟨List.mem_cons_of_mem _ h, fun e => (List.pairwise_cons.1 hn).1 b h e.symm⟩
 | tail ha ih =>
  intro b hb
  rcases List.mem_cons.1 hb with h | h
  ·refine .inr ⟨h ▸ List.mem_cons_self, fun e => ?_⟩
   subst h
   exact (List.pairwise_cons.1 hn).1 _ ha.mem e
  ·rcases ih (List.pairwise_cons.1 hn).2 b h with h | h
   ·exact .inl h
   ·exact .inr ⟨List.mem_cons_of_mem _ h.1, h.2⟩
theorem nd_of_fst {L L' : List Blk} (h : L'.map (·.1) = L.map (·.1)) (hn : L.Pairwise fun x y => x.1 ≠ y.1) : L'.Pairwise fun x y => x.1 ≠ y.1 := by
 have : (L'.map (·.1)).Pairwise (· ≠ ·) := h ▸ (List.pairwise_map.2 hn)
 exact List.pairwise_map.1 this
section
variable {T : List Nat} {w W w1 : World} {L L' : List Blk} {Ms : List World} {g t : Nat} {cs cs' : List Value}
theorem Fr.start (T : List Nat) (w : World) : Fr T w w [] [] := ⟨Below.refl _ _, fun _ h => (by cases h), .nil, fun _ h => (by cases h)⟩
theorem Fr.lt (F : Fr T w W L Ms) {b : Blk} (hb : b ∈ L) : b.1 < W.heap.size := blk_lt (F.blk b hb).1
theorem Fr.call (F : Fr T w W L Ms) (hb : Below W.heap.size W w1) : Fr T w w1 L Ms :=
 ⟨below_step F.below hb, fun b h => ⟨(hb.block _ (F.lt h)).trans (F.blk b h).1, (F.blk b h).2⟩, F.nd, fun M h => (F.mv M h).trans (.below hb)⟩
theorem Fr.mark (F : Fr T w W L Ms) : Fr T w W L (W :: Ms) := ⟨F.below, F.blk, F.nd, fun M h => by rcases List.mem_cons.1 h with rfl | h; exact .refl _ _; exact F.mv M h⟩
theorem Fr.drew (F : Fr T w W L Ms) : Fr T w W.drew L Ms := F.call (below_drew (Below.refl _ _))
theorem Fr.drewN (F : Fr T w W L Ms) (n : Nat) : Fr T w (W.drewN n) L Ms := F.call (pw_below_drewN (Below.refl _ _) n)
theorem Fr.drawn (F : Fr T w W L Ms) (h : Drawn0 W w1) : Fr T w w1 L Ms := F.call h.below
theorem Fr.push (F : Fr T w W L Ms) (ht : t ∈ T) : Fr T w (W.alloc (.cells cs.toArray t (0, 0))) ((W.heap.size, cs, t) :: L) Ms := by
 have hb : Below W.heap.size W (W.alloc (.cells cs.toArray t (0, 0))) := below_alloc (Below.refl _ _) _
 have F1 := F.call hb
 refine ⟨F1.below, fun b h => ?_, List.pairwise_cons.2 ⟨fun b h e => ?_, F.nd⟩, F1.mv⟩
 ·rcases List.mem_cons.1 h with rfl | h
  ·exact ⟨blk_new W _, F.below.size, ht⟩
  ·exact F1.blk b h
 ·have := F.lt h
  omega
theorem Fr.set (F : Fr T w W L Ms) (ha : At L g cs t cs' L') (hs : w1.heap.size = W.heap.size) (ho : w1.os = W.os) (hp : w1.tape = W.tape) (hu : w1.output = W.output)
  (hg : w1.heap[g]? = some (.cells cs'.toArray t (0, 0))) (hf : ∀ k, k ≠ g → w1.heap[k]? = W.heap[k]?) : Fr T w w1 L' Ms := by
 obtain ⟨b1, b2, b3⟩ := F.blk _ ha.mem
 refine ⟨⟨ho.trans F.below.os, hp.trans F.below.tape, hu.trans F.below.output, hs ▸ F.below.size, fun k hk => (hf k (by omega)).trans (F.below.block k hk)⟩, fun b h => ?_, nd_of_fst ha.fst F.nd, fun M h => (F.mv M h).trans ⟨Nat.le_of_eq hs.symm, fun k _ => ?_⟩⟩
 ·rcases ha.other F.nd b h with rfl | ⟨h1, h2⟩
  ·exact ⟨hg, b2, b3⟩
  ·exact ⟨(hf _ h2).trans (F.blk b h1).1, (F.blk b h1).2⟩
 ·by_cases e : k = g
  ·subst e
   exact .inr ⟨t, b3, ⟨_, b1⟩, _, hg⟩
  ·exact .inl (hf k e)
theorem Fr.get (F : Fr T w W L Ms) (ha : At L g cs t cs L) : W.heap[g]? = some (.cells cs.toArray t (0, 0)) := (F.blk _ ha.mem).1
theorem Fr.row {α : Type} {d : Kd α} {e : Nat} {ok : Nat → Prop} {v : Value} {xs : List α} (F : Fr T w W L Ms) (ho : d.R e w1 W.heap.size ok v xs) : Aside0 (d.R e w1 w.heap.size (fun k => W.heap.size ≤ k ∧ k < w1.heap.size) v xs) :=
 ⟨Kd.R_lower (Kd.R_mono (Kd.R_bound ho) (fun _ hk => ⟨hk.2.1, hk.2.2.1⟩)) F.below.size⟩
theorem Fr.row_now {α : Type} {d : Kd α} {e : Nat} {ok : Nat → Prop} {v : Value} {xs : List α} {M : World} (F : Fr T w W L Ms) (ho : d.R e M w.heap.size ok v xs) (hM : M ∈ Ms) (ht : ∀ q, q ∈ e :: d.E → q ∉ T) : d.R e W w.heap.size ok v xs := R_moved ho (F.mv M hM) ht
theorem Fr.rowC {α : Type} {d : Kd α} {e c : Nat} {ok : Nat → Prop} {A : Option Addr} {xs : List α} {M : World} (F : Fr T w W L Ms) (ho : Aside0 (d.R e M w.heap.size ok (.slice A xs.length c) xs)) (hM : M ∈ Ms) (ht : ∀ q, q ∈ e :: d.E → q ∉ T) : d.C W A xs.length xs ∧ xs.length ≤ c := by
 obtain ⟨A', c', he, hl, hc⟩ := Kd.R_reads (F.row_now ho.out hM ht)
 injection he with h1 _ h3
 subst h1
 subst h3
 exact ⟨hc, hl⟩
theorem Fr.since {M : World} (F : Fr T w W L (M :: Ms)) : Aside0 (M.heap.size ≤ W.heap.size) := ⟨(F.mv M List.mem_cons_self).size⟩
end
structure IsRow (P : Program) (t n : Nat) : Prop where
 d : ∃ d, P.underlying t = some d ∧ d.isRow = true
 n : (P.info? t).map (·.size) = some n
structure IsOne (P : Program) (t : Nat) : Prop where
 d : ∃ d, P.underlying t = some d ∧ d.isRow = false
 n : (P.info? t).map (·.size) = some 1
theorem run_agg_one {P : Program} {t : Nat} (h : IsOne P t) (W : World) : (isAgg t).run P W = .ok false W := by
 obtain ⟨d, h1, h2⟩ := h.d
 unfold isAgg
 rw [Sem.run_bind, run_underlying h1 W]
 cases d <;> simp_all
section
variable {P : Program} {ops : Array Oper} {rest : List Oper} {o : Oper} {a : Act} {Q : Exit → Act → World → Prop}
variable {T : List Nat} {w W : World} {L L' : List Blk} {Ms : List World} {g i t : Nat} {cs cs' : List Value} {ty : Nat} {N : Tmp} {p x : Operand}
theorem Fr.box (F : Fr T w W L Ms) (_ho : o.op = .box ty x) (hgd : o.guard = none) (hd : o.dst = some N) (hrun : (execOp a.eval o).run P W = .ok (.value (.pointer (some ⟨W.heap.size, 0, none⟩))) (W.alloc (.cells cs.toArray t (0, 0)))) (ht : t ∈ T)
  (h : ∀ g w1, Fr T w w1 ((g, cs, t) :: L) Ms → wpList P ops Q rest (a.put (some N) (.pointer (some ⟨g, 0, none⟩))) w1) : wpList P ops Q (o :: rest) a W :=
 Kd.event_run hgd hrun (by rw [hd]; exact h _ _ (F.push ht))
theorem Fr.alloc (F : Fr T w W L Ms) (_ho : o.op = .alloc ty) (hgd : o.guard = none) (hd : o.dst = some N) (hrun : (execOp a.eval o).run P W = .ok (.value (.pointer (some ⟨W.heap.size, 0, none⟩))) (W.alloc (.cells cs.toArray t (0, 0)))) (ht : t ∈ T)
  (h : ∀ g w1, Fr T w w1 ((g, cs, t) :: L) Ms → wpList P ops Q rest (a.put (some N) (.pointer (some ⟨g, 0, none⟩))) w1) : wpList P ops Q (o :: rest) a W :=
 Kd.event_run hgd hrun (by rw [hd]; exact h _ _ (F.push ht))
theorem load_one {v : Value} (hgd : o.guard = none) (ho : o.op = .load ty p) (hd : o.dst = some N) (hp : a.eval p = .pointer (some ⟨g, i, none⟩)) (hc : W.cell? ⟨g, i, none⟩ = some v) (h1 : IsOne P ty)
  (h : wpList P ops Q rest (a.put (some N) v) W) : wpList P ops Q (o :: rest) a W := by
 refine Kd.event_run (v := v) hgd ?_ (by rw [hd]; exact h)
 have hl := run_agg_one (P := P) h1 W
 unfold execOp
 simp [ho, hp, Instr.loadAt, Instr.sureAddr, Sem.run_bind, loadVar, hl, hc]
theorem Fr.loadOne (F : Fr T w W L Ms) {v : Value} (ho : o.op = .load ty p) (hgd : o.guard = none) (hd : o.dst = some N) (h1 : IsOne P ty) (hp : a.eval p = .pointer (some ⟨g, i, none⟩)) (ha : At L g cs t cs L) (hv : cs[i]? = some v)
  (h : wpList P ops Q rest (a.put (some N) v) W) : wpList P ops Q (o :: rest) a W :=
 load_one hgd ho hd hp (by rw [blk_cell (F.get ha) i]; simpa using hv) h1 h
theorem Fr.loadRow (F : Fr T w W L Ms) {n : Nat} {seg : List Value} (ho : o.op = .load ty p) (hgd : o.guard = none) (hd : o.dst = some N) (h1 : IsRow P ty n) (hp : a.eval p = .pointer (some ⟨g, i, none⟩)) (ha : At L g cs t cs L)
  (hv : (cs.drop i).take n = seg) (hn : seg.length = n) (h : wpList P ops Q rest (a.put (some N) (.agg seg.toArray)) W) : wpList P ops Q (o :: rest) a W := by
 obtain ⟨d, hu, hr⟩ := h1.d
 refine wpList_load_mid hgd ty p ho g i hp seg d (fun j v hj => ?_) hu hr (by rw [hn]; exact h1.n) (by rw [hd]; exact h)
 rw [blk_cell (F.get ha)]
 subst hv
 rw [List.getElem?_take] at hj
 split at hj
 ·rw [List.getElem?_drop] at hj
  simpa using hj
 ·cases hj
theorem setCells_heap (g : Nat) : ∀ (seg : List Value) (i : Nat) (W : World) (cs : List Value), W.heap[g]? = some (.cells cs.toArray t (0, 0)) → i + seg.length ≤ cs.length →
  (W.setCells g i seg).heap[g]? = some (.cells (cs.take i ++ seg ++ cs.drop (i + seg.length)).toArray t (0, 0)) ∧ (∀ k, k ≠ g → (W.setCells g i seg).heap[k]? = W.heap[k]?) ∧ (W.setCells g i seg).heap.size = W.heap.size ∧ (W.setCells g i seg).os = W.os ∧ (W.setCells g i seg).tape = W.tape ∧ (W.setCells g i seg).output = W.output
 | [], i, W, cs, h, _ => by refine ⟨?_, fun _ _ => rfl, rfl, rfl, rfl, rfl⟩; show W.heap[g]? = _; rw [h]; simp
 | v :: seg, i, W, cs, h, hl => by
  have h1 := blk_set h i v
  simp only [List.length_cons] at hl
  have h2 : cs.toArray.setIfInBounds i v = (cs.set i v).toArray := by simp
  rw [h2] at h1
  obtain ⟨a1, a2, a3, a4, a5, a6⟩ := setCells_heap g seg (i + 1) (W.setCell ⟨g, i, none⟩ v) (cs.set i v) h1 (by simp; omega)
  have hb := Below.setCell (p := ⟨g, i, none⟩) (Below.refl 0 W) (Nat.zero_le _) v
  refine ⟨?_, fun k hk => (a2 k hk).trans (Below.heap_setCell W _ v k hk), a3.trans ?_, a4.trans hb.os, a5.trans hb.tape, a6.trans hb.output⟩
  ·show ((W.setCell ⟨g, i, none⟩ v).setCells g (i + 1) seg).heap[g]? = _
   rw [a1]
   congr 3
   have hi : i < cs.length := by omega
   rw [List.take_set, List.drop_set_of_lt (by omega)]
   have e : (cs.take (i + 1)).set i v = cs.take i ++ [v] := by
    rw [List.take_succ_eq_append_getElem hi, List.set_append_right _ _ (by simp; omega)]
    simp
    rw [Nat.min_eq_left (by omega)]
    simp
   rw [e]
   simp [Nat.add_assoc, Nat.add_comm 1]
  ·simp [World.setCell]
theorem Fr.store (F : Fr T w W L Ms) {u : Value} {n : Nat} (hgd : o.guard = none) (ho : o.op = .store ty p x) (hd : o.dst = none) (hp : a.eval p = .pointer (some ⟨g, i, none⟩)) (hx : a.eval x = u) {seg : List Value} (hu : u.cells.toList = seg) (ht : (P.info? ty).map (·.size) = some n) (hn : seg.length = n)
  (h1 : ∀ q, q ∈ seg → q.oneCell' = true) (ha : At L g cs t cs' L') (hv : cs.take i ++ seg ++ cs.drop (i + n) = cs') (hl : i + n ≤ cs.length) (h : ∀ w1, Fr T w w1 L' Ms → wpList P ops Q rest a w1) : wpList P ops Q (o :: rest) a W := by
 subst hn
 subst hv
 have hg := (F.blk _ ha.mem).1
 obtain ⟨a1, a2, a3, a4, a5, a6⟩ := setCells_heap (t := t) g seg i W cs hg hl
 refine wpList_plain hgd fun K hK => ?_
 have hrun : (Instr.storeAt ty (.pointer (some ⟨g, i, none⟩)) u).run P W = .ok () (W.setCells g i seg) := run_store_run ty u seg hg hu ht (by simpa using hl) h1
 unfold Oper.wp execOp
 simp only [ho, hp, hx, Sem.run_bind, Sem.run_pure, Result.andThen_ok, hrun]
 show K (a.put o.dst undef) _
 rw [hd]
 exact hK a _ (h _ (F.set ha a3 a4 a5 a6 a1 a2))
theorem Fr.storeOne (F : Fr T w W L Ms) {u : Value} (ho : o.op = .store ty p x) (hgd : o.guard = none) (hd : o.dst = none) (ht : IsOne P ty) (hp : a.eval p = .pointer (some ⟨g, i, none⟩)) (hx : a.eval x = u) (hu : u.cells = #[u])
  (h1 : u.oneCell' = true) (ha : At L g cs t cs' L') (hv : cs.set i u = cs') (hl : i < cs.length) (h : ∀ w1, Fr T w w1 L' Ms → wpList P ops Q rest a w1) : wpList P ops Q (o :: rest) a W := by
 refine F.store (seg := [u]) hgd ho hd hp hx (by rw [hu]) ht.n rfl (fun q hq => by rw [List.mem_singleton.1 hq]; exact h1) ha ?_ hl h
 rw [← hv, List.set_eq_take_append_cons_drop, if_pos hl]
 simp
theorem Fr.storeRow (F : Fr T w W L Ms) {seg : List Value} {n : Nat} (ho : o.op = .store ty p x) (hgd : o.guard = none) (hd : o.dst = none) (ht : IsRow P ty n) (hp : a.eval p = .pointer (some ⟨g, i, none⟩)) (hx : a.eval x = .agg seg.toArray) (hn : seg.length = n)
  (h1 : seg.all (·.oneCell') = true) (ha : At L g cs t cs' L') (hv : cs.take i ++ seg ++ cs.drop (i + n) = cs') (hl : i + n ≤ cs.length) (h : ∀ w1, Fr T w w1 L' Ms → wpList P ops Q rest a w1) : wpList P ops Q (o :: rest) a W :=
 F.store (seg := seg) hgd ho hd hp hx rfl ht.n hn (fun q hq => List.all_eq_true.1 h1 q hq) ha hv hl h
theorem none_ne {α : Type} {r : α} (h : (none : Option α) = some r) : False := nomatch h
theorem ft_ne (h : (some false : Option Bool) = some true) : False := nomatch h
theorem ite_ways {α : Type} {c : Prop} [Decidable c] {x y r : α} (h : (if c then x else y) = r) : (c ∧ x = r) ∨ (¬ c ∧ y = r) := by
 by_cases hc : c
 ·exact .inl ⟨hc, by rwa [if_pos hc] at h⟩
 ·exact .inr ⟨hc, by rwa [if_neg hc] at h⟩
theorem gate_region {P : Program} {ops : Array Oper} {Q : Exit → Act → World → Prop} {a : Act} {W : World} {id : Nat} {b : Bool} (h : (Code.region id ops b).wp P Q a W) : (Code.region id ops b).wp P Q a W := h
theorem gate_list {P : Program} {ops : Array Oper} {rest : List Oper} {o : Oper} {a : Act} {Q : Exit → Act → World → Prop} {W : World} (h : wpList P ops Q (o :: rest) a W) : wpList P ops Q (o :: rest) a W := h
section
variable {md : Region.Mode} {ds : List Nat} {l : Array Bool} {fuel : Nat} {a' : Act} {oi : Oper}
theorem Fr.region (F : Fr T w W L Ms) {id n : Nat} (hm : P.follows .mixedOrders = true) (hn : ops.size = n)
  (h : ∀ W1, Fr T w W1 L Ms → wpAnyLast P .any ops Q (fun w' => Fr T w w' L Ms) [] n (Array.replicate n false) a W1) : (Code.region id ops true).wp P Q a W :=
 start_ _ hm hn rfl F.drew (fun h1 => h _ h1)
theorem Fr.rpure (j : Nat) {v : Value} (hi : ops[j]? = some oi) (hN : oi.dst = some N) (hw : Region.wanted oi (yielded ops a.tmps) = true) (hc : anyB md ops l (l.setIfInBounds j true) j = true) (hQ : ∀ c a w, Q (.panic c) (a.put oi.dst v) w → Q (.panic c) a w)
  (hv : ∀ w, (execOp a.eval oi).run P w = .ok (.value v) w) (ha : a.put (some N) v = a') (h : wpAnyLast P md ops Q (fun w' => Fr T w w' L Ms) ds fuel (l.setIfInBounds j true) a' W) : wpAnyLast P md ops Q (fun w' => Fr T w w' L Ms) ds (fuel + 1) l a W :=
 pure_ _ hi hN hc hQ (.inl ⟨hw, hv⟩) ha h
theorem Fr.roff (j : Nat) (hi : ops[j]? = some oi) (hN : oi.dst = some N) (hw : Region.wanted oi (yielded ops a.tmps) = false) (hc : anyB md ops l (l.setIfInBounds j true) j = true) (hQ : ∀ c a w, Q (.panic c) (a.put oi.dst undef) w → Q (.panic c) a w)
  (ha : a.put (some N) undef = a') (h : wpAnyLast P md ops Q (fun w' => Fr T w w' L Ms) ds fuel (l.setIfInBounds j true) a' W) : wpAnyLast P md ops Q (fun w' => Fr T w w' L Ms) ds (fuel + 1) l a W :=
 pure_ _ hi hN hc hQ (.inr ⟨hw, rfl⟩) ha h
theorem Fr.rone (F : Fr T w W L Ms) (j : Nat) {v : Value} (hi : ops[j]? = some oi) (ho : oi.op = .load ty p) (hN : oi.dst = some N) (hw : Region.wanted oi (yielded ops a.tmps) = true) (hc : takeB md ops ds l (l.setIfInBounds j true) j = true) (hQ : ∀ c a w, Q (.panic c) (a.put oi.dst v) w → Q (.panic c) a w)
  (h1 : IsOne P ty) (hp : a.eval p = .pointer (some ⟨g, i, none⟩)) (ha : At L g cs t cs L) (hv : cs[i]? = some v) (hp' : a.put (some N) v = a') (h : wpAnyLast P md ops Q (fun w' => Fr T w w' L Ms) ds fuel (l.setIfInBounds j true) a' W) : wpAnyLast P md ops Q (fun w' => Fr T w w' L Ms) ds (fuel + 1) l a W := by
 refine take_ _ hi hN hc hQ (.inl ⟨hw, fun W' F' => ?_⟩) F hp' h
 have hl := run_agg_one (P := P) h1 W'
 have hcell : W'.cell? ⟨g, i, none⟩ = some v := by rw [blk_cell (F'.get ha) i]; simpa using hv
 unfold execOp
 simp [ho, hp, Instr.loadAt, Instr.sureAddr, Sem.run_bind, loadVar, hl, hcell]
theorem Fr.rrow (F : Fr T w W L Ms) (j : Nat) {n : Nat} {seg : List Value} (hi : ops[j]? = some oi) (ho : oi.op = .load ty p) (hN : oi.dst = some N) (hw : Region.wanted oi (yielded ops a.tmps) = true) (hc : takeB md ops ds l (l.setIfInBounds j true) j = true) (hQ : ∀ c a w, Q (.panic c) (a.put oi.dst (.agg seg.toArray)) w → Q (.panic c) a w)
  (h1 : IsRow P ty n) (hp : a.eval p = .pointer (some ⟨g, i, none⟩)) (ha : At L g cs t cs L) (hv : (cs.drop i).take n = seg) (hn : seg.length = n) (hp' : a.put (some N) (.agg seg.toArray) = a') (h : wpAnyLast P md ops Q (fun w' => Fr T w w' L Ms) ds fuel (l.setIfInBounds j true) a' W) : wpAnyLast P md ops Q (fun w' => Fr T w w' L Ms) ds (fuel + 1) l a W := by
 obtain ⟨d, hu, hr⟩ := h1.d
 refine take_ _ hi hN hc hQ (yieldsIf_load_mid hw ty p ho g i hp seg d (fun W' F' k v hk => ?_) hu hr (by rw [hn]; exact h1.n)) F hp' h
 rw [blk_cell (F'.get ha)]
 subst hv
 rw [List.getElem?_take] at hk
 split at hk
 ·rw [List.getElem?_drop] at hk
  simpa using hk
 ·cases hk
theorem rcall (j : Nat) {f : FuncId} {fn : Func} {as : Array Operand} {ts : Array TypeId} {args : Array Value} (hi : ops[j]? = some oi) (hop : oi.op = .call { callee := .value (.func f), args := as, argTypes := ts }) (hN : oi.dst = some N) (hw : Region.wanted oi (yielded ops a.tmps) = true) (hc : readyB md ops l (l.setIfInBounds j true) j = true) (hd : j ∉ ds)
  (hf : P.funcs[f]? = some fn) (hname : (fn.name == "runtime.NumGoroutine") = false) (hb : fn.body.isSome = true)
  (h : Calls P f args W fun e w' => ∃ v, e = .returned v ∧ Fr T w w' L Ms ∧ (Fr T w w' L Ms → wpAnyLast P md ops Q (fun w' => Fr T w w' L Ms) ds fuel (l.setIfInBounds j true) (a.put (some N) v) w')) (hargs : as.map a.eval = args) : wpAnyLast P md ops Q (fun w' => Fr T w w' L Ms) ds (fuel + 1) l a W :=
 one_ _ hi hN hc hd fun _ hK => goes_ hf hname hb args hw hN hop hargs (h.mono fun _ _ ⟨v, he, hF, hh⟩ => ⟨v, he, hK _ _ hF hh⟩)
end
end
end Go.Proofs.YtffkgndghbdgnaaGreat.Frame
namespace Go.Proofs.YtffkgndghbdgnaaGreat.Frame
open Go.RowKit Go.Proofs.YtffkgndghbdgnaaGreatW.PrintWords Go.Proofs.YtffkgndghbdgnaaGreatW.PrintLast Go.Proofs.YtffkgndghbdgnaaGreatW.PrintMore
structure GL (P : Program) (ops : Array Oper) (Q : Exit → Act → World → Prop) (rest : List Oper) (a : Act) (W : World) : Prop where
 out : wpList P ops Q rest a W
section
variable {P : Program} {ops : Array Oper} {rest : List Oper} {o : Oper} {a a' : Act} {Q : Exit → Act → World → Prop}
variable {T : List Nat} {w W : World} {L L' : List Blk} {Ms : List World} {g i t : Nat} {cs cs' : List Value} {ty : Nat} {N : Tmp} {p x : Operand}
theorem plain_region {id : Nat} {l : List Oper} (h : GL P l.toArray Q l a W) : (Code.region id l.toArray false).wp P Q a W := wp_region_lit h.out
theorem lend (h : Q .normal a W) : GL P ops Q [] a W := ⟨h⟩
theorem lon {K : Act → World → Prop} (hw : Region.wanted o (yielded ops a.tmps) = true) (h : Oper.wp P o a W K Q) : if Region.wanted o (yielded ops a.tmps) = true then Oper.wp P o a W K Q else K (a.put o.dst undef) W := by
 rw [if_pos hw]
 exact h
theorem lval {v : Value} (hw : Region.wanted o (yielded ops a.tmps) = true) (hN : o.dst = some N) (hv : (execOp a.eval o).run P W = .ok (.value v) W) (h : GL P ops Q rest (a.put (some N) v) W) : GL P ops Q (o :: rest) a W := by
 refine ⟨wpList_step fun K hK => lon hw ?_⟩
 unfold Oper.wp
 rw [hv]
 show K (a.put o.dst v) W
 rw [hN]
 exact hK _ _ h.out
theorem lpure {v : Value} (hN : o.dst = some N) (hw : Region.wanted o (yielded ops a.tmps) = true) (hv : (execOp a.eval o).run P W = .ok (.value v) W) (ha : a.put (some N) v = a') (h : GL P ops Q rest a' W) : GL P ops Q (o :: rest) a W :=
 lval hw hN hv (ha ▸ h)
theorem loff (hN : o.dst = some N) (hw : Region.wanted o (yielded ops a.tmps) = false) (ha : a.put (some N) undef = a') (h : GL P ops Q rest a' W) : GL P ops Q (o :: rest) a W := by
 refine ⟨wpList_step fun K hK => ?_⟩
 rw [if_neg (by rw [hw]; exact Bool.false_ne_true), hN]
 exact hK _ _ (ha ▸ h).out
theorem Fr.lone (F : Fr T w W L Ms) {v : Value} (ho : o.op = .load ty p) (hN : o.dst = some N) (hw : Region.wanted o (yielded ops a.tmps) = true) (h1 : IsOne P ty) (hp : a.eval p = .pointer (some ⟨g, i, none⟩)) (ha : At L g cs t cs L) (hv : cs[i]? = some v)
  (hp' : a.put (some N) v = a') (h : GL P ops Q rest a' W) : GL P ops Q (o :: rest) a W := by
 refine lpure hN hw ?_ hp' h
 have hl := run_agg_one (P := P) h1 W
 have hcell : W.cell? ⟨g, i, none⟩ = some v := by rw [blk_cell (F.get ha) i]; simpa using hv
 unfold execOp
 simp [ho, hp, Instr.loadAt, Instr.sureAddr, Sem.run_bind, loadVar, hl, hcell]
theorem run_load_row {n : Nat} {seg : List Value} (F : Fr T w W L Ms) (ho : o.op = .load ty p) (h1 : IsRow P ty n) (hp : a.eval p = .pointer (some ⟨g, i, none⟩)) (ha : At L g cs t cs L) (hv : (cs.drop i).take n = seg) (hn : seg.length = n) :
  (execOp a.eval o).run P W = .ok (.value (.agg seg.toArray)) W := by
 obtain ⟨d, hu, hr⟩ := h1.d
 have hc : W.rangeAt g i seg := fun j v hj => by
  rw [blk_cell (F.get ha)]
  subst hv
  rw [List.getElem?_take] at hj
  split at hj
  ·rw [List.getElem?_drop] at hj
   simpa using hj
  ·cases hj
 unfold execOp
 simp only [ho, hp, Instr.loadAt, Instr.sureAddr, Sem.run_bind, Sem.run_pure, Result.andThen_ok, run_loadVar_mid W g i ty seg d hc hu hr (by rw [hn]; exact h1.n)]
theorem Fr.lrow (F : Fr T w W L Ms) {n : Nat} {seg : List Value} (ho : o.op = .load ty p) (hN : o.dst = some N) (hw : Region.wanted o (yielded ops a.tmps) = true) (h1 : IsRow P ty n) (hp : a.eval p = .pointer (some ⟨g, i, none⟩)) (ha : At L g cs t cs L)
  (hv : (cs.drop i).take n = seg) (hn : seg.length = n) (hp' : a.put (some N) (.agg seg.toArray) = a') (h : GL P ops Q rest a' W) : GL P ops Q (o :: rest) a W :=
 lpure hN hw (run_load_row F ho h1 hp ha hv hn) hp' h
theorem lcall {f : FuncId} {fn : Func} {as : Array Operand} {ts : Array TypeId} {args : Array Value} (hop : o.op = .call { callee := .value (.func f), args := as, argTypes := ts }) (hN : o.dst = some N) (hw : Region.wanted o (yielded ops a.tmps) = true)
  (hf : P.funcs[f]? = some fn) (hname : (fn.name == "runtime.NumGoroutine") = false) (hb : fn.body.isSome = true)
  (h : Calls P f args W fun e w' => ∃ v, e = .returned v ∧ GL P ops Q rest (a.put (some N) v) w') (hargs : as.map a.eval = args) : GL P ops Q (o :: rest) a W :=
 ⟨wpList_step fun K hK => by
  rw [hN]
  exact goes_ hf hname hb args hw hN hop hargs (h.mono fun _ _ ⟨v, he, hh⟩ => ⟨v, he, hK _ _ hh.out⟩)⟩
theorem lnorm (ha : a = a') (h : GL P ops Q rest a' W) : GL P ops Q rest a W := ha ▸ h
theorem Fr.lbox (F : Fr T w W L Ms) (ho : o.op = .box ty x) (hgd : o.guard = none) (hd : o.dst = some N) (hrun : (execOp a.eval o).run P W = .ok (.value (.pointer (some ⟨W.heap.size, 0, none⟩))) (W.alloc (.cells cs.toArray t (0, 0)))) (ht : t ∈ T)
  (h : ∀ g w1, Fr T w w1 ((g, cs, t) :: L) Ms → GL P ops Q rest (a.put (some N) (.pointer (some ⟨g, 0, none⟩))) w1) : GL P ops Q (o :: rest) a W :=
 ⟨F.box ho hgd hd hrun ht (fun g w1 hF => (h g w1 hF).out)⟩
theorem Fr.lalloc (F : Fr T w W L Ms) (ho : o.op = .alloc ty) (hgd : o.guard = none) (hd : o.dst = some N) (hrun : (execOp a.eval o).run P W = .ok (.value (.pointer (some ⟨W.heap.size, 0, none⟩))) (W.alloc (.cells cs.toArray t (0, 0)))) (ht : t ∈ T)
  (h : ∀ g w1, Fr T w w1 ((g, cs, t) :: L) Ms → GL P ops Q rest (a.put (some N) (.pointer (some ⟨g, 0, none⟩))) w1) : GL P ops Q (o :: rest) a W :=
 ⟨F.alloc ho hgd hd hrun ht (fun g w1 hF => (h g w1 hF).out)⟩
theorem Fr.lstoreOne (F : Fr T w W L Ms) {u : Value} (ho : o.op = .store ty p x) (hgd : o.guard = none) (hd : o.dst = none) (ht : IsOne P ty) (hp : a.eval p = .pointer (some ⟨g, i, none⟩)) (hx : a.eval x = u) (hu : u.cells = #[u])
  (h1 : u.oneCell' = true) (ha : At L g cs t cs' L') (hv : cs.set i u = cs') (hl : i < cs.length) (h : ∀ w1, Fr T w w1 L' Ms → GL P ops Q rest a w1) : GL P ops Q (o :: rest) a W :=
 ⟨F.storeOne ho hgd hd ht hp hx hu h1 ha hv hl (fun w1 hF => (h w1 hF).out)⟩
theorem Fr.lstoreRow (F : Fr T w W L Ms) {seg : List Value} {n : Nat} (ho : o.op = .store ty p x) (hgd : o.guard = none) (hd : o.dst = none) (ht : IsRow P ty n) (hp : a.eval p = .pointer (some ⟨g, i, none⟩)) (hx : a.eval x = .agg seg.toArray) (hn : seg.length = n)
  (h1 : seg.all (·.oneCell') = true) (ha : At L g cs t cs' L') (hv : cs.take i ++ seg ++ cs.drop (i + n) = cs') (hl : i + n ≤ cs.length) (h : ∀ w1, Fr T w w1 L' Ms → GL P ops Q rest a w1) : GL P ops Q (o :: rest) a W :=
 ⟨F.storeRow ho hgd hd ht hp hx hn h1 ha hv hl (fun w1 hF => (h w1 hF).out)⟩
end
end Go.Proofs.YtffkgndghbdgnaaGreat.Frame
namespace Go.Proofs.YtffkgndghbdgnaaGreat.Frame
open Go.RowKit Go.Proofs.YtffkgndghbdgnaaGreatW.PrintWords Go.Proofs.YtffkgndghbdgnaaGreatW.PrintLast Go.Proofs.YtffkgndghbdgnaaGreatW.PrintMore
theorem u8_wr (n : Int) : IntKind.u8.wrap n = n % 256 := by
 simp [IntKind.wrap, IntKind.signed, IntKind.bits]
section
variable {P : Program} {ops : Array Oper} {a a' : Act} {Q : Exit → Act → World → Prop}
variable {T : List Nat} {w W w1 : World} {L : List Blk} {Ms : List World} {g e n : Nat} {N N' : Tmp}
variable {md : Region.Mode} {ds : List Nat} {l l' : Array Bool} {fuel : Nat} {oi oj : Oper} {cs : List Value}
theorem arm_call {f : FuncId} {fn : Func} {as : Array Operand} {ts : Array TypeId} {args : Array Value} (hop : oi.op = .call { callee := .value (.func f), args := as, argTypes := ts }) (hN : oi.dst = some N) (hw : Region.wanted oi (yielded ops a.tmps) = true)
  (hf : P.funcs[f]? = some fn) (hname : (fn.name == "runtime.NumGoroutine") = false) (hb : fn.body.isSome = true)
  (h : Calls P f args W fun e w' => ∃ v, e = .returned v ∧ Fr T w w' L Ms ∧ (Fr T w w' L Ms → wpAnyLast P md ops Q (fun w' => Fr T w w' L Ms) ds fuel l' (a.put (some N) v) w')) (hargs : as.map a.eval = args) :
  ∀ K : Act → World → Prop, Shut (∀ a' w', Fr T w w' L Ms → (Fr T w w' L Ms → wpAnyLast P md ops Q (fun w' => Fr T w w' L Ms) ds fuel l' a' w') → K a' w') → if Region.wanted oi (yielded ops a.tmps) = true then Oper.wp P oi a W K Q else K (a.put (some N) undef) W :=
 fun _ hK => goes_ hf hname hb args hw hN hop hargs (h.mono fun _ _ ⟨v, he, hF, hh⟩ => ⟨v, he, hK _ _ hF hh⟩)
theorem arm_build (F : Fr T w W L Ms) (hN : oi.dst = some N) (hw : Region.wanted oi (yielded ops a.tmps) = true)
  (hrun : (execOp a.eval oi).run P W = .ok (.value (.slice (some ⟨W.heap.size, 0, none⟩) n n)) (W.alloc (.cells cs.toArray e (0, 0))))
  (h : ∀ g w1, w.heap.size ≤ g → Below W.heap.size W w1 → w1.heap[g]? = some (.cells cs.toArray e (0, 0)) → Fr T w w1 L Ms → wpAnyLast P md ops Q (fun w' => Fr T w w' L Ms) ds fuel l' (a.put (some N) (.slice (some ⟨g, 0, none⟩) n n)) w1) :
  ∀ K : Act → World → Prop, Shut (∀ a' w', Fr T w w' L Ms → (Fr T w w' L Ms → wpAnyLast P md ops Q (fun w' => Fr T w w' L Ms) ds fuel l' a' w') → K a' w') → if Region.wanted oi (yielded ops a.tmps) = true then Oper.wp P oi a W K Q else K (a.put (some N) undef) W := by
 intro K hK
 rw [if_pos hw]
 unfold Oper.wp
 rw [hrun]
 show K (a.put oi.dst _) _
 rw [hN]
 exact hK _ _ (F.call (below_alloc (Below.refl _ _) _)) (fun F' => h _ _ F.below.size (below_alloc (Below.refl _ _) _) (blk_new W _) F')
theorem rbuild (F : Fr T w W L Ms) (j : Nat) (hi : ops[j]? = some oi) (hN : oi.dst = some N) (hw : Region.wanted oi (yielded ops a.tmps) = true) (hc : readyB md ops l (l.setIfInBounds j true) j = true) (hd : j ∉ ds)
  (hrun : (execOp a.eval oi).run P W = .ok (.value (.slice (some ⟨W.heap.size, 0, none⟩) n n)) (W.alloc (.cells cs.toArray e (0, 0))))
  (h : ∀ g w1, w.heap.size ≤ g → Below W.heap.size W w1 → w1.heap[g]? = some (.cells cs.toArray e (0, 0)) → Fr T w w1 L Ms → wpAnyLast P md ops Q (fun w' => Fr T w w' L Ms) ds fuel (l.setIfInBounds j true) (a.put (some N) (.slice (some ⟨g, 0, none⟩) n n)) w1) :
  wpAnyLast P md ops Q (fun w' => Fr T w w' L Ms) ds (fuel + 1) l a W := one_ _ hi hN hc hd (arm_build F hN hw hrun h)
theorem rtwo (i j : Nat) (hi : ops[i]? = some oi) (hj : ops[j]? = some oj) (hNi : oi.dst = some N) (hNj : oj.dst = some N')
  (hc : (Region.ready md ops l == [i, j] && l.setIfInBounds i true == l.setIfInBounds i true && l.setIfInBounds j true == l.setIfInBounds j true) = true) (hdi : i ∉ ds) (hdj : j ∉ ds)
  (h1 : ∀ K : Act → World → Prop, Shut (∀ a' w', Fr T w w' L Ms → (Fr T w w' L Ms → wpAnyLast P md ops Q (fun w' => Fr T w w' L Ms) ds fuel (l.setIfInBounds i true) a' w') → K a' w') → if Region.wanted oi (yielded ops a.tmps) = true then Oper.wp P oi a W K Q else K (a.put (some N) undef) W)
  (h2 : ∀ K : Act → World → Prop, Shut (∀ a' w', Fr T w w' L Ms → (Fr T w w' L Ms → wpAnyLast P md ops Q (fun w' => Fr T w w' L Ms) ds fuel (l.setIfInBounds j true) a' w') → K a' w') → if Region.wanted oj (yielded ops a.tmps) = true then Oper.wp P oj a W K Q else K (a.put (some N') undef) W) :
  wpAnyLast P md ops Q (fun w' => Fr T w w' L Ms) ds (fuel + 1) l a W := two_ _ _ hi hj hNi hNj hc hdi hdj h1 h2
theorem Fr.lit {M : World} (F : Fr T w W L Ms) (h : Aside0 (M.heap[g]? = some (.cells cs.toArray e (0, 0)))) (hM : M ∈ Ms) (ht : e ∉ T) : W.heap[g]? = some (.cells cs.toArray e (0, 0)) := by
 rcases (F.mv M hM).blk g (blk_lt h.out) with h1 | ⟨t, htT, ⟨c', h2⟩, _⟩
 ·exact h1.trans h.out
 ·rw [h.out] at h2
  injection h2 with h2
  injection h2 with _ h2
  subst h2
  exact absurd htT ht
theorem bytesC {k : IntKind} {xs : List Int} (hg : W.heap[g]? = some (.cells (xs.map (Value.int k)).toArray e (0, 0))) (hn : xs.length ≤ 9223372036854775807) : (Kd.int k).C W (some ⟨g, 0, none⟩) xs.length xs := by
 refine ⟨rfl, hn, fun _ => ⟨_, rfl, fun j p hp => ⟨[.int k p], rfl, rfl, fun i u hu => ?_⟩⟩⟩
 have hi : i = 0 := by
  cases i with
  | zero => rfl
  | succ i => simp at hu
 subst hi
 obtain rfl : Value.int k p = u := by simpa using hu
 have h1 := blk_cell hg (0 + (j * 1 + 0))
 rw [show (Kd.int k).sz = 1 from rfl, Addr.add_lit, h1]
 simp [hp]
inductive RowsAt (W : World) : List Value → List (List Int) → Prop
 | nil : RowsAt W [] []
 | cons {A : Option Addr} {n c : Nat} {x : List Int} {cs : List Value} {xs : List (List Int)} : (n = x.length) → (x.length ≤ c) → (Kd.int .u8).C W A x.length x → RowsAt W cs xs → RowsAt W (.slice A n c :: cs) (x :: xs)
theorem RowsAt.get {xs : List (List Int)} (h : RowsAt W cs xs) : ∀ (j : Nat) (p : List Int), xs[j]? = some p → ∃ A c, cs[j]? = some (.slice A p.length c) ∧ p.length ≤ c ∧ (Kd.int .u8).C W A p.length p := by
 induction h with
 | nil => intro j p hp; simp at hp
 | cons h0 h1 h2 _ ih =>
  intro j p hp
  subst h0
  cases j with
  | zero =>
   obtain rfl := Option.some.inj hp
   exact ⟨_, _, rfl, h1, h2⟩
  | succ j => exact ih j p hp
theorem rowsC {xs : List (List Int)} (hg : W.heap[g]? = some (.cells cs.toArray e (0, 0))) (h : RowsAt W cs xs) (hn : xs.length ≤ 9223372036854775807) : (Kd.slice 5 (Kd.int .u8)).C W (some ⟨g, 0, none⟩) xs.length xs := by
 refine ⟨rfl, hn, fun _ => ⟨_, rfl, fun j p hp => ?_⟩⟩
 obtain ⟨A, c, h1, h2, h3⟩ := h.get j p hp
 refine ⟨[.slice A p.length c], rfl, ⟨A, c, rfl, h2, h3⟩, fun i u hu => ?_⟩
 have hi : i = 0 := by
  cases i with
  | zero => rfl
  | succ i => simp at hu
 subst hi
 obtain rfl : Value.slice A p.length c = u := by simpa using hu
 have h4 := blk_cell hg (0 + (j * 1 + 0))
 rw [show (Kd.slice 5 (Kd.int .u8)).sz = 1 from rfl, Addr.add_lit, h4]
 simp [h1]
end
end Go.Proofs.YtffkgndghbdgnaaGreat.Frame
namespace Go.Proofs.YtffkgndghbdgnaaGreat.Frame
open Go.RowKit Go.Proofs.YtffkgndghbdgnaaGreatW.PrintWords Go.Proofs.YtffkgndghbdgnaaGreatW.PrintLast Go.Proofs.YtffkgndghbdgnaaGreatW.PrintMore
section
variable {P : Program} {c : Code} {ops : Array Oper} {rest : List Oper} {o : Oper} {a a' : Act} {Q : Exit → Act → World → Prop}
variable {T : List Nat} {w W : World} {L : List Blk} {Ms : List World} {cs : List Value} {e n : Nat} {N : Tmp}
theorem join_ (_F : Fr T w W L Ms) (M : Act → Act → Prop) (h1 : ∀ Q1 : Exit → Act → World → Prop, (∀ a' W', M a a' → Fr T w W' L Ms → Q1 .normal a' W') → c.wp P Q1 a W) (h2 : ∀ a' W', M a a' ∧ Fr T w W' L Ms → Q .normal a' W') : c.wp P Q a W :=
 Code.wp_mono (fun e a' W' h => by obtain ⟨rfl, hm⟩ := h; exact h2 a' W' hm) (h1 (fun e a' W' => e = .normal ∧ M a a' ∧ Fr T w W' L Ms) (fun _ _ h1 h2 => ⟨rfl, h1, h2⟩))
theorem qnorm {e : Exit} (ha : a = a') (h : Q e a' W) : Q e a W := ha ▸ h
theorem Fr.lbuild (F : Fr T w W L Ms) (hN : o.dst = some N) (hw : Region.wanted o (yielded ops a.tmps) = true)
  (hrun : (execOp a.eval o).run P W = .ok (.value (.slice (some ⟨W.heap.size, 0, none⟩) n n)) (W.alloc (.cells cs.toArray e (0, 0))))
  (h : ∀ g w1, w.heap.size ≤ g → Below W.heap.size W w1 → w1.heap[g]? = some (.cells cs.toArray e (0, 0)) → Fr T w w1 L Ms → GL P ops Q rest (a.put (some N) (.slice (some ⟨g, 0, none⟩) n n)) w1) : GL P ops Q (o :: rest) a W := by
 refine ⟨wpList_step fun K hK => lon hw ?_⟩
 unfold Oper.wp
 rw [hrun]
 show K (a.put o.dst _) _
 rw [hN]
 exact hK _ _ (h _ _ F.below.size (below_alloc (Below.refl _ _) _) (blk_new W _) (F.call (below_alloc (Below.refl _ _) _))).out
end
end Go.Proofs.YtffkgndghbdgnaaGreat.Frame
namespace Go.Proofs.YtffkgndghbdgnaaGreat.Frame
open Go.RowKit Go.Proofs.YtffkgndghbdgnaaGreatW.PrintWords Go.Proofs.YtffkgndghbdgnaaGreatW.PrintLast Go.Proofs.YtffkgndghbdgnaaGreatW.PrintMore
section
variable {T : List Nat} {w W W' : World} {L : List Blk} {Ms : List World} {e base : Nat} {ok : Nat → Prop} {v : Value} {xs : List Int} {S : Nat → Prop}
theorem R_tight (h : (Kd.int .u8).R e W base ok v xs) : (Kd.int .u8).R e W base (fun k => v.ownBlock = some k) v xs := by
 obtain ⟨_, h2⟩ := h
 exact ⟨fun _ hk => hk, h2⟩
theorem Fr.kept (F : Fr T w W L Ms) (hb : Below w.heap.size w W') (hk : Kept W W' S) (hS : ∀ k, S k → ∃ cs, W.heap[k]? = some (.cells cs 5 (0, 0))) (ht : 5 ∉ T) : Fr T w W' L [W'] := by
 refine ⟨hb, fun b h => ⟨?_, (F.blk b h).2⟩, F.nd, fun M hM => ?_⟩
 ·have h1 := (F.blk b h).1
  have hn : ¬ S b.1 := fun hs => by
   obtain ⟨cs, h2⟩ := hS _ hs
   rw [h1] at h2
   injection h2 with h2
   injection h2 with _ h2
   exact ht (h2 ▸ (F.blk b h).2.2)
  exact (hk.2 _ (F.lt h) hn).trans h1
 ·obtain rfl := List.mem_singleton.1 hM
  exact .refl _ _
end
end Go.Proofs.YtffkgndghbdgnaaGreat.Frame
namespace Go.Proofs.YtffkgndghbdgnaaGreat.Frame
open Go.RowKit Go.Proofs.YtffkgndghbdgnaaGreatW.PrintWords Go.Proofs.YtffkgndghbdgnaaGreatW.PrintLast Go.Proofs.YtffkgndghbdgnaaGreatW.PrintMore
section
variable {P : Program} {ops : Array Oper} {a a' : Act} {Q : Exit → Act → World → Prop}
variable {T : List Nat} {w W w1 : World} {L : List Blk} {Ms : List World} {N : Tmp}
variable {md : Region.Mode} {ds : List Nat} {l : Array Bool} {fuel : Nat} {oi : Oper} {ok : Nat → Prop}
theorem Fr.grown (F : Fr T w W L Ms) {row : Option Nat} (hb : Below w.heap.size w w1) (hg : W.grownBy w1 row) (hr : ∀ k, row = some k → ∃ cs, W.heap[k]? = some (.cells cs 5 (0, 0))) (ht : 5 ∉ T) : Fr T w w1 L [w1] := by
 refine ⟨hb, fun b h => ⟨?_, (F.blk b h).2⟩, F.nd, fun M hM => ?_⟩
 ·refine blk_grown (F.blk b h).1 hg (fun he => ?_)
  obtain ⟨cs, h2⟩ := hr _ he.symm
  have h1 := (F.blk b h).1
  rw [h1] at h2
  injection h2 with h2
  injection h2 with _ h2
  exact ht (h2 ▸ (F.blk b h).2.2)
 ·obtain rfl := List.mem_singleton.1 hM
  exact .refl _ _
theorem Fr.drop (F : Fr T w W L Ms) : Fr T w W L [] := ⟨F.below, F.blk, F.nd, fun _ h => (by cases h)⟩
end
end Go.Proofs.YtffkgndghbdgnaaGreat.Frame
namespace Go.Proofs.YtffkgndghbdgnaaGreat.Frame
open Go.RowKit Go.Proofs.YtffkgndghbdgnaaGreatW.PrintWords Go.Proofs.YtffkgndghbdgnaaGreatW.PrintLast Go.Proofs.YtffkgndghbdgnaaGreatW.PrintMore
section
variable {α : Type} {d : Kd α} {e : Nat} {ok : Nat → Prop} {v : Value} {xs : List α} {T : List Nat} {w W w1 M : World} {L : List Blk} {Ms : List World}
theorem S_moved {base : Nat} (h : Kd.S d e M base ok v xs) (hm : Moved T M W) (ht : ∀ q, q ∈ e :: d.E → q ∉ T) : Kd.S d e W base ok v xs := by
 refine Kd.S_mono (Kd.S_move (Kd.S_bound h) (fun k hk => ?_)) (fun _ hk => hk.1)
 obtain ⟨_, _, hlt, q, hq, cells, hc⟩ := hk
 rcases hm.blk k hlt with h1 | ⟨t, htT, ⟨cs, h2⟩, _⟩
 ·exact h1
 ·rw [hc] at h2
  injection h2 with h2
  injection h2 with _ h2
  subst h2
  exact absurd htT (ht _ hq)
theorem Fr.rowS (F : Fr T w W L Ms) (ho : Kd.S d e w1 W.heap.size ok v xs) : Aside0 (Kd.S d e w1 w.heap.size (fun k => W.heap.size ≤ k ∧ k < w1.heap.size) v xs) :=
 ⟨Kd.S_lower (Kd.S_mono (Kd.S_bound ho) (fun _ hk => ⟨hk.2.1, hk.2.2.1⟩)) F.below.size⟩
theorem Fr.row_nowS (F : Fr T w W L Ms) (ho : Kd.S d e M w.heap.size ok v xs) (hM : M ∈ Ms) (ht : ∀ q, q ∈ e :: d.E → q ∉ T) : Kd.S d e W w.heap.size ok v xs := S_moved ho (F.mv M hM) ht
theorem Fr.rowCS {c : Nat} {A : Option Addr} (F : Fr T w W L Ms) (ho : Aside0 (Kd.S d e M w.heap.size ok (.slice A xs.length c) xs)) (hM : M ∈ Ms) (ht : ∀ q, q ∈ e :: d.E → q ∉ T) : d.C W A xs.length xs ∧ xs.length ≤ c :=
 F.rowC ⟨Kd.S_R ho.out⟩ hM ht
theorem S_own1 (h : Kd.S d e W w.heap.size ok v xs) : ∀ k, v.ownBlock = some k → ok k := (Kd.S_R h).1
end
end Go.Proofs.YtffkgndghbdgnaaGreat.Frame
namespace Go.Proofs.YtffkgndghbdgnaaGreat.Frame
set_option linter.unusedVariables false
set_option linter.unusedSimpArgs false
open Go.RowKit Go.Proofs.YtffkgndghbdgnaaGreatW.PrintWords Go.Proofs.YtffkgndghbdgnaaGreatW.PrintLast Go.Proofs.YtffkgndghbdgnaaGreatW.PrintMore
section
variable {k : IntKind} {w W : World} {A : Option Addr} {c n m : Nat} {l : List Int}
theorem R_cast {α : Type} {d : Kd α} {e base : Nat} {ok : Nat → Prop} {v : Value} {xs ys : List α} (h : d.R e W base ok v xs) (hy : xs = ys) : d.R e W base ok v ys := hy ▸ h
end
section
variable {P : Program} {ops : Array Oper} {rest : List Oper} {o : Oper} {a a' : Act} {Q : Exit → Act → World → Prop}
variable {T : List Nat} {w W W0 W' : World} {L L' LG LG' : List Blk} {Ms MG : List World} {g i t e ty n c : Nat} {cs cs' : List Value} {N : Tmp} {p x s : Operand} {A : Option Addr} {l : List Int} {k kl kh : IntKind} {b y z : Int}
variable {md : Region.Mode} {ds : List Nat} {lb : Array Bool} {fuel : Nat} {oi : Oper}
theorem lelt {v : Value} (hN : o.dst = some N) (hw : Region.wanted o (yielded ops a.tmps) = true) (hv : (execOp a.eval o).run P W = .ok (.value v) W) (ha : a.put (some N) v = a') (h : GL P ops Q rest a' W) : GL P ops Q (o :: rest) a W := lpure hN hw hv ha h
theorem relt (F : Fr T w W L Ms) (j : Nat) {v : Value} (hi : ops[j]? = some oi) (hN : oi.dst = some N) (hw : Region.wanted oi (yielded ops a.tmps) = true) (hc : takeB md ops ds lb (lb.setIfInBounds j true) j = true) (hQ : ∀ c a w, Q (.panic c) (a.put oi.dst v) w → Q (.panic c) a w)
  (hv : ∀ W', Fr T w W' L Ms → (execOp a.eval oi).run P W' = .ok (.value v) W') (hp' : a.put (some N) v = a') (h : wpAnyLast P md ops Q (fun w' => Fr T w w' L Ms) ds fuel (lb.setIfInBounds j true) a' W) : wpAnyLast P md ops Q (fun w' => Fr T w w' L Ms) ds (fuel + 1) lb a W :=
 take_ _ hi hN hc hQ (.inl ⟨hw, fun W' F' => hv W' F'⟩) F hp' h
theorem Fr.part (F : Fr T w W LG MG) (hL : L.Sublist LG) (hM : ∀ M, M ∈ Ms → M ∈ MG) : Fr T w W L Ms :=
 ⟨F.below, fun b h => F.blk b (hL.subset h), F.nd.sublist hL, fun M h => F.mv M (hM M h)⟩
theorem Fr.erase (F : Fr T w W LG MG) (n : Nat) : Fr T w W (LG.eraseIdx n) MG := F.part (List.eraseIdx_sublist _ _) (fun _ h => h)
theorem Fr.region2 (F : Fr T w W LG MG) (FS : Fr T w W L Ms) {id n : Nat} (hm : P.follows .mixedOrders = true) (hn : ops.size = n)
  (h : ∀ W1, Fr T w W1 L Ms → Fr T w W1 LG MG → wpAnyLast P .any ops Q (fun w' => Fr T w w' L Ms) [] n (Array.replicate n false) a W1) : (Code.region id ops true).wp P Q a W :=
 start_ _ hm hn rfl FS.drew (fun h1 => h _ h1 F.drew)
theorem rone_ (j : Nat) (hi : ops[j]? = some oi) (hc : readyB md ops lb (lb.setIfInBounds j true) j = true) (hd : j ∉ ds) (hw : Region.wanted oi (yielded ops a.tmps) = true) {S : World → Prop}
  (h : ∀ K : Act → World → Prop, Shut (∀ a' w', S w' → (S w' → wpAnyLast P md ops Q S ds fuel (lb.setIfInBounds j true) a' w') → K a' w') → Oper.wp P oi a W K Q) : wpAnyLast P md ops Q S ds (fuel + 1) lb a W :=
 one_ _ hi rfl hc hd (fun K hK => by rw [if_pos hw]; exact h K hK)
theorem rstore (F : Fr T w W LG MG) {u : Value} {seg : List Value} (j : Nat) (hi : ops[j]? = some oi) (ho : oi.op = .store ty p x) (hN : oi.dst = none) (hw : Region.wanted oi (yielded ops a.tmps) = true) (hc : readyB md ops lb (lb.setIfInBounds j true) j = true) (hd : j ∉ ds)
  (hp : a.eval p = .pointer (some ⟨g, i, none⟩)) (hx : a.eval x = u) (hu : u.cells.toList = seg) (ht : (P.info? ty).map (·.size) = some n) (hn : seg.length = n) (h1 : seg.all (·.oneCell') = true) (ha : At LG g cs t cs' LG') (hv : cs.take i ++ seg ++ cs.drop (i + n) = cs') (hl : i + n ≤ cs.length)
  (hS : ∀ w1, Fr T w w1 LG' MG → Fr T w w1 L Ms) (h : ∀ w1, Fr T w w1 L Ms → Fr T w w1 LG' MG → wpAnyLast P md ops Q (fun w' => Fr T w w' L Ms) ds fuel (lb.setIfInBounds j true) a w1) :
  wpAnyLast P md ops Q (fun w' => Fr T w w' L Ms) ds (fuel + 1) lb a W := by
 subst hn
 subst hv
 have hg := (F.blk _ ha.mem).1
 obtain ⟨a1, a2, a3, a4, a5, a6⟩ := setCells_heap (t := t) g seg i W cs hg hl
 refine rone_ j hi hc hd hw (fun K hK => ?_)
 have hrun : (Instr.storeAt ty (.pointer (some ⟨g, i, none⟩)) u).run P W = .ok () (W.setCells g i seg) := run_store_run ty u seg hg hu ht (by simpa using hl) (fun q hq => List.all_eq_true.1 h1 q hq)
 unfold Oper.wp execOp
 simp only [ho, hp, hx, Sem.run_bind, Sem.run_pure, Result.andThen_ok, hrun]
 show K (a.put oi.dst undef) _
 rw [hN]
 have FG := F.set ha a3 a4 a5 a6 a1 a2
 exact hK _ _ (hS _ FG) (fun F' => h _ F' FG)
theorem rstoreRow (F : Fr T w W LG MG) {seg : List Value} (j : Nat) (hi : ops[j]? = some oi) (ho : oi.op = .store ty p x) (hN : oi.dst = none) (hw : Region.wanted oi (yielded ops a.tmps) = true) (hc : readyB md ops lb (lb.setIfInBounds j true) j = true) (hd : j ∉ ds)
  (ht : IsRow P ty n) (hp : a.eval p = .pointer (some ⟨g, i, none⟩)) (hx : a.eval x = .agg seg.toArray) (hn : seg.length = n) (h1 : seg.all (·.oneCell') = true) (ha : At LG g cs t cs' LG') (hv : cs.take i ++ seg ++ cs.drop (i + n) = cs') (hl : i + n ≤ cs.length)
  (hS : ∀ w1, Fr T w w1 LG' MG → Fr T w w1 L Ms) (h : ∀ w1, Fr T w w1 L Ms → Fr T w w1 LG' MG → wpAnyLast P md ops Q (fun w' => Fr T w w' L Ms) ds fuel (lb.setIfInBounds j true) a w1) :
  wpAnyLast P md ops Q (fun w' => Fr T w w' L Ms) ds (fuel + 1) lb a W := rstore F j hi ho hN hw hc hd hp hx rfl ht.n hn h1 ha hv hl hS h
theorem Fr.lempty (F : Fr T w W L Ms) (hN : o.dst = some N) (hw : Region.wanted o (yielded ops a.tmps) = true)
  (hrun : (execOp a.eval o).run P W = .ok (.value (.slice (some ⟨W.heap.size, 0, none⟩) 0 0)) (W.alloc (.cells #[] e (0, 0))))
  (h : ∀ g w1, W.heap.size ≤ g → Below W.heap.size W w1 → w1.heap[g]? = some (.cells #[] e (0, 0)) → Fr T w w1 L Ms → GL P ops Q rest (a.put (some N) (.slice (some ⟨g, 0, none⟩) 0 0)) w1) : GL P ops Q (o :: rest) a W := by
 refine ⟨wpList_step fun K hK => lon hw ?_⟩
 unfold Oper.wp
 rw [hrun]
 show K (a.put o.dst _) _
 rw [hN]
 exact hK _ _ (h _ _ (Nat.le_refl _) (below_alloc (Below.refl _ _) _) (blk_new W _) (F.call (below_alloc (Below.refl _ _) _))).out
theorem ronto {S : World → Prop} (j : Nat) (hi : ops[j]? = some oi) (hN : oi.dst = some N) (hc : readyB md ops lb (lb.setIfInBounds j true) j = true) (hd : j ∉ ds)
  (h : ∀ K : Act → World → Prop, Shut (∀ a' w', S w' → (S w' → wpAnyLast P md ops Q S ds fuel (lb.setIfInBounds j true) a' w') → K a' w') → if Region.wanted oi (yielded ops a.tmps) = true then Oper.wp P oi a W K Q else K (a.put oi.dst undef) W) : wpAnyLast P md ops Q S ds (fuel + 1) lb a W := by
 refine one_ _ hi hN hc hd ?_
 rw [hN] at h
 exact h
theorem Fr.row2 {α : Type} {d : Kd α} {e : Nat} {ok : Nat → Prop} {v : Value} {xs : List α} {w1 : World} (F : Fr T w W L Ms) (ho : d.R e w1 W.heap.size ok v xs) : Aside0 (d.R e w1 w.heap.size (fun k => ok k ∧ W.heap.size ≤ k ∧ k < w1.heap.size) v xs) :=
 ⟨Kd.R_lower (Kd.R_mono (Kd.R_bound ho) (fun _ hk => ⟨hk.1, hk.2.1, hk.2.2.1⟩)) F.below.size⟩
theorem Fr.rowS2 {α : Type} {d : Kd α} {e : Nat} {ok : Nat → Prop} {v : Value} {xs : List α} {w1 : World} (F : Fr T w W L Ms) (ho : Kd.S d e w1 W.heap.size ok v xs) : Aside0 (Kd.S d e w1 w.heap.size (fun k => ok k ∧ W.heap.size ≤ k ∧ k < w1.heap.size) v xs) :=
 ⟨Kd.S_lower (Kd.S_mono (Kd.S_bound ho) (fun _ hk => ⟨hk.1, hk.2.1, hk.2.2.1⟩)) F.below.size⟩
theorem Fr.grown2 (F : Fr T w W L Ms) {row : Option Nat} {w1 : World} (hb : Below w.heap.size w w1) (hg : W.grownBy w1 row) (hr : ∀ k, row = some k → ∃ cs, W.heap[k]? = some (.cells cs e (0, 0))) (ht : e ∉ T) : Fr T w w1 L [w1] := by
 refine ⟨hb, fun b h => ⟨?_, (F.blk b h).2⟩, F.nd, fun M hM => ?_⟩
 ·refine blk_grown (F.blk b h).1 hg (fun he => ?_)
  obtain ⟨cs, h2⟩ := hr _ he.symm
  have h1 := (F.blk b h).1
  rw [h1] at h2
  injection h2 with h2
  injection h2 with _ h2
  exact ht (h2 ▸ (F.blk b h).2.2)
 ·obtain rfl := List.mem_singleton.1 hM
  exact .refl _ _
theorem R_typed {base : Nat} {ok : Nat → Prop} {v : Value} {xs : List Int} (h : (Kd.int k).R e W base ok v xs) : ∀ q, v.ownBlock = some q → ∃ cs, W.heap[q]? = some (.cells cs e (0, 0)) := fun q hk => by
 obtain ⟨_, _, _, z, hz, c, hc⟩ := (Kd.R_bound h).1 q hk
 have : z = e := by simpa [Kd.int, Kd.scalar] using hz
 subst this
 exact ⟨c, hc⟩
theorem empty_row {W1 : World} (F : Fr T w W L Ms) (hg0 : W.heap.size ≤ g) (hg : W1.heap[g]? = some (.cells #[] e (0, 0))) : Aside0 ((Kd.int k).R e W1 w.heap.size (fun _ => True) (.slice (some ⟨g, 0, none⟩) ([] : List Int).length 0) []) :=
 ⟨⟨fun _ _ => trivial, [], ⟨rfl, .inr ⟨g, 0, _, rfl, Nat.le_trans F.below.size hg0, hg, Nat.zero_le _, Nat.zero_le _, by simp [Kd.int, Kd.scalar], by simp⟩⟩, Reps.none _ _⟩⟩
theorem run_append {bytes : Nat} {K : Act → World → Prop} {s x : Operand} {t e : TypeId} {ok : Nat → Prop} {v : Value} {xs : List Int} (F : Fr T w W L Ms) (hw : Region.wanted oi (yielded ops a.tmps) = true) (ho : oi.op = .call { callee := .builtin .append, args := #[s, x], argTypes := #[t, t] }) (hN : oi.dst = some N) (hu : P.underlying t = some (.slice e)) (hinfo : (P.info? e).map (fun i => (i.zero, i.size, i.bytes)) = some (some (Value.int k 0), 1, bytes)) (hb : 0 < bytes)
  (hs : a.eval s = v) (hx : a.eval x = .slice A l.length c) (HO : (Kd.int k).R e W w.heap.size ok v xs) (ht : e ∉ T) (hC : (Kd.int k).C W A l.length l) (hl : (xs.length + l.length) * bytes ≤ 140737488355328)
  (h : ∀ v1 w1, (Kd.int k).R e w1 w.heap.size (fun _ => True) v1 (xs ++ l) → Fr T w w1 L [w1] → K (a.put (some N) v1) w1) : if Region.wanted oi (yielded ops a.tmps) = true then Oper.wp P oi a W K Q else K (a.put oi.dst undef) W := by
 rw [← hN] at h
 have hO := Kd.R_mono HO (fun _ _ => True.intro)
 refine Kd.R_append_rows_step (Kd.int k) (w0 := w) w.heap.size hw s x t e (.int k 0) bytes ho hu hinfo rfl (show 0 < 1 by decide) hb v xs l _ _ _ (fun _ => True) (fun _ => False) hs hx hO hC (fun _ _ h => h) (fun _ h => h.elim) (fun _ _ => trivial) F.below F.below.size (by simpa using hl) ?_
 intro v1 w1 h1 h2 h3 _
 exact h v1 w1 h1 (F.grown2 h2 h3 (R_typed HO) ht)
end
end Go.Proofs.YtffkgndghbdgnaaGreat.Frame
namespace Go.Proofs.YtffkgndghbdgnaaGreat.Frame
set_option linter.unusedVariables false
set_option linter.unusedSimpArgs false
open Go.RowKit Go.Proofs.YtffkgndghbdgnaaGreatW.PrintWords Go.Proofs.YtffkgndghbdgnaaGreatW.PrintLast Go.Proofs.YtffkgndghbdgnaaGreatW.PrintMore
class Sh (c : Prop) (P N : outParam Prop) : Prop where
 pos : c → P
 neg : ¬ c → N
instance (b : Bool) : Sh (b = true) (b = true) (b = false) := ⟨fun h => h, Bool.eq_false_iff.mpr⟩
instance (priority := high) {α : Type} [BEq α] [LawfulBEq α] (x y : α) : Sh ((x != y) = true) ((x != y) = true ∧ (x == y) = false) (x = y) := ⟨fun h => ⟨h, beq_eq_false_iff_ne.mpr (bne_iff_ne.mp h)⟩, fun h => bne_eq_false_iff_eq.mp (Bool.eq_false_iff.mpr h)⟩
instance (a b : Int) : Sh (a = b) ((a == b) = true ∧ (a != b) = false) ((a == b) = false ∧ (a != b) = true) := ⟨fun h => ⟨beq_iff_eq.mpr h, bne_eq_false_iff_eq.mpr h⟩, fun h => ⟨beq_eq_false_iff_ne.mpr h, bne_iff_ne.mpr h⟩⟩
instance (a b : Int) : Sh (a ≤ b) (decide (a ≤ b) = true) (decide (a ≤ b) = false) := ⟨decide_eq_true, decide_eq_false⟩
instance (a b : Int) : Sh (a < b) (decide (a < b) = true) (decide (a < b) = false) := ⟨decide_eq_true, decide_eq_false⟩
instance (a b : Nat) : Sh (a ≤ b) (decide (a ≤ b) = true) (decide (a ≤ b) = false) := ⟨decide_eq_true, decide_eq_false⟩
instance (a b : Nat) : Sh (a < b) (decide (a < b) = true) (decide (a < b) = false) := ⟨decide_eq_true, decide_eq_false⟩
theorem nE {α : Type} {r : α} {G : Prop} (h : Aside0 ((none : Option α) = some r)) : G := (none_ne h.out).elim
class Bad {α : Type} (x r : α) : Prop where
 no : x = r → False
instance {α : Type} (r : α) : Bad (none : Option α) (some r) := ⟨none_ne⟩
instance : Bad (some false : Option Bool) (some true) := ⟨ft_ne⟩
theorem xE {α : Type} {x r : α} [b : Bad x r] {G : Prop} (h : Aside0 (x = r)) : G := (b.no h.out).elim
theorem iA {α : Type} {c P N X : Prop} [Decidable c] [s : Sh c P N] {x y r : α} (HP : Aside0 X) (h : Aside0 ((if c then x else y) = r)) : (P ∧ Aside0 (c ∧ X) ∧ Aside0 (x = r)) ∨ (N ∧ Aside0 (¬ c ∧ X) ∧ Aside0 (y = r)) := by
 rcases ite_ways h.out with ⟨hc, h⟩ | ⟨hc, h⟩
 ·exact .inl ⟨s.pos hc, ⟨hc, HP.out⟩, ⟨h⟩⟩
 ·exact .inr ⟨s.neg hc, ⟨hc, HP.out⟩, ⟨h⟩⟩
theorem bA {α β : Type} {x : Option α} {f : α → Option β} {r : β} (h : Aside0 (x.bind f = some r)) : ∃ t, Aside0 (x = some t) ∧ Aside0 (f t = some r) := by
 obtain ⟨t, h1, h2⟩ := Option.bind_eq_some_iff.mp h.out
 exact ⟨t, ⟨h1⟩, ⟨h2⟩⟩
section
variable {P : Program} {ops : Array Oper} {rest : List Oper} {o oi : Oper} {a a' : Act} {Q : Exit → Act → World → Prop}
variable {T : List Nat} {w W : World} {L L' LG LG' : List Blk} {Ms MG : List World} {g i t n : Nat} {cs cs' seg : List Value} {ty : Nat} {N : Tmp} {p x : Operand} {v : Value}
variable {md : Region.Mode} {ds : List Nat} {l : Array Bool} {fuel : Nat}
theorem pA (h : GL P ops Q rest a' W) (hN : o.dst = some N := by rfl) (hw : Region.wanted o (yielded ops a.tmps) = true := by rfl) (hv : (execOp a.eval o).run P W = .ok (.value v) W := by (go_simp; with_reducible rfl))
  (ha : a.put (some N) v = a' := by (simp only [Act.put, List.setIfInBounds_toArray, List.set_cons_zero, List.set_cons_succ, i64_w, i32_w, u8_wr, tmod_nat, Int.reduceToNat, List.map_cons, List.map_nil]; rfl)) : GL P ops Q (o :: rest) a W := lpure hN hw hv ha h
theorem oA (h : GL P ops Q rest a' W) (hN : o.dst = some N := by rfl) (hw : Region.wanted o (yielded ops a.tmps) = false := by rfl)
  (ha : a.put (some N) undef = a' := by (simp only [Act.put, List.setIfInBounds_toArray, List.set_cons_zero, List.set_cons_succ]; rfl)) : GL P ops Q (o :: rest) a W := loff hN hw ha h
theorem nA (h : GL P ops Q rest a' W) (ha : a = a' := by (simp only [Act.put, List.setIfInBounds_toArray, List.set_cons_zero, List.set_cons_succ, i64_w, i32_w, u8_wr, tmod_nat, Int.reduceToNat, List.map_cons, List.map_nil]; rfl)) : GL P ops Q rest a W := lnorm ha h
theorem Fr.sA (F : Fr T w W L Ms) {u : Value} (h : ∀ w1, Fr T w w1 L' Ms → GL P ops Q rest a w1) (ho : o.op = .store ty p x := by rfl) (hgd : o.guard = none := by rfl) (hd : o.dst = none := by rfl) (ht : IsOne P ty := by first | exact One.h | assumption) (hp : a.eval p = .pointer (some ⟨g, i, none⟩) := by rfl) (hx : a.eval x = u := by (go_simp; rfl)) (hu : u.cells = #[u] := by rfl)
  (h1 : u.oneCell' = true := by rfl) (ha : At L g cs t cs' L' := by (repeat (first | apply At.head | apply At.tail))) (hv : cs.set i u = cs' := by (simp only [List.set_cons_succ, List.set_cons_zero]; rfl)) (hl : i < cs.length := by simp) : GL P ops Q (o :: rest) a W := F.lstoreOne ho hgd hd ht hp hx hu h1 ha hv hl h
theorem Fr.tA (F : Fr T w W L Ms) (h : ∀ w1, Fr T w w1 L' Ms → GL P ops Q rest a w1) (ho : o.op = .store ty p x := by rfl) (hgd : o.guard = none := by rfl) (hd : o.dst = none := by rfl) (ht : IsRow P ty n := by first | exact Row.h | assumption) (hp : a.eval p = .pointer (some ⟨g, i, none⟩) := by rfl) (hx : a.eval x = .agg seg.toArray := by (go_simp; rfl)) (hn : seg.length = n := by rfl)
  (h1 : seg.all (·.oneCell') = true := by rfl) (ha : At L g cs t cs' L' := by (repeat (first | apply At.head | apply At.tail))) (hv : cs.take i ++ seg ++ cs.drop (i + n) = cs' := by (simp only [List.drop_succ_cons, List.drop_zero, List.drop_nil, List.take_succ_cons, List.take_zero, List.cons_append, List.nil_append, List.append_nil]; rfl)) (hl : i + n ≤ cs.length := by simp) : GL P ops Q (o :: rest) a W := F.lstoreRow ho hgd hd ht hp hx hn h1 ha hv hl h
theorem Fr.bA (F : Fr T w W L Ms) (h : ∀ g w1, Fr T w w1 ((g, cs, t) :: L) Ms → GL P ops Q rest (a.put (some N) (.pointer (some ⟨g, 0, none⟩))) w1) (ho : o.op = .box ty x := by rfl) (hgd : o.guard = none := by rfl) (hd : o.dst = some N := by rfl)
  (hrun : (execOp a.eval o).run P W = .ok (.value (.pointer (some ⟨W.heap.size, 0, none⟩))) (W.alloc (.cells cs.toArray t (0, 0))) := by (go_simp; rfl)) (ht : t ∈ T := by decide) : GL P ops Q (o :: rest) a W := F.lbox ho hgd hd hrun ht h
theorem Fr.aA (F : Fr T w W L Ms) (h : ∀ g w1, Fr T w w1 ((g, cs, t) :: L) Ms → GL P ops Q rest (a.put (some N) (.pointer (some ⟨g, 0, none⟩))) w1) (ho : o.op = .alloc ty := by rfl) (hgd : o.guard = none := by rfl) (hd : o.dst = some N := by rfl)
  (hrun : (execOp a.eval o).run P W = .ok (.value (.pointer (some ⟨W.heap.size, 0, none⟩))) (W.alloc (.cells cs.toArray t (0, 0))) := by (go_simp; rfl)) (ht : t ∈ T := by decide) : GL P ops Q (o :: rest) a W := F.lalloc ho hgd hd hrun ht h
theorem qA (j : Nat) (h : wpAnyLast P md ops Q (fun w' => Fr T w w' L Ms) ds fuel (l.setIfInBounds j true) a' W) (hi : ops[j]? = some oi := by rfl) (hN : oi.dst = some N := by rfl) (hw : Region.wanted oi (yielded ops a.tmps) = true := by rfl) (hc : anyB md ops l (l.setIfInBounds j true) j = true := by (first | exact any_of HT_.out (by kernel_rfl) | kernel_rfl)) (hQ : ∀ c a w, Q (.panic c) (a.put oi.dst v) w → Q (.panic c) a w := by exact fun _ _ _ h => h)
  (hv : ∀ w, (execOp a.eval oi).run P w = .ok (.value v) w := by (intro w_; go_simp; with_reducible rfl)) (ha : a.put (some N) v = a' := by (simp only [Act.put, List.setIfInBounds_toArray, List.set_cons_zero, List.set_cons_succ, i64_w, i32_w, u8_wr, tmod_nat, Int.reduceToNat, List.map_cons, List.map_nil]; rfl)) : wpAnyLast P md ops Q (fun w' => Fr T w w' L Ms) ds (fuel + 1) l a W := Fr.rpure j hi hN hw hc hQ hv ha h
theorem uA (j : Nat) (h : wpAnyLast P md ops Q (fun w' => Fr T w w' L Ms) ds fuel (l.setIfInBounds j true) a' W) (hi : ops[j]? = some oi := by rfl) (hN : oi.dst = some N := by rfl) (hw : Region.wanted oi (yielded ops a.tmps) = false := by rfl) (hc : anyB md ops l (l.setIfInBounds j true) j = true := by (first | exact any_of HT_.out (by kernel_rfl) | kernel_rfl)) (hQ : ∀ c a w, Q (.panic c) (a.put oi.dst undef) w → Q (.panic c) a w := by exact fun _ _ _ h => h)
  (ha : a.put (some N) undef = a' := by (simp only [Act.put, List.setIfInBounds_toArray, List.set_cons_zero, List.set_cons_succ]; rfl)) : wpAnyLast P md ops Q (fun w' => Fr T w w' L Ms) ds (fuel + 1) l a W := Fr.roff j hi hN hw hc hQ ha h
theorem mA {I : World → Prop} (h : wpAnyLast P md ops Q I ds fuel l a' W) (ha : a = a' := by (simp only [Act.put, List.setIfInBounds_toArray, List.set_cons_zero, List.set_cons_succ, i64_w, i32_w, u8_wr, tmod_nat, Int.reduceToNat, List.map_cons, List.map_nil]; rfl)) : wpAnyLast P md ops Q I ds fuel l a W := ha ▸ h
theorem hA {x y : Array Value} (h : x = y := by (first | rfl | (simp only [List.map_toArray, List.map_cons, List.map_nil]; first | done | rfl))) : x = y := h
theorem cA {f : FuncId} {fn : Func} {as : Array Operand} {ts : Array TypeId} {args : Array Value} {R0 : Ending → World → Prop} (hf : P.funcs[f]? = some fn) (hname : (fn.name == "runtime.NumGoroutine") = false) (hb : fn.body.isSome = true) (hop : o.op = .call { callee := .value (.func f), args := as, argTypes := ts }) (hN : o.dst = some N) (hw : Region.wanted o (yielded ops a.tmps) = true)
  (hc : Calls P f args W R0) (hm : ∀ e w', R0 e w' → ∃ v, e = .returned v ∧ GL P ops Q rest (a.put (some N) v) w') (hargs : as.map a.eval = args) : GL P ops Q (o :: rest) a W := lcall hop hN hw hf hname hb (Calls.mono hc hm) hargs
theorem rcA (j : Nat) {f : FuncId} {fn : Func} {as : Array Operand} {ts : Array TypeId} {args : Array Value} {R0 : Ending → World → Prop} (hf : P.funcs[f]? = some fn) (hname : (fn.name == "runtime.NumGoroutine") = false) (hb : fn.body.isSome = true) (hr : readyB md ops l (l.setIfInBounds j true) j = true) (hi : ops[j]? = some oi) (hop : oi.op = .call { callee := .value (.func f), args := as, argTypes := ts }) (hN : oi.dst = some N) (hw : Region.wanted oi (yielded ops a.tmps) = true) (hd : j ∉ ds)
  (hc : Calls P f args W R0) (hm : ∀ e w', R0 e w' → ∃ v, e = .returned v ∧ Fr T w w' L Ms ∧ (Fr T w w' L Ms → wpAnyLast P md ops Q (fun w' => Fr T w w' L Ms) ds fuel (l.setIfInBounds j true) (a.put (some N) v) w')) (hargs : as.map a.eval = args) : wpAnyLast P md ops Q (fun w' => Fr T w w' L Ms) ds (fuel + 1) l a W :=
 rcall j hi hop hN hw hr hd hf hname hb (Calls.mono hc hm) hargs
theorem gA (id : Nat) {k : List Oper} (h : GL P k.toArray Q k a W) : (Code.region id k.toArray false).wp P Q a W := plain_region h
end
end Go.Proofs.YtffkgndghbdgnaaGreat.Frame
namespace Go.Proofs.YtffkgndghbdgnaaGreatW.PrintWords
theorem Reps.one {α : Type} {R : α → List Value → Prop} {ps : List α} {cs : List Value} {p : α} {v : Value} (hp : R p [v]) (h : Reps R 1 ps cs) : Reps R 1 (p :: ps) (v :: cs) := by
 refine ⟨by simp [h.1], fun j q hq => ?_⟩
 cases j with
 | zero =>
  simp only [List.getElem?_cons_zero, Option.some.injEq] at hq
  subst hq
  simpa using hp
 | succ j =>
  simp only [List.getElem?_cons_succ] at hq
  have h1 := h.2 j q hq
  simpa [Nat.mul_one] using h1
theorem Reps.front {α : Type} {R : α → List Value → Prop} {size : Nat} {ps : List α} {cs c all : List Value} {p : α} (hp : R p c) (hc : c.length = size) (h : Reps R size ps cs) (ha : c ++ cs = all) : Reps R size (p :: ps) all := by
 subst ha
 refine ⟨by rw [List.length_append, hc, h.1, List.length_cons, Nat.succ_mul, Nat.add_comm], fun j q hq => ?_⟩
 cases j with
 | zero =>
  simp only [List.getElem?_cons_zero, Option.some.injEq] at hq
  subst hq
  rw [Nat.zero_mul, List.drop_zero, List.take_append_of_le_length (by omega), List.take_of_length_le (by omega)]
  exact hp
 | succ j =>
  simp only [List.getElem?_cons_succ] at hq
  have h1 := h.2 j q hq
  rw [Nat.succ_mul, List.drop_append, List.drop_of_length_le (by rw [hc]; exact Nat.le_add_left _ _), List.nil_append, hc, Nat.add_sub_cancel]
  exact h1
theorem Reps.c2 {α : Type} {R : α → List Value → Prop} {ps : List α} {cs : List Value} {p : α} {va vb : Value} (hp : R p [va, vb]) (h : Reps R 2 ps cs) : Reps R 2 (p :: ps) (va :: vb :: cs) := Reps.front hp rfl h rfl
theorem Reps.c3 {α : Type} {R : α → List Value → Prop} {ps : List α} {cs : List Value} {p : α} {va vb vc : Value} (hp : R p [va, vb, vc]) (h : Reps R 3 ps cs) : Reps R 3 (p :: ps) (va :: vb :: vc :: cs) := Reps.front hp rfl h rfl
theorem Reps.c4 {α : Type} {R : α → List Value → Prop} {ps : List α} {cs : List Value} {p : α} {va vb vc vd : Value} (hp : R p [va, vb, vc, vd]) (h : Reps R 4 ps cs) : Reps R 4 (p :: ps) (va :: vb :: vc :: vd :: cs) := Reps.front hp rfl h rfl
theorem Reps.c5 {α : Type} {R : α → List Value → Prop} {ps : List α} {cs : List Value} {p : α} {va vb vc vd ve : Value} (hp : R p [va, vb, vc, vd, ve]) (h : Reps R 5 ps cs) : Reps R 5 (p :: ps) (va :: vb :: vc :: vd :: ve :: cs) := Reps.front hp rfl h rfl
theorem Reps.c6 {α : Type} {R : α → List Value → Prop} {ps : List α} {cs : List Value} {p : α} {va vb vc vd ve vf : Value} (hp : R p [va, vb, vc, vd, ve, vf]) (h : Reps R 6 ps cs) : Reps R 6 (p :: ps) (va :: vb :: vc :: vd :: ve :: vf :: cs) := Reps.front hp rfl h rfl
theorem Reps.c7 {α : Type} {R : α → List Value → Prop} {ps : List α} {cs : List Value} {p : α} {va vb vc vd ve vf vg : Value} (hp : R p [va, vb, vc, vd, ve, vf, vg]) (h : Reps R 7 ps cs) : Reps R 7 (p :: ps) (va :: vb :: vc :: vd :: ve :: vf :: vg :: cs) := Reps.front hp rfl h rfl
theorem Reps.c8 {α : Type} {R : α → List Value → Prop} {ps : List α} {cs : List Value} {p : α} {va vb vc vd ve vf vg vh : Value} (hp : R p [va, vb, vc, vd, ve, vf, vg, vh]) (h : Reps R 8 ps cs) : Reps R 8 (p :: ps) (va :: vb :: vc :: vd :: ve :: vf :: vg :: vh :: cs) := Reps.front hp rfl h rfl
theorem Reps.c9 {α : Type} {R : α → List Value → Prop} {ps : List α} {cs : List Value} {p : α} {va vb vc vd ve vf vg vh vi : Value} (hp : R p [va, vb, vc, vd, ve, vf, vg, vh, vi]) (h : Reps R 9 ps cs) : Reps R 9 (p :: ps) (va :: vb :: vc :: vd :: ve :: vf :: vg :: vh :: vi :: cs) := Reps.front hp rfl h rfl
theorem Reps.c10 {α : Type} {R : α → List Value → Prop} {ps : List α} {cs : List Value} {p : α} {va vb vc vd ve vf vg vh vi vj : Value} (hp : R p [va, vb, vc, vd, ve, vf, vg, vh, vi, vj]) (h : Reps R 10 ps cs) : Reps R 10 (p :: ps) (va :: vb :: vc :: vd :: ve :: vf :: vg :: vh :: vi :: vj :: cs) := Reps.front hp rfl h rfl
end Go.Proofs.YtffkgndghbdgnaaGreatW.PrintWords
namespace Go.Proofs.YtffkgndghbdgnaaGreat.Frame
set_option linter.unusedVariables false
set_option linter.unusedSimpArgs false
open Go.RowKit Go.Proofs.YtffkgndghbdgnaaGreatW.PrintWords Go.Proofs.YtffkgndghbdgnaaGreatW.PrintLast Go.Proofs.YtffkgndghbdgnaaGreatW.PrintMore
theorem reps_ints {k : IntKind} {W : World} {b : Nat} {ok : Nat → Prop} : ∀ xs : List Int, Reps ((Kd.int k).M W b ok) (Kd.int k).sz xs (xs.map (Value.int k))
 | [] => Reps.none _ _
 | x :: xs => Reps.one (show Kd.M (Kd.int k) _ _ _ x [.int k x] from rfl) (reps_ints xs)
theorem lit_row {k : IntKind} {w W1 : World} {g e : Nat} {xs : List Int} (hg0 : w.heap.size ≤ g) (hg : W1.heap[g]? = some (.cells (xs.map (Value.int k)).toArray e (0, 0))) (hm : xs.length ≤ maxLen) : Aside0 ((Kd.int k).R e W1 w.heap.size (fun _ => True) (.slice (some ⟨g, 0, none⟩) xs.length xs.length) xs) :=
 ⟨⟨fun _ _ => trivial, xs.map (Value.int k), ⟨by simp [Kd.int, Kd.scalar], .inr ⟨g, xs.length, _, rfl, hg0, hg, Nat.le_refl _, hm, by simp [Kd.int, Kd.scalar], List.take_of_length_le (by simp [Kd.int, Kd.scalar])⟩⟩, reps_ints xs⟩⟩
class One (P : Program) (t : Nat) : Prop where
 h : IsOne P t
class Row (P : Program) (t : Nat) (n : outParam Nat) : Prop where
 h : IsRow P t n
section
variable {P : Program} {ops : Array Oper} {rest : List Oper} {o oi : Oper} {a a' : Act} {Q : Exit → Act → World → Prop}
variable {T : List Nat} {w W : World} {L L' LG : List Blk} {Ms MG : List World} {g i t n : Nat} {cs cs' seg : List Value} {ty : Nat} {N : Tmp} {p x : Operand} {v : Value}
variable {md : Region.Mode} {ds : List Nat} {l : Array Bool} {fuel : Nat} {S : World → Prop}
structure St (P : Program) (ops : Array Oper) (o : Oper) (a : Act) (W : World) (a' : Act) : Prop where
 k : ∀ Q rest, GL P ops Q rest a' W → GL P ops Q (o :: rest) a W
theorem pS (hN : o.dst = some N := by rfl) (hw : Region.wanted o (yielded ops a.tmps) = true := by rfl) (hv : (execOp a.eval o).run P W = .ok (.value v) W := by (go_simp; with_reducible rfl))
  (ha : a.put (some N) v = a' := by (simp only [Act.put, List.setIfInBounds_toArray, List.set_cons_zero, List.set_cons_succ, i64_w, i32_w, u8_wr, tmod_nat, Int.reduceToNat, List.map_cons, List.map_nil]; rfl)) : St P ops o a W a' := ⟨fun _ _ h => lpure hN hw hv ha h⟩
theorem oS (hN : o.dst = some N := by rfl) (hw : Region.wanted o (yielded ops a.tmps) = false := by rfl)
  (ha : a.put (some N) undef = a' := by (simp only [Act.put, List.setIfInBounds_toArray, List.set_cons_zero, List.set_cons_succ]; rfl)) : St P ops o a W a' := ⟨fun _ _ h => loff hN hw ha h⟩
theorem Fr.lS (F : Fr T w W L Ms) (ho : o.op = .load ty p := by rfl) (hN : o.dst = some N := by rfl) (hw : Region.wanted o (yielded ops a.tmps) = true := by rfl) (h1 : IsOne P ty := by exact One.h) (hp : a.eval p = .pointer (some ⟨g, i, none⟩) := by rfl)
  (ha : At L g cs t cs L := by (repeat (first | exact At.head | apply At.tail))) (hv : cs[i]? = some v := by rfl) (hp' : a.put (some N) v = a' := by (simp only [Act.put, List.setIfInBounds_toArray, List.set_cons_zero, List.set_cons_succ]; rfl)) : St P ops o a W a' := ⟨fun _ _ h => F.lone ho hN hw h1 hp ha hv hp' h⟩
theorem Fr.rS (F : Fr T w W L Ms) (ho : o.op = .load ty p := by rfl) (hN : o.dst = some N := by rfl) (hw : Region.wanted o (yielded ops a.tmps) = true := by rfl) (h1 : IsRow P ty n := by exact Row.h) (hp : a.eval p = .pointer (some ⟨g, i, none⟩) := by rfl)
  (ha : At L g cs t cs L := by (repeat (first | exact At.head | apply At.tail))) (hv : (cs.drop i).take n = seg := by (simp only [List.drop_succ_cons, List.drop_zero, List.take_succ_cons, List.take_zero]; rfl)) (hn : seg.length = n := by rfl) (hp' : a.put (some N) (.agg seg.toArray) = a' := by (simp only [Act.put, List.setIfInBounds_toArray, List.set_cons_zero, List.set_cons_succ]; rfl)) : St P ops o a W a' := ⟨fun _ _ h => F.lrow ho hN hw h1 hp ha hv hn hp' h⟩
theorem sA (h : GL P ops Q rest a' W) (hs : St P ops o a W a' := by first | exact HF.lS | exact HF.rS | exact pS | exact oS) : GL P ops Q (o :: rest) a W := hs.k _ _ h
structure Sd (P : Program) (md : Region.Mode) (ops : Array Oper) (Q : Exit → Act → World → Prop) (S : World → Prop) (ds : List Nat) (l : Array Bool) (j : Nat) (a : Act) (W : World) (a' : Act) : Prop where
 k : ∀ fuel, wpAnyLast P md ops Q S ds fuel (l.setIfInBounds j true) a' W → wpAnyLast P md ops Q S ds (fuel + 1) l a W
theorem qS (j : Nat) (hi : ops[j]? = some oi := by rfl) (hN : oi.dst = some N := by rfl) (hw : Region.wanted oi (yielded ops a.tmps) = true := by rfl) (hc : anyB md ops l (l.setIfInBounds j true) j = true := by (first | exact any_of HT_.out (by kernel_rfl) | kernel_rfl)) (hQ : ∀ c a w, Q (.panic c) (a.put oi.dst v) w → Q (.panic c) a w := by exact fun _ _ _ h => h)
  (hv : ∀ w, (execOp a.eval oi).run P w = .ok (.value v) w := by (intro w_; go_simp; with_reducible rfl)) (ha : a.put (some N) v = a' := by (simp only [Act.put, List.setIfInBounds_toArray, List.set_cons_zero, List.set_cons_succ, i64_w, i32_w, u8_wr, tmod_nat, Int.reduceToNat, List.map_cons, List.map_nil]; rfl)) : Sd P md ops Q (fun w' => Fr T w w' L Ms) ds l j a W a' := ⟨fun _ h => Fr.rpure j hi hN hw hc hQ hv ha h⟩
theorem uS (j : Nat) (hi : ops[j]? = some oi := by rfl) (hN : oi.dst = some N := by rfl) (hw : Region.wanted oi (yielded ops a.tmps) = false := by rfl) (hc : anyB md ops l (l.setIfInBounds j true) j = true := by (first | exact any_of HT_.out (by kernel_rfl) | kernel_rfl)) (hQ : ∀ c a w, Q (.panic c) (a.put oi.dst undef) w → Q (.panic c) a w := by exact fun _ _ _ h => h)
  (ha : a.put (some N) undef = a' := by (simp only [Act.put, List.setIfInBounds_toArray, List.set_cons_zero, List.set_cons_succ]; rfl)) : Sd P md ops Q (fun w' => Fr T w w' L Ms) ds l j a W a' := ⟨fun _ h => Fr.roff j hi hN hw hc hQ ha h⟩
theorem Fr.wS (F : Fr T w W L Ms) (j : Nat) (hi : ops[j]? = some oi := by rfl) (ho : oi.op = .load ty p := by rfl) (hN : oi.dst = some N := by rfl) (hw : Region.wanted oi (yielded ops a.tmps) = true := by rfl) (hc : takeB md ops ds l (l.setIfInBounds j true) j = true := by (first | exact take_ofW HT_.out HW_.out (by kernel_rfl) | exact take_of HT_.out (by kernel_rfl) | kernel_rfl)) (hQ : ∀ c a w, Q (.panic c) (a.put oi.dst v) w → Q (.panic c) a w := by exact fun _ _ _ h => h)
  (h1 : IsOne P ty := by exact One.h) (hp : a.eval p = .pointer (some ⟨g, i, none⟩) := by rfl) (ha : At L g cs t cs L := by (repeat (first | exact At.head | apply At.tail))) (hv : cs[i]? = some v := by rfl) (hp' : a.put (some N) v = a' := by (simp only [Act.put, List.setIfInBounds_toArray, List.set_cons_zero, List.set_cons_succ]; rfl)) : Sd P md ops Q (fun w' => Fr T w w' L Ms) ds l j a W a' := ⟨fun _ h => F.rone j hi ho hN hw hc hQ h1 hp ha hv hp' h⟩
theorem Fr.vS (F : Fr T w W L Ms) (j : Nat) (hi : ops[j]? = some oi := by rfl) (ho : oi.op = .load ty p := by rfl) (hN : oi.dst = some N := by rfl) (hw : Region.wanted oi (yielded ops a.tmps) = true := by rfl) (hc : takeB md ops ds l (l.setIfInBounds j true) j = true := by (first | exact take_ofW HT_.out HW_.out (by kernel_rfl) | exact take_of HT_.out (by kernel_rfl) | kernel_rfl)) (hQ : ∀ c a w, Q (.panic c) (a.put oi.dst (.agg seg.toArray)) w → Q (.panic c) a w := by exact fun _ _ _ h => h)
  (h1 : IsRow P ty n := by exact Row.h) (hp : a.eval p = .pointer (some ⟨g, i, none⟩) := by rfl) (ha : At L g cs t cs L := by (repeat (first | exact At.head | apply At.tail))) (hv : (cs.drop i).take n = seg := by (simp only [List.drop_succ_cons, List.drop_zero, List.take_succ_cons, List.take_zero]; rfl)) (hn : seg.length = n := by rfl) (hp' : a.put (some N) (.agg seg.toArray) = a' := by (simp only [Act.put, List.setIfInBounds_toArray, List.set_cons_zero, List.set_cons_succ]; rfl)) : Sd P md ops Q (fun w' => Fr T w w' L Ms) ds l j a W a' := ⟨fun _ h => F.rrow j hi ho hN hw hc hQ h1 hp ha hv hn hp' h⟩
theorem dA (j : Nat) (h : wpAnyLast P md ops Q S ds fuel (l.setIfInBounds j true) a' W) (hs : Sd P md ops Q S ds l j a W a' := by first | exact HF.wS _ | exact HF.vS _ | exact qS _ | exact uS _) : wpAnyLast P md ops Q S ds (fuel + 1) l a W := hs.k _ h
theorem Fr.pC {α : Type} {d : Kd α} {A : Option Addr} {m : Nat} {xs : List α} (F : Fr T w W L Ms) (h : Aside0 (d.C w A m xs)) : d.C W A m xs := Kd.C_below h.out F.below
theorem Fr.r1 {α : Type} {d : Kd α} {e c : Nat} {ok : Nat → Prop} {A : Option Addr} {xs : List α} {M : World} (F : Fr T w W L Ms) (ho : Aside0 (d.R e M w.heap.size ok (.slice A xs.length c) xs)) (hM : M ∈ Ms := by simp) (ht : ∀ q, q ∈ e :: d.E → q ∉ T := by decide) : d.C W A xs.length xs := (F.rowC ho hM ht).1
theorem Fr.r2 {α : Type} {d : Kd α} {e c : Nat} {ok : Nat → Prop} {A : Option Addr} {xs : List α} {M : World} (F : Fr T w W L Ms) (ho : Aside0 (d.R e M w.heap.size ok (.slice A xs.length c) xs)) (hM : M ∈ Ms := by simp) (ht : ∀ q, q ∈ e :: d.E → q ∉ T := by decide) : xs.length ≤ c := (F.rowC ho hM ht).2
theorem gP {G : Prop} (h : G := by first | exact HF.pC (by assumption) | exact Aside0.out (by assumption) | exact HG.r1 (by assumption) | exact HF.r1 (by assumption) | exact HG.r2 (by assumption) | exact HF.r2 (by assumption) | exact Kd.C_nil _ _ | exact Nat.le_refl 0) : G := h
theorem bN {p : Prop} (h : p := by first | omega | exact of_decide_eq_true (by assumption) | (have h_ := HP.out; omega)) : p := h
theorem vE {α : Type} {x y : α} (h : x = y := by first | rfl | (simp [errW_none, errW_some] <;> rfl) | (simp [*, errW_none, errW_some] <;> rfl) | (simp [wrap64]; done)) : x = y := h
theorem vF {α : Type} {x y : α} (h : x = y := by first | rfl | (simp; done) | (simp [*]; done)) : x = y := h
theorem vD {w w' : World} (h : Drawn0 w w' := by repeat (first | exact Drawn0.refl _ | apply Drawn0.step)) : Drawn0 w w' := h
theorem rN {α : Type} {d : Kd α} {e : Nat} {ok : Nat → Prop} {v : Value} {xs : List α} {M : World} (F : Fr T w W L Ms) (ho : Aside0 (d.R e M w.heap.size ok v xs)) (hM : M ∈ Ms := by simp) (ht : ∀ q, q ∈ e :: d.E → q ∉ T := by decide) : d.R e W w.heap.size (fun _ => True) v xs := Kd.R_mono (F.row_now ho.out hM ht) (fun _ _ => True.intro)
section
variable {f : FuncId} {fn : Func} {as : Array Operand} {ts : Array TypeId} {args : Array Value}
theorem Fr.cB (F : Fr T w W L Ms) (hf : P.funcs[f]? = some fn) (hc : Calls P f args W fun e w' => e = .returned v ∧ Below W.heap.size W w') (h : ∀ w1, Fr T w w1 L Ms → GL P ops Q rest a' w1)
  (hop : o.op = .call { callee := .value (.func f), args := as, argTypes := ts } := by rfl) (hN : o.dst = some N := by rfl) (hw : Region.wanted o (yielded ops a.tmps) = true := by rfl) (hname : (fn.name == "runtime.NumGoroutine") = false := by kernel_rfl) (hb : fn.body.isSome = true := by rfl) (hargs : as.map a.eval = args := by exact hA)
  (ha : a.put (some N) v = a' := by (simp only [Act.put, List.setIfInBounds_toArray, List.set_cons_zero, List.set_cons_succ, i64_w, i32_w, u8_wr, tmod_nat, Int.reduceToNat, List.map_cons, List.map_nil]; rfl)) : GL P ops Q (o :: rest) a W :=
 lcall hop hN hw hf hname hb (Calls.mono hc fun e w' h1 => ⟨_, h1.1, ha ▸ h w' (F.call h1.2)⟩) hargs
theorem Fr.dB (F : Fr T w W L Ms) (hf : P.funcs[f]? = some fn) (hc : Calls P f args W fun e w' => e = .returned v ∧ Drawn0 W w') (h : ∀ w1, Fr T w w1 L Ms → GL P ops Q rest a' w1)
  (hop : o.op = .call { callee := .value (.func f), args := as, argTypes := ts } := by rfl) (hN : o.dst = some N := by rfl) (hw : Region.wanted o (yielded ops a.tmps) = true := by rfl) (hname : (fn.name == "runtime.NumGoroutine") = false := by kernel_rfl) (hb : fn.body.isSome = true := by rfl) (hargs : as.map a.eval = args := by exact hA)
  (ha : a.put (some N) v = a' := by (simp only [Act.put, List.setIfInBounds_toArray, List.set_cons_zero, List.set_cons_succ, i64_w, i32_w, u8_wr, tmod_nat, Int.reduceToNat, List.map_cons, List.map_nil]; rfl)) : GL P ops Q (o :: rest) a W :=
 lcall hop hN hw hf hname hb (Calls.mono hc fun e w' h1 => ⟨_, h1.1, ha ▸ h w' (F.drawn h1.2)⟩) hargs
variable {α : Type} {d : Kd α} {e : Nat} {r : List α} {gv : Value → Value}
theorem Fr.rB (F : Fr T w W L Ms) (hf : P.funcs[f]? = some fn) (hc : Calls P f args W fun e' w' => ∃ v0 : Value, e' = .returned (gv v0) ∧ d.R e w' W.heap.size (fun _ => True) v0 r ∧ Below W.heap.size W w')
  (h : ∀ A c w1, Aside0 (d.R e w1 w.heap.size (fun k => True ∧ W.heap.size ≤ k ∧ k < w1.heap.size) (.slice A r.length c) r) → Aside0 (W.heap.size ≤ w1.heap.size) → Fr T w w1 L (w1 :: Ms) → GL P ops Q rest (a.put (some N) (gv (.slice A r.length c))) w1)
  (hop : o.op = .call { callee := .value (.func f), args := as, argTypes := ts } := by rfl) (hN : o.dst = some N := by rfl) (hw : Region.wanted o (yielded ops a.tmps) = true := by rfl) (hname : (fn.name == "runtime.NumGoroutine") = false := by kernel_rfl) (hb : fn.body.isSome = true := by rfl) (hargs : as.map a.eval = args := by exact hA) : GL P ops Q (o :: rest) a W :=
 lcall hop hN hw hf hname hb (Calls.mono hc fun e' w' ⟨v0, h1, h2, h3⟩ => by
  obtain ⟨A, c, rfl⟩ := Kd.R_slice h2
  exact ⟨_, h1, h A c w' (F.row2 h2) ⟨h3.size⟩ (F.call h3).mark⟩) hargs
theorem Fr.cD (F : Fr T w W L Ms) (G : Fr T w W LG MG) (j : Nat) (hf : P.funcs[f]? = some fn) (hc : Calls P f args W fun e w' => e = .returned v ∧ Below W.heap.size W w') (h : ∀ w1, Fr T w w1 LG MG → Fr T w w1 L Ms → wpAnyLast P md ops Q (fun w' => Fr T w w' L Ms) ds fuel (l.setIfInBounds j true) a' w1)
  (hi : ops[j]? = some oi := by rfl) (hop : oi.op = .call { callee := .value (.func f), args := as, argTypes := ts } := by rfl) (hN : oi.dst = some N := by rfl) (hw : Region.wanted oi (yielded ops a.tmps) = true := by rfl) (hr : readyB md ops l (l.setIfInBounds j true) j = true := by first | exact one_of HT_.out (by kernel_rfl) | kernel_rfl) (hd : j ∉ ds := by simp)
  (hname : (fn.name == "runtime.NumGoroutine") = false := by kernel_rfl) (hb : fn.body.isSome = true := by rfl) (hargs : as.map a.eval = args := by exact hA)
  (ha : a.put (some N) v = a' := by (simp only [Act.put, List.setIfInBounds_toArray, List.set_cons_zero, List.set_cons_succ, i64_w, i32_w, u8_wr, tmod_nat, Int.reduceToNat, List.map_cons, List.map_nil]; rfl)) : wpAnyLast P md ops Q (fun w' => Fr T w w' L Ms) ds (fuel + 1) l a W :=
 rcall j hi hop hN hw hr hd hf hname hb (Calls.mono hc fun e w' h1 => ⟨_, h1.1, F.call h1.2, fun F' => ha ▸ h w' (G.call h1.2) F'⟩) hargs
theorem Fr.dD (F : Fr T w W L Ms) (G : Fr T w W LG MG) (j : Nat) (hf : P.funcs[f]? = some fn) (hc : Calls P f args W fun e w' => e = .returned v ∧ Drawn0 W w') (h : ∀ w1, Fr T w w1 LG MG → Fr T w w1 L Ms → wpAnyLast P md ops Q (fun w' => Fr T w w' L Ms) ds fuel (l.setIfInBounds j true) a' w1)
  (hi : ops[j]? = some oi := by rfl) (hop : oi.op = .call { callee := .value (.func f), args := as, argTypes := ts } := by rfl) (hN : oi.dst = some N := by rfl) (hw : Region.wanted oi (yielded ops a.tmps) = true := by rfl) (hr : readyB md ops l (l.setIfInBounds j true) j = true := by first | exact one_of HT_.out (by kernel_rfl) | kernel_rfl) (hd : j ∉ ds := by simp)
  (hname : (fn.name == "runtime.NumGoroutine") = false := by kernel_rfl) (hb : fn.body.isSome = true := by rfl) (hargs : as.map a.eval = args := by exact hA)
  (ha : a.put (some N) v = a' := by (simp only [Act.put, List.setIfInBounds_toArray, List.set_cons_zero, List.set_cons_succ, i64_w, i32_w, u8_wr, tmod_nat, Int.reduceToNat, List.map_cons, List.map_nil]; rfl)) : wpAnyLast P md ops Q (fun w' => Fr T w w' L Ms) ds (fuel + 1) l a W :=
 rcall j hi hop hN hw hr hd hf hname hb (Calls.mono hc fun e w' h1 => ⟨_, h1.1, F.drawn h1.2, fun F' => ha ▸ h w' (G.drawn h1.2) F'⟩) hargs
theorem Fr.rD (F : Fr T w W L Ms) (G : Fr T w W LG MG) (j : Nat) (hf : P.funcs[f]? = some fn) (hc : Calls P f args W fun e' w' => ∃ v0 : Value, e' = .returned (gv v0) ∧ d.R e w' W.heap.size (fun _ => True) v0 r ∧ Below W.heap.size W w')
  (h : ∀ A c w1, Aside0 (d.R e w1 w.heap.size (fun k => True ∧ W.heap.size ≤ k ∧ k < w1.heap.size) (.slice A r.length c) r) → Aside0 (W.heap.size ≤ w1.heap.size) → Fr T w w1 LG (w1 :: MG) → Fr T w w1 L Ms → wpAnyLast P md ops Q (fun w' => Fr T w w' L Ms) ds fuel (l.setIfInBounds j true) (a.put (some N) (gv (.slice A r.length c))) w1)
  (hi : ops[j]? = some oi := by rfl) (hop : oi.op = .call { callee := .value (.func f), args := as, argTypes := ts } := by rfl) (hN : oi.dst = some N := by rfl) (hw : Region.wanted oi (yielded ops a.tmps) = true := by rfl) (hr : readyB md ops l (l.setIfInBounds j true) j = true := by first | exact one_of HT_.out (by kernel_rfl) | kernel_rfl) (hd : j ∉ ds := by simp)
  (hname : (fn.name == "runtime.NumGoroutine") = false := by kernel_rfl) (hb : fn.body.isSome = true := by rfl) (hargs : as.map a.eval = args := by exact hA) : wpAnyLast P md ops Q (fun w' => Fr T w w' L Ms) ds (fuel + 1) l a W :=
 rcall j hi hop hN hw hr hd hf hname hb (Calls.mono hc fun e' w' ⟨v0, h1, h2, h3⟩ => by
  obtain ⟨A, c, rfl⟩ := Kd.R_slice h2
  exact ⟨_, h1, F.call h3, fun F' => h A c w' (G.row2 h2) ⟨h3.size⟩ (G.call h3).mark F'⟩) hargs
end
theorem hcB {α : Type} {x : α} {β : Type} {f : α → Option β} {r : β} (h : Aside0 ((some x).bind f = some r)) : Aside0 (f x = some r) := h
theorem bE {α β : Type} {x : α} {f : α → Option β} {r : β} (h : Aside0 ((some x).bind f = some r)) : ∃ t, Aside0 (x = t) ∧ Aside0 (f t = some r) := ⟨x, ⟨rfl⟩, h⟩
section
variable {s x' : Operand} {t' e bytes : Nat} {ok : Nat → Prop} {k : IntKind} {xs l' y : List Int} {A : Option Addr} {c : Nat} {M : World}
theorem Fr.aP (F : Fr T w W L Ms) (HO : Aside0 ((Kd.int k).R e M w.heap.size ok v xs)) (hC : (Kd.int k).C W A l'.length l') (hE : xs ++ l' = y)
  (h : ∀ A1 c1 w1, Aside0 ((Kd.int k).R e w1 w.heap.size (fun _ => True) (.slice A1 y.length c1) y) → Fr T w w1 L [w1] → GL P ops Q rest (a.put (some N) (.slice A1 y.length c1)) w1)
  (ho : o.op = .call { callee := .builtin .append, args := #[s, x'], argTypes := #[t', t'] } := by rfl) (hN : o.dst = some N := by rfl) (hw : Region.wanted o (yielded ops a.tmps) = true := by rfl) (hu : P.underlying t' = some (.slice e) := by assumption) (hinfo : (P.info? e).map (fun i => (i.zero, i.size, i.bytes)) = some (some (Value.int k 0), 1, bytes) := by assumption) (hb : 0 < bytes := by decide)
  (hs : a.eval s = v := by rfl) (hx : a.eval x' = .slice A l'.length c := by rfl) (hM : M ∈ Ms := by simp) (ht2 : ∀ q, q ∈ e :: (Kd.int k).E → q ∉ T := by decide) (ht : e ∉ T := by decide)
  (hl : (xs.length + l'.length) * bytes ≤ 140737488355328 := by (first | omega | (have h_ := HP.out; omega) | (have h_ := HP.out; simp only [List.length_nil, List.length_cons] at h_; omega) | (have h_ := HP.out; simp only [List.length_nil, List.length_cons] at h_ ⊢; omega))) : GL P ops Q (o :: rest) a W := by
 subst hE
 refine ⟨wpList_step fun K hK => ?_⟩
 refine run_append (k := k) F hw ho hN hu hinfo hb hs hx (F.row_now HO.out hM ht2) ht hC hl ?_
 intro v1 w1 h1 h2
 obtain ⟨A1, c1, rfl⟩ := Kd.R_slice h1
 exact hK _ _ (h A1 c1 w1 ⟨h1⟩ h2).out
theorem Fr.aD (G : Fr T w W LG MG) (j : Nat) (HO : Aside0 ((Kd.int k).R e M w.heap.size ok v xs)) (hC : (Kd.int k).C W A l'.length l') (hE : xs ++ l' = y)
  (h : ∀ A1 c1 w1, Aside0 ((Kd.int k).R e w1 w.heap.size (fun _ => True) (.slice A1 y.length c1) y) → Fr T w w1 LG [w1] → Fr T w w1 L [] → wpAnyLast P md ops Q (fun w' => Fr T w w' L []) ds fuel (l.setIfInBounds j true) (a.put (some N) (.slice A1 y.length c1)) w1)
  (hi : ops[j]? = some oi := by rfl) (ho : oi.op = .call { callee := .builtin .append, args := #[s, x'], argTypes := #[t', t'] } := by rfl) (hN : oi.dst = some N := by rfl) (hw : Region.wanted oi (yielded ops a.tmps) = true := by rfl) (hr : readyB md ops l (l.setIfInBounds j true) j = true := by first | exact one_of HT_.out (by kernel_rfl) | kernel_rfl) (hd : j ∉ ds := by simp)
  (hu : P.underlying t' = some (.slice e) := by assumption) (hinfo : (P.info? e).map (fun i => (i.zero, i.size, i.bytes)) = some (some (Value.int k 0), 1, bytes) := by assumption) (hb : 0 < bytes := by decide)
  (hs : a.eval s = v := by rfl) (hx : a.eval x' = .slice A l'.length c := by rfl) (hM : M ∈ MG := by simp) (ht2 : ∀ q, q ∈ e :: (Kd.int k).E → q ∉ T := by decide) (ht : e ∉ T := by decide) (hsub : L.Sublist LG := by repeat (first | exact List.Sublist.slnil | apply List.Sublist.cons_cons | apply List.Sublist.cons))
  (hl : (xs.length + l'.length) * bytes ≤ 140737488355328 := by (first | omega | (have h_ := HP.out; omega) | (have h_ := HP.out; simp only [List.length_nil, List.length_cons] at h_; omega) | (have h_ := HP.out; simp only [List.length_nil, List.length_cons] at h_ ⊢; omega))) : wpAnyLast P md ops Q (fun w' => Fr T w w' L []) ds (fuel + 1) l a W := by
 subst hE
 refine ronto j hi hN hr hd fun K hK => ?_
 refine run_append (k := k) G hw ho hN hu hinfo hb hs hx (G.row_now HO.out hM ht2) ht hC hl ?_
 intro v1 w1 h1 h2
 obtain ⟨A1, c1, rfl⟩ := Kd.R_slice h1
 exact hK _ _ (h2.part hsub (fun _ h_ => nomatch h_)) (fun F' => h A1 c1 w1 ⟨h1⟩ h2 F')
theorem Fr.aQ (F : Fr T w W L Ms) (HO : Aside0 ((Kd.int k).R e M w.heap.size ok v xs)) (hC : (Kd.int k).C W A l'.length l')
  (h : ∀ y A1 c1 w1, xs ++ l' = y → Aside0 ((Kd.int k).R e w1 w.heap.size (fun _ => True) (.slice A1 y.length c1) y) → Fr T w w1 L [w1] → GL P ops Q rest (a.put (some N) (.slice A1 y.length c1)) w1)
  (ho : o.op = .call { callee := .builtin .append, args := #[s, x'], argTypes := #[t', t'] } := by rfl) (hN : o.dst = some N := by rfl) (hw : Region.wanted o (yielded ops a.tmps) = true := by rfl) (hu : P.underlying t' = some (.slice e) := by assumption) (hinfo : (P.info? e).map (fun i => (i.zero, i.size, i.bytes)) = some (some (Value.int k 0), 1, bytes) := by assumption) (hb : 0 < bytes := by decide)
  (hs : a.eval s = v := by rfl) (hx : a.eval x' = .slice A l'.length c := by rfl) (hM : M ∈ Ms := by simp) (ht2 : ∀ q, q ∈ e :: (Kd.int k).E → q ∉ T := by decide) (ht : e ∉ T := by decide)
  (hl : (xs.length + l'.length) * bytes ≤ 140737488355328 := by (first | omega | (have h_ := HP.out; omega) | (have h_ := HP.out; simp only [List.length_nil, List.length_cons] at h_; omega) | (have h_ := HP.out; simp only [List.length_nil, List.length_cons] at h_ ⊢; omega))) : GL P ops Q (o :: rest) a W :=
 F.aP HO hC rfl (fun A1 c1 w1 => h _ A1 c1 w1 rfl) ho hN hw hu hinfo hb hs hx hM ht2 ht hl
theorem Fr.aQD (G : Fr T w W LG MG) (j : Nat) (HO : Aside0 ((Kd.int k).R e M w.heap.size ok v xs)) (hC : (Kd.int k).C W A l'.length l')
  (h : ∀ y A1 c1 w1, xs ++ l' = y → Aside0 ((Kd.int k).R e w1 w.heap.size (fun _ => True) (.slice A1 y.length c1) y) → Fr T w w1 LG [w1] → Fr T w w1 L [] → wpAnyLast P md ops Q (fun w' => Fr T w w' L []) ds fuel (l.setIfInBounds j true) (a.put (some N) (.slice A1 y.length c1)) w1)
  (hi : ops[j]? = some oi := by rfl) (ho : oi.op = .call { callee := .builtin .append, args := #[s, x'], argTypes := #[t', t'] } := by rfl) (hN : oi.dst = some N := by rfl) (hw : Region.wanted oi (yielded ops a.tmps) = true := by rfl) (hr : readyB md ops l (l.setIfInBounds j true) j = true := by first | exact one_of HT_.out (by kernel_rfl) | kernel_rfl) (hd : j ∉ ds := by simp)
  (hu : P.underlying t' = some (.slice e) := by assumption) (hinfo : (P.info? e).map (fun i => (i.zero, i.size, i.bytes)) = some (some (Value.int k 0), 1, bytes) := by assumption) (hb : 0 < bytes := by decide)
  (hs : a.eval s = v := by rfl) (hx : a.eval x' = .slice A l'.length c := by rfl) (hM : M ∈ MG := by simp) (ht2 : ∀ q, q ∈ e :: (Kd.int k).E → q ∉ T := by decide) (ht : e ∉ T := by decide) (hsub : L.Sublist LG := by repeat (first | exact List.Sublist.slnil | apply List.Sublist.cons_cons | apply List.Sublist.cons))
  (hl : (xs.length + l'.length) * bytes ≤ 140737488355328 := by (first | omega | (have h_ := HP.out; omega) | (have h_ := HP.out; simp only [List.length_nil, List.length_cons] at h_; omega) | (have h_ := HP.out; simp only [List.length_nil, List.length_cons] at h_ ⊢; omega))) : wpAnyLast P md ops Q (fun w' => Fr T w w' L []) ds (fuel + 1) l a W :=
 G.aD j HO hC rfl (fun A1 c1 w1 => h _ A1 c1 w1 rfl) hi ho hN hw hr hd hu hinfo hb hs hx hM ht2 ht hsub hl
end
end
end Go.Proofs.YtffkgndghbdgnaaGreat.Frame
namespace Go.Proofs.YtffkgndghbdgnaaGreatW.PrintLast
section
variable {P : Program} {ops : Array Oper} {Q : Exit → Act → World → Prop} {md : Region.Mode} {S : World → Prop} {ds : List Nat} {T : Bool × List (List Nat × List Nat)}
theorem five_ {i j k m n : Nat} {Ni Nj Nk Nm Nn : Option Tmp} {oi oj ok om on : Oper} {fuel : Nat} {l : Array Bool} {a : Act} {w : World} (li lj lk lm ln : Array Bool) (hi : ops[i]? = some oi) (hj : ops[j]? = some oj) (hk : ops[k]? = some ok) (hm : ops[m]? = some om) (hn : ops[n]? = some on) (hNi : oi.dst = Ni) (hNj : oj.dst = Nj) (hNk : ok.dst = Nk) (hNm : om.dst = Nm) (hNn : on.dst = Nn)
  (hc : (Region.ready md ops l == [i, j, k, m, n] && l.setIfInBounds i true == li && l.setIfInBounds j true == lj && l.setIfInBounds k true == lk && l.setIfInBounds m true == lm && l.setIfInBounds n true == ln) = true) (hdi : i ∉ ds) (hdj : j ∉ ds) (hdk : k ∉ ds) (hdm : m ∉ ds) (hdn : n ∉ ds)
  (hhi : ∀ K : Act → World → Prop, Shut (∀ a' w', S w' → (S w' → wpAnyLast P md ops Q S ds fuel li a' w') → K a' w') → if Region.wanted oi (yielded ops a.tmps) = true then Oper.wp P oi a w K Q else K (a.put Ni undef) w)
  (hhj : ∀ K : Act → World → Prop, Shut (∀ a' w', S w' → (S w' → wpAnyLast P md ops Q S ds fuel lj a' w') → K a' w') → if Region.wanted oj (yielded ops a.tmps) = true then Oper.wp P oj a w K Q else K (a.put Nj undef) w)
  (hhk : ∀ K : Act → World → Prop, Shut (∀ a' w', S w' → (S w' → wpAnyLast P md ops Q S ds fuel lk a' w') → K a' w') → if Region.wanted ok (yielded ops a.tmps) = true then Oper.wp P ok a w K Q else K (a.put Nk undef) w)
  (hhm : ∀ K : Act → World → Prop, Shut (∀ a' w', S w' → (S w' → wpAnyLast P md ops Q S ds fuel lm a' w') → K a' w') → if Region.wanted om (yielded ops a.tmps) = true then Oper.wp P om a w K Q else K (a.put Nm undef) w)
  (hhn : ∀ K : Act → World → Prop, Shut (∀ a' w', S w' → (S w' → wpAnyLast P md ops Q S ds fuel ln a' w') → K a' w') → if Region.wanted on (yielded ops a.tmps) = true then Oper.wp P on a w K Q else K (a.put Nn undef) w) :
  wpAnyLast P md ops Q S ds (fuel + 1) l a w := by
 subst hNi
 subst hNj
 subst hNk
 subst hNm
 subst hNn
 simp only [Bool.and_eq_true, beq_iff_eq] at hc
 obtain ⟨⟨⟨⟨⟨hr, hsi⟩, hsj⟩, hsk⟩, hsm⟩, hsn⟩ := hc
 subst hsi
 subst hsj
 subst hsk
 subst hsm
 subst hsn
 exact wpAnyLast_ready hr (by simp) (AllReadyL.cons hi hdi (fun K hK => hhi K hK) (AllReadyL.cons hj hdj (fun K hK => hhj K hK) (AllReadyL.cons hk hdk (fun K hK => hhk K hK) (AllReadyL.cons hm hdm (fun K hK => hhm K hK) (AllReadyL.cons hn hdn (fun K hK => hhn K hK) AllReadyL.nil)))))
end
end Go.Proofs.YtffkgndghbdgnaaGreatW.PrintLast
namespace Go.Proofs.YtffkgndghbdgnaaGreatW.PrintWords
open Go.RowKit
namespace Kd
section
variable {α : Type} {d : Kd α} {W : World} {g n : Nat} {S ok : Nat → Prop} {A : Option Addr} {ad : Addr} {xs : List α}
end
end Kd
end Go.Proofs.YtffkgndghbdgnaaGreatW.PrintWords
namespace Go.Proofs.YtffkgndghbdgnaaGreatW.PrintWords
open Go.RowKit
section
variable {w w' u : World} {m B g : Nat} {o : Obj} {row : Option Nat} {S : Nat → Prop} {a : Addr} {v : Value}
end
namespace Kd
section
variable {α : Type} {d : Kd α} {e base n m : Nat} {ok : Nat → Prop} {w w' : World} {v : Value} {A : Option Addr} {xs : List α}
end
end Kd
end Go.Proofs.YtffkgndghbdgnaaGreatW.PrintWords
namespace Go.Proofs.YtffkgndghbdgnaaGreatW.PrintWords
open Go.RowKit
section
variable {P : Program} {d : Nat} {xs ys : Array Value} {f : Field} {fs : List Field} {a b : Value} {r s : Bool} {w : World}
theorem eqf_last (hn : (f.name == "_") = false) (ha : (part f.type xs f.offset).run P w = .ok a w) (hb : (part f.type ys f.offset).run P w = .ok b w) (he : (Op.equalIn d f.type a b).run P w = .ok r w) : (Op.eqFields d xs ys [f]).run P w = .ok r w := by
 have hn' : f.name ≠ "_" := by simpa using hn
 simp only [Op.eqFields, if_pos hn', Sem.run_bind, ha, hb, he, Result.andThen_ok]
 cases r <;> simp
theorem eqf_cons (hn : (f.name == "_") = false) (ha : (part f.type xs f.offset).run P w = .ok a w) (hb : (part f.type ys f.offset).run P w = .ok b w) (he : (Op.equalIn d f.type a b).run P w = .ok r w) (hr : (Op.eqFields d xs ys fs).run P w = .ok s w) : (Op.eqFields d xs ys (f :: fs)).run P w = .ok (r && s) w := by
 have hn' : f.name ≠ "_" := by simpa using hn
 rw [Op.eqFields]
 simp only [if_pos hn', Sem.run_bind, ha, hb, he, Result.andThen_ok]
 cases r
 ·simp
 ·simpa using hr
theorem eqA_of {t : TypeId} {fs : Array Field} (hu : P.underlying t = some (.struct fs)) (hp : P.stoodInHeld t = false) (h : (Op.eqFields d xs ys fs.toList).run P w = .ok r w) : (Op.equalIn (d + 1) t (.agg xs) (.agg ys)).run P w = .ok r w := by
 have hf : P.fieldsOf t = fs := by simp [Program.fieldsOf, hu]
 rw [run_equalIn_struct (P := P) w d t xs ys (by rw [hf]; exact hu) hp, hf]
 exact h
end
end Go.Proofs.YtffkgndghbdgnaaGreatW.PrintWords
namespace Go.Proofs.YtffkgndghbdgnaaGreatW.PrintLast
section
variable {P : Program} {ops : Array Oper} {Q : Exit → Act → World → Prop} {md : Region.Mode} {T : Bool × List (List Nat × List Nat)} {B : List Nat} {O : List Nat} {b : Nat → Bool} {i j n : Nat}
theorem put_comm {a : Act} {s t : Tmp} {u v : Value} (h : s ≠ t) : (a.put (some s) u).put (some t) v = (a.put (some t) v).put (some s) u := by
 simp only [Act.put]
 rw [Array.setIfInBounds_comm _ _ h]
end
end Go.Proofs.YtffkgndghbdgnaaGreatW.PrintLast
namespace Go.Proofs.YtffkgndghbdgnaaGreatW.PrintWords
open Go.RowKit
end Go.Proofs.YtffkgndghbdgnaaGreatW.PrintWords
namespace Go.Proofs.YtffkgndghbdgnaaGreatW.PrintLast
section
variable {ops : Array Oper} {a : Act} {o og : Oper} {g : Nat} {t : Tmp} {u : Bool}
end
end Go.Proofs.YtffkgndghbdgnaaGreatW.PrintLast
namespace Go.Proofs.YtffkgndghbdgnaaGreatW.PrintWords
open Go.RowKit
section
variable {P : Program} {ops : Array Oper} {rest : List Oper} {o : Oper} {a : Act} {Q : Exit → Act → World → Prop} {W : World}
end
end Go.Proofs.YtffkgndghbdgnaaGreatW.PrintWords
namespace Go.Proofs.YtffkgndghbdgnaaGreat.Frame
set_option linter.unusedVariables false
set_option linter.unusedSimpArgs false
open Go.RowKit Go.Proofs.YtffkgndghbdgnaaGreatW.PrintWords Go.Proofs.YtffkgndghbdgnaaGreatW.PrintLast Go.Proofs.YtffkgndghbdgnaaGreatW.PrintMore
section
variable {P : Program} {ops : Array Oper} {oi oj : Oper} {a a' : Act} {Q : Exit → Act → World → Prop}
variable {T : List Nat} {w W : World} {L LG : List Blk} {Ms MG : List World} {N N' : Tmp} {v : Value}
variable {md : Region.Mode} {ds : List Nat} {l l' : Array Bool} {fuel : Nat}
variable {f : FuncId} {fn : Func} {as : Array Operand} {ts : Array TypeId} {args : Array Value}
abbrev ArmZ (P : Program) (md : Region.Mode) (ops : Array Oper) (Q : Exit → Act → World → Prop) (S : World → Prop) (ds : List Nat) (fuel : Nat) (l' : Array Bool) (oi : Oper) (N : Tmp) (a : Act) (W : World) : Prop :=
 ∀ K : Act → World → Prop, Shut (∀ a' w', S w' → (S w' → wpAnyLast P md ops Q S ds fuel l' a' w') → K a' w') → if Region.wanted oi (yielded ops a.tmps) = true then Oper.wp P oi a W K Q else K (a.put (some N) undef) W
theorem two (i j : Nat) (h1 : ArmZ P md ops Q (fun w' => Fr T w w' L Ms) ds fuel (l.setIfInBounds i true) oi N a W) (h2 : ArmZ P md ops Q (fun w' => Fr T w w' L Ms) ds fuel (l.setIfInBounds j true) oj N' a W)
  (hi : ops[i]? = some oi := by rfl) (hj : ops[j]? = some oj := by rfl) (hNi : oi.dst = some N := by rfl) (hNj : oj.dst = some N' := by rfl)
  (hc : (Region.ready md ops l == [i, j] && l.setIfInBounds i true == l.setIfInBounds i true && l.setIfInBounds j true == l.setIfInBounds j true) = true := by first | exact two_of HT_.out (by kernel_rfl) | kernel_rfl) (hdi : i ∉ ds := by simp) (hdj : j ∉ ds := by simp) : wpAnyLast P md ops Q (fun w' => Fr T w w' L Ms) ds (fuel + 1) l a W := rtwo i j hi hj hNi hNj hc hdi hdj h1 h2
theorem Fr.cE (F : Fr T w W L Ms) (G : Fr T w W LG MG) (hf : P.funcs[f]? = some fn) (hc : Calls P f args W fun e w' => e = .returned v ∧ Below W.heap.size W w') (h : ∀ w1, Fr T w w1 LG MG → Fr T w w1 L Ms → wpAnyLast P md ops Q (fun w' => Fr T w w' L Ms) ds fuel l' a' w1)
  (hop : oi.op = .call { callee := .value (.func f), args := as, argTypes := ts } := by rfl) (hN : oi.dst = some N := by rfl) (hw : Region.wanted oi (yielded ops a.tmps) = true := by rfl) (hname : (fn.name == "runtime.NumGoroutine") = false := by kernel_rfl) (hb : fn.body.isSome = true := by rfl) (hargs : as.map a.eval = args := by exact hA)
  (ha : a.put (some N) v = a' := by (simp only [Act.put, List.setIfInBounds_toArray, List.set_cons_zero, List.set_cons_succ, i64_w, i32_w, u8_wr, tmod_nat, Int.reduceToNat, List.map_cons, List.map_nil]; rfl)) : ArmZ P md ops Q (fun w' => Fr T w w' L Ms) ds fuel l' oi N a W :=
 arm_call hop hN hw hf hname hb (Calls.mono hc fun e w' h1 => ⟨_, h1.1, F.call h1.2, fun F' => ha ▸ h w' (G.call h1.2) F'⟩) hargs
variable {α : Type} {d : Kd α} {e : Nat} {r : List α} {gv : Value → Value}
theorem Fr.rE (F : Fr T w W L Ms) (G : Fr T w W LG MG) (hf : P.funcs[f]? = some fn) (hc : Calls P f args W fun e' w' => ∃ v0 : Value, e' = .returned (gv v0) ∧ d.R e w' W.heap.size (fun _ => True) v0 r ∧ Below W.heap.size W w')
  (h : ∀ A c w1, Aside0 (d.R e w1 w.heap.size (fun k => True ∧ W.heap.size ≤ k ∧ k < w1.heap.size) (.slice A r.length c) r) → Aside0 (W.heap.size ≤ w1.heap.size) → Fr T w w1 LG (w1 :: MG) → Fr T w w1 L Ms → wpAnyLast P md ops Q (fun w' => Fr T w w' L Ms) ds fuel l' (a.put (some N) (gv (.slice A r.length c))) w1)
  (hop : oi.op = .call { callee := .value (.func f), args := as, argTypes := ts } := by rfl) (hN : oi.dst = some N := by rfl) (hw : Region.wanted oi (yielded ops a.tmps) = true := by rfl) (hname : (fn.name == "runtime.NumGoroutine") = false := by kernel_rfl) (hb : fn.body.isSome = true := by rfl) (hargs : as.map a.eval = args := by exact hA) : ArmZ P md ops Q (fun w' => Fr T w w' L Ms) ds fuel l' oi N a W :=
 arm_call hop hN hw hf hname hb (Calls.mono hc fun e' w' ⟨v0, h1, h2, h3⟩ => by
  obtain ⟨A, c, rfl⟩ := Kd.R_slice h2
  exact ⟨_, h1, F.call h3, fun F' => h A c w' (G.row2 h2) ⟨h3.size⟩ (G.call h3).mark F'⟩) hargs
variable {g n : Nat} {cs : List Value}
theorem Fr.nP {rest : List Oper} {o : Oper} (F : Fr T w W L Ms) (h : ∀ g w1, Aside0 (w1.heap[g]? = some (.cells cs.toArray e (0, 0))) → Fr T w w1 L (w1 :: Ms) → GL P ops Q rest (a.put (some N) (.slice (some ⟨g, 0, none⟩) n n)) w1)
  (hN : o.dst = some N := by rfl) (hw : Region.wanted o (yielded ops a.tmps) = true := by rfl) (hrun : (execOp a.eval o).run P W = .ok (.value (.slice (some ⟨W.heap.size, 0, none⟩) n n)) (W.alloc (.cells cs.toArray e (0, 0))) := by (go_simp; first | exact ⟨rfl, rfl⟩ | exact ⟨rfl, rfl, rfl⟩ | rfl)) : GL P ops Q (o :: rest) a W :=
 F.lbuild hN hw hrun fun g w1 _ _ h3 h4 => h g w1 ⟨h3⟩ h4.mark
theorem Fr.nE (F : Fr T w W L Ms) (G : Fr T w W LG MG) (h : ∀ g w1, Aside0 (w1.heap[g]? = some (.cells cs.toArray e (0, 0))) → Fr T w w1 LG (w1 :: MG) → Fr T w w1 L Ms → wpAnyLast P md ops Q (fun w' => Fr T w w' L Ms) ds fuel l' (a.put (some N) (.slice (some ⟨g, 0, none⟩) n n)) w1)
  (hN : oi.dst = some N := by rfl) (hw : Region.wanted oi (yielded ops a.tmps) = true := by rfl) (hrun : (execOp a.eval oi).run P W = .ok (.value (.slice (some ⟨W.heap.size, 0, none⟩) n n)) (W.alloc (.cells cs.toArray e (0, 0))) := by (go_simp; first | exact ⟨rfl, rfl⟩ | exact ⟨rfl, rfl, rfl⟩ | rfl)) : ArmZ P md ops Q (fun w' => Fr T w w' L Ms) ds fuel l' oi N a W :=
 arm_build F hN hw hrun fun g w1 _ h2 h3 h4 => h g w1 ⟨h3⟩ (G.call h2).mark h4
theorem Fr.nD (F : Fr T w W L Ms) (G : Fr T w W LG MG) (j : Nat) (h : ∀ g w1, Aside0 (w1.heap[g]? = some (.cells cs.toArray e (0, 0))) → Fr T w w1 LG (w1 :: MG) → Fr T w w1 L Ms → wpAnyLast P md ops Q (fun w' => Fr T w w' L Ms) ds fuel (l.setIfInBounds j true) (a.put (some N) (.slice (some ⟨g, 0, none⟩) n n)) w1)
  (hi : ops[j]? = some oi := by rfl) (hN : oi.dst = some N := by rfl) (hw : Region.wanted oi (yielded ops a.tmps) = true := by rfl) (hr : readyB md ops l (l.setIfInBounds j true) j = true := by first | exact one_of HT_.out (by kernel_rfl) | kernel_rfl) (hd : j ∉ ds := by simp)
  (hrun : (execOp a.eval oi).run P W = .ok (.value (.slice (some ⟨W.heap.size, 0, none⟩) n n)) (W.alloc (.cells cs.toArray e (0, 0))) := by (go_simp; first | exact ⟨rfl, rfl⟩ | exact ⟨rfl, rfl, rfl⟩ | rfl)) : wpAnyLast P md ops Q (fun w' => Fr T w w' L Ms) ds (fuel + 1) l a W :=
 rbuild F j hi hN hw hr hd hrun fun g w1 _ h2 h3 h4 => h g w1 ⟨h3⟩ (G.call h2).mark h4
end
end Go.Proofs.YtffkgndghbdgnaaGreat.Frame
namespace Go.Proofs.YtffkgndghbdgnaaGreat.Frame
open Go.RowKit Go.Proofs.YtffkgndghbdgnaaGreatW.PrintWords Go.Proofs.YtffkgndghbdgnaaGreatW.PrintLast Go.Proofs.YtffkgndghbdgnaaGreatW.PrintMore
section
variable {α : Type} {d : Kd α} {T : List Nat} {w W W' : World} {L : List Blk} {Ms : List World} {e base : Nat} {ok : Nat → Prop} {v : Value} {xs : List α} {S : Nat → Prop}
def Told (d : Kd α) (e : Nat) (W : World) (base : Nat) (ok : Nat → Prop) (k : Nat) : Prop := ok k ∧ base ≤ k ∧ k < W.heap.size ∧ ∃ q, q ∈ e :: d.E ∧ ∃ cells, W.heap[k]? = some (.cells cells q (0, 0))
theorem Told.type {k : Nat} {W : World} (h : Told d e W base ok k) (ht : ∀ q, q ∈ e :: d.E → q ∉ T) : ∃ q cs, W.heap[k]? = some (.cells cs q (0, 0)) ∧ q ∉ T := by
 obtain ⟨_, _, _, q, hq, cs, hc⟩ := h
 exact ⟨q, cs, hc, ht q hq⟩
theorem Fr_name (F : Fr T w W L Ms) : ∃ L', Fr T w W L' Ms ∧ Aside0 (L' = L) := ⟨L, F, ⟨rfl⟩⟩
theorem Fr_now (F : Fr T w W L Ms) : Fr T w W L [W] := ⟨F.below, F.blk, F.nd, fun M hM => by obtain rfl := List.mem_singleton.1 hM; exact .refl _ _⟩
variable {P : Program} {o : Oper} {a : Act} {p x s : Operand} {A : Option Addr} {t ty e' n m : Nat} {kl : IntKind} {y : Int} {ad q : Addr} {u : Value}
theorem run_idxn (ho : o.op = .indexAddr t s x) (hs : a.eval s = .slice A m n) (hx : a.eval x = .int kl y) (ht : P.underlying t = some (.slice e')) {z : Nat} (hinfo : (P.info? e').map (·.size) = some z) (hA : A = some ad) (h0 : 0 ≤ y) (h1 : y < m) :
  (execOp a.eval o).run P W' = .ok (.value (.pointer (some (ad.add (y.toNat * z))))) W' := by
 obtain ⟨i, hi, hsz⟩ := Option.map_eq_some_iff.1 hinfo
 subst hA
 have hel : P.elem t = e' := by simp [Program.elem, ht]
 have hu : P.underlying t = some (.slice (P.elem t)) := by rw [hel]; exact ht
 unfold execOp
 simp only [ho, hs, hx, Sem.run_bind, Sem.run_pure, run_indexAt_slice (h := hu), if_pos (show 0 ≤ y ∧ y < (m : Int) from ⟨h0, h1⟩), hel]
 simp [sizeOf, typeInfo, hi, hsz, Result.andThen]
theorem run_cell (ho : o.op = .load ty p) (hp : a.eval p = .pointer (some q)) (h1 : IsOne P ty) (hc : w.cell? q = some u) (hb : Below w.heap.size w W') : (execOp a.eval o).run P W' = .ok (.value u) W' := by
 have hl := run_agg_one (P := P) h1 W'
 have hc' := (hb.cell (World.block_lt_of_cell? w q hc)).trans hc
 unfold execOp
 simp [ho, hp, Instr.loadAt, Instr.sureAddr, Sem.run_bind, loadVar, hl, hc']
end
end Go.Proofs.YtffkgndghbdgnaaGreat.Frame
namespace Go.Proofs.YtffkgndghbdgnaaGreat.Frame
open Go.RowKit Go.Proofs.YtffkgndghbdgnaaGreatW.PrintWords Go.Proofs.YtffkgndghbdgnaaGreatW.PrintLast Go.Proofs.YtffkgndghbdgnaaGreatW.PrintMore
section
variable {T : List Nat} {w W W' : World} {L : List Blk} {Ms : List World}
variable {P : Program} {o : Oper} {a : Act} {p s : Operand} {t ty : Nat} {q : Addr} {u : Value}
theorem cell_spot (h : w.cell? q = some u) : q = ⟨q.block, q.off, none⟩ := by
 obtain ⟨b, i, s⟩ := q
 cases s with
 | none => rfl
 | some s =>
  unfold World.cell? at h
  split at h
  ·simp at h
  ·cases h
variable {ops : Array Oper} {rest : List Oper} {Q : Exit → Act → World → Prop} {N : Tmp}
theorem lrow2 {u0 u1 : Value} (ho : o.op = .load ty p) (hgd : o.guard = none) (hd : o.dst = some N) (h1 : IsRow P ty 2) (hp : a.eval p = .pointer (some q)) (hc0 : w.cell? q = some u0) (hc1 : w.cell? ⟨q.block, q.off + 1, none⟩ = some u1) (hb : Below w.heap.size w W)
  (h : GL P ops Q rest (a.put (some N) (.agg #[u0, u1])) W) : GL P ops Q (o :: rest) a W := by
 obtain ⟨d, hu, hr⟩ := h1.d
 have hq := cell_spot hc0
 have c0 := (hb.cell (World.block_lt_of_cell? w _ hc0)).trans hc0
 have c1 := (hb.cell (World.block_lt_of_cell? w _ hc1)).trans hc1
 rw [hq] at hp c0
 refine ⟨wpList_load_mid hgd ty p ho q.block q.off hp [u0, u1] d (fun j v hj => ?_) hu hr (by exact h1.n) (by rw [hd]; exact h.out)⟩
 match j with
 | 0 => exact c0.trans hj
 | 1 => exact c1.trans hj
 | j + 2 => simp at hj
theorem run_cap {cs : List Value} {g i : Nat} (ho : o.op = .load ty p) (hp : a.eval p = .pointer (some ⟨g, i, none⟩)) (h1 : IsOne P ty) (hg : w.heap[g]? = some (.cells cs.toArray t (0, 0))) (hv : cs[i]? = some u) (hb : Below w.heap.size w W') : (execOp a.eval o).run P W' = .ok (.value u) W' :=
 run_cell ho hp h1 (by rw [blk_cell hg i]; simpa using hv) hb
variable {f : FuncId} {fn : Func} {x : Operand} {as : Array Operand} {ts : Array TypeId} {cs args : Array Value}
theorem enters_clo (hf : P.funcs[f]? = some fn) (hname : (fn.name == "runtime.NumGoroutine") = false) (hb : fn.body.isSome = true) (hop : o.op = .call { callee := .value x, args := as, argTypes := ts }) (hx : a.eval x = .func (.func f) #[] cs) (hargs : as.map a.eval ++ cs = args) :
  (execOp a.eval o).run P W = .ok (.enter f args) W := by
 have he := enters_ hf hname hb args W
 unfold execOp
 simp [hop, resolve, Deferred.ofValue, invoke, hx, hargs, he]
variable {md : Region.Mode} {ds : List Nat} {lb lb' : Array Bool} {fuel : Nat} {oi : Oper}
theorem rcallc (j : Nat) (hi : ops[j]? = some oi) (hop : oi.op = .call { callee := .value x, args := as, argTypes := ts }) (hN : oi.dst = some N) (hw : Region.wanted oi (yielded ops a.tmps) = true) (hc : readyB md ops lb (lb.setIfInBounds j true) j = true) (hd : j ∉ ds)
  (hf : P.funcs[f]? = some fn) (hname : (fn.name == "runtime.NumGoroutine") = false) (hb : fn.body.isSome = true) (hx : a.eval x = .func (.func f) #[] cs) (hargs : as.map a.eval ++ cs = args)
  (h : Calls P f args W fun e w' => ∃ v, e = .returned v ∧ Fr T w w' L Ms ∧ (Fr T w w' L Ms → wpAnyLast P md ops Q (fun w' => Fr T w w' L Ms) ds fuel (lb.setIfInBounds j true) (a.put (some N) v) w')) : wpAnyLast P md ops Q (fun w' => Fr T w w' L Ms) ds (fuel + 1) lb a W :=
 one_ _ hi hN hc hd fun _ hK => call_ f args hw hN (enters_clo hf hname hb hop hx hargs) (h.mono fun _ _ ⟨v, he, hF, hh⟩ => ⟨v, he, hK _ _ hF hh⟩)
end
end Go.Proofs.YtffkgndghbdgnaaGreat.Frame
namespace Go.Proofs.YtffkgndghbdgnaaGreat.Frame
open Go.RowKit Go.Proofs.YtffkgndghbdgnaaGreatW.PrintWords Go.Proofs.YtffkgndghbdgnaaGreatW.PrintLast Go.Proofs.YtffkgndghbdgnaaGreatW.PrintMore
section
variable {T : List Nat} {w W w1 : World} {L LG : List Blk} {Ms MG : List World} {A A' : Option Addr} {l l' : List Int}
variable {α : Type} {d : Kd α} {e g : Nat} {ok : Nat → Prop} {v : Value} {xs : List α}
variable {P : Program} {ops : Array Oper} {rest : List Oper} {o1 o2 : Oper} {a : Act} {Q : Exit → Act → World → Prop} {N1 N2 : Tmp} {s x : Operand} {t bytes M : Nat} {z : Value} {p : α} {cs : List Value}
variable {md : Region.Mode} {ds : List Nat} {lb : Array Bool} {fuel : Nat}
variable {oi : Oper} {a' : Act} {N : Tmp} {lb' : Array Bool} {p' : Operand} {ty i t' : Nat} {cs' : List Value}
end
end Go.Proofs.YtffkgndghbdgnaaGreat.Frame
namespace Go.Proofs.YtffkgndghbdgnaaGreat.Frame
set_option linter.unusedVariables false
open Go.RowKit Go.Proofs.YtffkgndghbdgnaaGreatW.PrintWords Go.Proofs.YtffkgndghbdgnaaGreatW.PrintLast Go.Proofs.YtffkgndghbdgnaaGreatW.PrintMore
open Go.Maps
section
variable {P : Program} {ops : Array Oper} {Q : Exit → Act → World → Prop} {S : World → Prop} {md : Region.Mode} {ds : List Nat}
def Arm (P : Program) (ops : Array Oper) (Q : Exit → Act → World → Prop) (S : World → Prop) (oi : Oper) (a : Act) (W : World) (R : Act → World → Prop) : Prop :=
 ∀ K : Act → World → Prop, Shut (∀ a' w', S w' → R a' w' → K a' w') → if Region.wanted oi (yielded ops a.tmps) = true then Oper.wp P oi a W K Q else K (a.put oi.dst undef) W
theorem arm_cons {fuel i : Nat} {l l' : Array Bool} {a : Act} {W : World} {o : Oper} {rs : List Nat} {R : Act → World → Prop} (ho : ops[i]? = some o) (hd : i ∉ ds) (hl : l.setIfInBounds i true = l') (ha : Arm P ops Q S o a W R)
  (hk : ∀ a' W', R a' W' → wpAnyLast P md ops Q S ds fuel l' a' W') (hs : AllReadyL P md ops Q S ds fuel l a W rs) : AllReadyL P md ops Q S ds fuel l a W (i :: rs) :=
 AllReadyL.cons ho hd (fun K hK => ha K (fun a' w' hS hR => hK a' w' hS (fun _ => by rw [hl]; exact hk _ _ hR))) hs
theorem five_ {I : Bool → Bool → Bool → Bool → Bool → Act → World → Prop} {LL : Bool → Bool → Bool → Bool → Bool → Array Bool} {fuel jm j1 j2 j3 jc : Nat} {om o1 o2 o3 oc : Oper}
  (hm : ops[jm]? = some om) (h1 : ops[j1]? = some o1) (h2 : ops[j2]? = some o2) (h3 : ops[j3]? = some o3) (hc : ops[jc]? = some oc) (hd : ds = [])
  (rd : ∀ m b1 b2 b3 c, (m || !(b1 || b2 || b3)) = true → (m && b1 && b2 && b3) = false → (Region.ready md ops (LL m b1 b2 b3 c) == ((if m then (if b1 then [] else [j1]) ++ (if b2 then [] else [j2]) ++ (if b3 then [] else [j3]) else [jm]) ++ (if c then [] else [jc]))) = true)
  (sm : ∀ c, (LL false false false false c).setIfInBounds jm true = LL true false false false c)
  (s1 : ∀ b2 b3 c, (LL true false b2 b3 c).setIfInBounds j1 true = LL true true b2 b3 c) (s2 : ∀ b1 b3 c, (LL true b1 false b3 c).setIfInBounds j2 true = LL true b1 true b3 c) (s3 : ∀ b1 b2 c, (LL true b1 b2 false c).setIfInBounds j3 true = LL true b1 b2 true c)
  (sc : ∀ m b1 b2 b3, (LL m b1 b2 b3 false).setIfInBounds jc true = LL m b1 b2 b3 true)
  (am : ∀ c a W, I false false false false c a W → Arm P ops Q S om a W (I true false false false c))
  (a1 : ∀ b2 b3 c a W, I true false b2 b3 c a W → Arm P ops Q S o1 a W (I true true b2 b3 c)) (a2 : ∀ b1 b3 c a W, I true b1 false b3 c a W → Arm P ops Q S o2 a W (I true b1 true b3 c)) (a3 : ∀ b1 b2 c a W, I true b1 b2 false c a W → Arm P ops Q S o3 a W (I true b1 b2 true c))
  (ac : ∀ m b1 b2 b3 a W, I m b1 b2 b3 false a W → Arm P ops Q S oc a W (I m b1 b2 b3 true))
  (he : ∀ a W, I true true true true true a W → wpAnyLast P md ops Q S ds fuel (LL true true true true true) a W)
  (hx : ∀ a W, I true true true true false a W → wpAnyLast P md ops Q S ds (fuel + 1) (LL true true true true false) a W)
  {a : Act} {W : World} (h0 : I false false false false false a W) : wpAnyLast P md ops Q S ds (fuel + 5) (LL false false false false false) a W := by
 subst hd
 have key : ∀ n m b1 b2 b3 c, (m || !(b1 || b2 || b3)) = true → (if m then 0 else 1) + (if b1 then 0 else 1) + (if b2 then 0 else 1) + (if b3 then 0 else 1) + (if c then 0 else 1) = n → ∀ a W, I m b1 b2 b3 c a W → wpAnyLast P md ops Q S [] (fuel + n) (LL m b1 b2 b3 c) a W := by
  intro n
  induction n with
  | zero =>
   intro m b1 b2 b3 c hv hn a W hI
   cases m <;> cases b1 <;> cases b2 <;> cases b3 <;> cases c <;> simp at hn
   exact he a W hI
  | succ n ih =>
   intro m b1 b2 b3 c hv hn a W hI
   by_cases hr : (m && b1 && b2 && b3) = true
   ·obtain ⟨rfl, rfl, rfl, rfl, rfl, rfl⟩ : m = true ∧ b1 = true ∧ b2 = true ∧ b3 = true ∧ c = false ∧ n = 0 := by
     cases m <;> cases b1 <;> cases b2 <;> cases b3 <;> cases c <;> simp at hn hr ⊢ <;> omega
    exact hx a W hI
   replace hr := Bool.eq_false_iff.mpr hr
   have hR := eq_of_beq (rd m b1 b2 b3 c hv hr)
   have km : m = false → AllReadyL P md ops Q S [] (fuel + n) (LL m b1 b2 b3 c) a W [jm] := by
    intro e
    subst e
    obtain ⟨rfl, rfl, rfl⟩ : b1 = false ∧ b2 = false ∧ b3 = false := by cases b1 <;> cases b2 <;> cases b3 <;> simp at hv ⊢
    exact arm_cons hm (by simp) (sm c) (am c a W hI) (fun a' W' h => ih true false false false c rfl (by cases c <;> simp at hn ⊢ <;> omega) a' W' h) AllReadyL.nil
   have kc : AllReadyL P md ops Q S [] (fuel + n) (LL m b1 b2 b3 c) a W (if c then [] else [jc]) := by
    cases c with
    | true => exact AllReadyL.nil
    | false => exact arm_cons hc (by simp) (sc m b1 b2 b3) (ac m b1 b2 b3 a W hI) (fun a' W' h => ih m b1 b2 b3 true hv (by cases m <;> cases b1 <;> cases b2 <;> cases b3 <;> simp at hn ⊢ <;> omega) a' W' h) AllReadyL.nil
   have app : ∀ {r1 r2 : List Nat}, AllReadyL P md ops Q S [] (fuel + n) (LL m b1 b2 b3 c) a W r1 → AllReadyL P md ops Q S [] (fuel + n) (LL m b1 b2 b3 c) a W r2 → AllReadyL P md ops Q S [] (fuel + n) (LL m b1 b2 b3 c) a W (r1 ++ r2) := fun h1 h2 j hj => by
    rcases List.mem_append.1 hj with h | h
    ·exact h1 j h
    ·exact h2 j h
   refine wpAnyLast_ready hR ?_ ?_
   ·cases m <;> cases b1 <;> cases b2 <;> cases b3 <;> cases c <;> first | (simp; done) | (exfalso; simp at hr)
   ·refine app ?_ kc
    cases m with
    | false => exact km rfl
    | true =>
     refine app (app ?_ ?_) ?_
     ·cases b1 with
      | true => exact AllReadyL.nil
      | false => exact arm_cons h1 (by simp) (s1 b2 b3 c) (a1 b2 b3 c a W hI) (fun a' W' h => ih true true b2 b3 c rfl (by cases b2 <;> cases b3 <;> cases c <;> simp at hn ⊢ <;> omega) a' W' h) AllReadyL.nil
     ·cases b2 with
      | true => exact AllReadyL.nil
      | false => exact arm_cons h2 (by simp) (s2 b1 b3 c) (a2 b1 b3 c a W hI) (fun a' W' h => ih true b1 true b3 c rfl (by cases b1 <;> cases b3 <;> cases c <;> simp at hn ⊢ <;> omega) a' W' h) AllReadyL.nil
     ·cases b3 with
      | true => exact AllReadyL.nil
      | false => exact arm_cons h3 (by simp) (s3 b1 b2 c) (a3 b1 b2 c a W hI) (fun a' W' h => ih true b1 b2 true c rfl (by cases b1 <;> cases b2 <;> cases c <;> simp at hn ⊢ <;> omega) a' W' h) AllReadyL.nil
 exact key 5 false false false false false rfl rfl a W h0
theorem ownsMap_below {H : Type} {k : TypeId} {R : Value → Option (DataW H × List MemPlace)} {b n : Nat} {D : DataW H} {W w1 : World} (h : W.ownsMap P k R b n D) (hb : Below W.heap.size W w1) : w1.ownsMap P k R b n D := by
 have hlt := h.lt
 obtain ⟨es, clock, h1, F, hs, e⟩ := h
 exact ⟨es, clock, (hb.block b hlt).trans h1, F, hs, e⟩
def putIf (c : Bool) (a : Act) (N : Tmp) (v : Value) : Act := if c then a.put (some N) v else a
theorem put_comm {a : Act} {M N : Tmp} {u v : Value} (h : M ≠ N) : (a.put (some M) u).put (some N) v = (a.put (some N) v).put (some M) u := by
 unfold Act.put
 simp only
 rw [Array.setIfInBounds_comm _ _ h]
theorem eval_put {a : Act} {M N : Tmp} {v : Value} (h : M ≠ N) : (a.put (some M) v).eval (.tmp N) = a.eval (.tmp N) := by
 unfold Act.put Act.eval
 simp [Array.getElem?_setIfInBounds_ne h]
theorem eval_put_same {a : Act} {M : Tmp} {v : Value} (h : M < a.tmps.size) : (a.put (some M) v).eval (.tmp M) = v := by
 unfold Act.put Act.eval
 simp [h]
theorem wanted_none {o : Oper} {y : Nat → Option Bool} (h : o.guard = none) : Region.wanted o y = true := by
 unfold Region.wanted
 rw [h]
section
variable {T : List Nat} {w W : World} {L LG : List Blk} {Ms MG : List World}
inductive Tg1 : Prop
 | mk
inductive Tg2 : Prop
 | mk
theorem maplit (F : Fr T w W LG MG) (FS : Fr T w W L Ms) (t kt et : TypeId) {LL : Bool → Bool → Bool → Bool → Bool → Array Bool} {fuel jm j1 j2 j3 jc : Nat} {om o1 o2 o3 oc : Oper} {A0 : Act} {M C X : Tmp} {f : FuncId} {fn : Func} {ts : Array TypeId} {r x : Value} {k1 k2 k3 v1 v2 v3 : Int}
  (hm : ops[jm]? = some om) (h1 : ops[j1]? = some o1) (h2 : ops[j2]? = some o2) (h3 : ops[j3]? = some o3) (hc : ops[jc]? = some oc) (hd : ds = [])
  (gm : om.guard = none) (g1 : o1.guard = none) (g2 : o2.guard = none) (g3 : o3.guard = none) (gc : oc.guard = none)
  (em : om.op = .makeMap t none) (e1 : o1.op = .insert t (.tmp M) (.const (.int .i64 k1)) (.const (.int .i64 v1))) (e2 : o2.op = .insert t (.tmp M) (.const (.int .i64 k2)) (.const (.int .i64 v2))) (e3 : o3.op = .insert t (.tmp M) (.const (.int .i64 k3)) (.const (.int .i64 v3)))
  (ec : oc.op = .call { callee := .value (.func f), args := #[.tmp X], argTypes := ts }) (dm : om.dst = some M) (d1 : o1.dst = none) (d2 : o2.dst = none) (d3 : o3.dst = none) (dc : oc.dst = some C)
  (ht : P.underlying t = some (.map kt et)) (hkt : P.underlying kt = some (.int .i64)) (het : P.underlying et = some (.int .i64))
  (wf : (Lit.int .i64 k1).wf = true ∧ (Lit.int .i64 k2).wf = true ∧ (Lit.int .i64 k3).wf = true ∧ (Lit.int .i64 v1).wf = true ∧ (Lit.int .i64 v2).wf = true ∧ (Lit.int .i64 v3).wf = true) (hk : k1 ≠ k2 ∧ k1 ≠ k3 ∧ k2 ≠ k3)
  (hf : P.funcs[f]? = some fn) (hname : (fn.name == "runtime.NumGoroutine") = false) (hb : fn.body.isSome = true)
  (hMC : M ≠ C) (hMX : M ≠ X) (hM : M < A0.tmps.size) (hX : A0.eval (.tmp X) = x) (hCX : C ≠ X)
  (hcall : ∀ W', Fr T w W' L Ms → Calls P f #[x] W' fun e w' => e = .returned r ∧ Below W'.heap.size W' w')
  (rd : ∀ m b1 b2 b3 c, (m || !(b1 || b2 || b3)) = true → (m && b1 && b2 && b3) = false → (Region.ready md ops (LL m b1 b2 b3 c) == ((if m then (if b1 then [] else [j1]) ++ (if b2 then [] else [j2]) ++ (if b3 then [] else [j3]) else [jm]) ++ (if c then [] else [jc]))) = true)
  (sm : ∀ c, (LL false false false false c).setIfInBounds jm true = LL true false false false c)
  (s1 : ∀ b2 b3 c, (LL true false b2 b3 c).setIfInBounds j1 true = LL true true b2 b3 c) (s2 : ∀ b1 b3 c, (LL true b1 false b3 c).setIfInBounds j2 true = LL true b1 true b3 c) (s3 : ∀ b1 b2 c, (LL true b1 b2 false c).setIfInBounds j3 true = LL true b1 b2 true c)
  (sc : ∀ m b1 b2 b3, (LL m b1 b2 b3 false).setIfInBounds jc true = LL m b1 b2 b3 true)
  (he : Tg1 → ∀ B n (D : DataW Unit) W', Fr T w W' L Ms → Fr T w W' LG MG → W'.ownsMap P kt (plainElem P et) B n D → D.atKey (.int .i64 k1) (.lit (.int .i64 0)) = .lit (.int .i64 v1) → D.atKey (.int .i64 k2) (.lit (.int .i64 0)) = .lit (.int .i64 v2) → D.atKey (.int .i64 k3) (.lit (.int .i64 0)) = .lit (.int .i64 v3) →
   wpAnyLast P md ops Q (fun w' => Fr T w w' L Ms) ds fuel (LL true true true true true) ((A0.put (some M) (.map (some B))).put (some C) r) W')
  (hx : Tg2 → ∀ B n (D : DataW Unit) W', Fr T w W' L Ms → Fr T w W' LG MG → W'.ownsMap P kt (plainElem P et) B n D → D.atKey (.int .i64 k1) (.lit (.int .i64 0)) = .lit (.int .i64 v1) → D.atKey (.int .i64 k2) (.lit (.int .i64 0)) = .lit (.int .i64 v2) → D.atKey (.int .i64 k3) (.lit (.int .i64 0)) = .lit (.int .i64 v3) →
   wpAnyLast P md ops Q (fun w' => Fr T w w' L Ms) ds (fuel + 1) (LL true true true true false) (A0.put (some M) (.map (some B))) W') :
  wpAnyLast P md ops Q (fun w' => Fr T w w' L Ms) ds (fuel + 5) (LL false false false false false) A0 W := by
 have K := int_keyed hkt
 have evM : ∀ (c : Bool) (B : Nat), (putIf c (putIf true A0 M (.map (some B))) C r).eval (.tmp M) = .map (some B) := fun c B => by
  cases c with
  | false => exact eval_put_same hM
  | true => exact (eval_put (Ne.symm hMC)).trans (eval_put_same hM)
 have evX : ∀ (m : Bool) (B : Nat), (putIf m A0 M (.map (some B))).eval (.tmp X) = x := fun m B => by
  cases m with
  | false => exact hX
  | true => exact (eval_put hMX).trans hX
 have ins : ∀ (o : Oper) (kx vx : Int), o.guard = none → o.op = .insert t (.tmp M) (.const (.int .i64 kx)) (.const (.int .i64 vx)) → o.dst = none → (Lit.int .i64 kx).wf = true → (Lit.int .i64 vx).wf = true →
   ∀ (c : Bool) (W' : World) (B n : Nat) (D : DataW Unit), Below W.heap.size W W' → W.heap.size ≤ B → W'.ownsMap P kt (plainElem P et) B n D → n ≤ 3 →
   ∀ R : Act → World → Prop, (∀ W2, Below W.heap.size W W2 → W2.ownsMap P kt (plainElem P et) B (n + 1) (D.put (.int .i64 kx) (.lit (.int .i64 vx))) → R (putIf c (putIf true A0 M (.map (some B))) C r) W2) →
   Arm P ops Q (fun w' => Fr T w w' L Ms) o (putIf c (putIf true A0 M (.map (some B))) C r) W' R := by
  intro o kx vx hg he hd' wk wv c W' B n D hB hBB hO hn R hR K' hK
  rw [if_pos (wanted_none hg)]
  obtain ⟨w2, hrun, hown, hgr⟩ := hO.update K ht (by unfold maxLen; omega) (keyOf_int_mk hkt wk) (plainElem_int (H := Unit) het wv)
  have hev := evM c B
  generalize putIf c (putIf true A0 M (.map (some B))) C r = a at hev hR ⊢
  have hB2 : Below W.heap.size W w2 := hB.grown hgr hB.size (fun j hj => by cases hj; exact hBB)
  have hk1 : a.eval (.const (.int .i64 kx)) = .int .i64 kx := rfl
  have hk2 : a.eval (.const (.int .i64 vx)) = .int .i64 vx := rfl
  unfold Oper.wp execOp
  simp only [he, hev, hk1, hk2, Sem.run_bind, Sem.run_pure, Result.andThen_ok, hrun]
  show K' (a.put o.dst undef) _
  rw [hd']
  exact hK _ _ (FS.call hB2) (hR w2 hB2 hown)
 have two : ∀ i j : Int, i ≠ j → (Lit.int .i64 i) ≠ Lit.int .i64 j := fun i j h e => h (by injection e)
 have same : ∀ (D : DataW Unit) (i v : Int), IsMap D → (D.put (.int .i64 i) (.lit (.int .i64 v))).atKey (.int .i64 i) (.lit (.int .i64 0)) = .lit (.int .i64 v) := fun D i v h => atKey_put_same h (by trivial) _ _
 have oth : ∀ (D : DataW Unit) (i j v u : Int), i ≠ j → D.atKey (.int .i64 i) (.lit (.int .i64 0)) = .lit (.int .i64 u) → (D.put (.int .i64 j) (.lit (.int .i64 v))).atKey (.int .i64 i) (.lit (.int .i64 0)) = .lit (.int .i64 u) := fun D i j v u h e => (atKey_put_other (two i j h) _ _).trans e
 refine five_ (I := fun m b1 b2 b3 c a W' => ∃ B n, ∃ D : DataW Unit, a = putIf c (putIf m A0 M (.map (some B))) C r ∧ Below W.heap.size W W' ∧ W.heap.size ≤ B ∧ (m = true → W'.ownsMap P kt (plainElem P et) B n D ∧ n ≤ b1.toNat + b2.toNat + b3.toNat ∧ IsMap D ∧
   (b1 = true → D.atKey (.int .i64 k1) (.lit (.int .i64 0)) = .lit (.int .i64 v1)) ∧ (b2 = true → D.atKey (.int .i64 k2) (.lit (.int .i64 0)) = .lit (.int .i64 v2)) ∧ (b3 = true → D.atKey (.int .i64 k3) (.lit (.int .i64 0)) = .lit (.int .i64 v3))))
  hm h1 h2 h3 hc hd rd sm s1 s2 s3 sc ?_ ?_ ?_ ?_ ?_ ?_ ?_ ⟨W.heap.size, 0, .map [], rfl, Below.refl _ _, Nat.le_refl _, fun h => by cases h⟩
 ·rintro c a W' ⟨B, n, D, rfl, hB, hBB, _⟩ K' hK
  rw [if_pos (wanted_none gm)]
  have hrun : (execOp (putIf c (putIf false A0 M (.map (some B))) C r).eval om).run P W' = .ok (.value (.map (some W'.heap.size))) (W'.alloc (.map #[] 0)) := by
   unfold execOp
   simp only [em, Option.map_none, Sem.run_bind, Sem.run_pure, run_makeMap, Result.andThen_ok]
  unfold Oper.wp
  rw [hrun]
  show K' ((putIf c (putIf false A0 M (.map (some B))) C r).put om.dst _) _
  rw [dm]
  have hB2 : Below W.heap.size W (W'.alloc (.map #[] 0)) := below_step hB (below_alloc (Below.refl _ _) _)
  refine hK _ _ (FS.call hB2) ⟨W'.heap.size, 0, .map [], ?_, hB2, hB.size, fun _ => ⟨World.ownsMap_made _ _ _ _, Nat.zero_le _, ⟨_, rfl⟩, fun h => (by cases h), fun h => (by cases h), fun h => (by cases h)⟩⟩
  cases c with
  | false => rfl
  | true => exact put_comm (Ne.symm hMC)
 ·rintro b2 b3 c a W' ⟨B, n, D, rfl, hB, hBB, hh⟩
  obtain ⟨hO, hn, hD, _, q2, q3⟩ := hh rfl
  refine ins o1 k1 v1 g1 e1 d1 wf.1 wf.2.2.2.1 c W' B n D hB hBB hO (by cases b2 <;> cases b3 <;> simp at hn <;> omega) _ (fun W2 hB2 hO2 => ⟨B, n + 1, _, rfl, hB2, hBB, fun _ => ⟨hO2, by simp at hn ⊢; omega, hD.put _ _, fun _ => same D k1 v1 hD, fun h => oth D k2 k1 v1 v2 (Ne.symm hk.1) (q2 h), fun h => oth D k3 k1 v1 v3 (Ne.symm hk.2.1) (q3 h)⟩⟩)
 ·rintro b1 b3 c a W' ⟨B, n, D, rfl, hB, hBB, hh⟩
  obtain ⟨hO, hn, hD, q1, _, q3⟩ := hh rfl
  refine ins o2 k2 v2 g2 e2 d2 wf.2.1 wf.2.2.2.2.1 c W' B n D hB hBB hO (by cases b1 <;> cases b3 <;> simp at hn <;> omega) _ (fun W2 hB2 hO2 => ⟨B, n + 1, _, rfl, hB2, hBB, fun _ => ⟨hO2, by simp at hn ⊢; omega, hD.put _ _, fun h => oth D k1 k2 v2 v1 hk.1 (q1 h), fun _ => same D k2 v2 hD, fun h => oth D k3 k2 v2 v3 (Ne.symm hk.2.2) (q3 h)⟩⟩)
 ·rintro b1 b2 c a W' ⟨B, n, D, rfl, hB, hBB, hh⟩
  obtain ⟨hO, hn, hD, q1, q2, _⟩ := hh rfl
  refine ins o3 k3 v3 g3 e3 d3 wf.2.2.1 wf.2.2.2.2.2 c W' B n D hB hBB hO (by cases b1 <;> cases b2 <;> simp at hn <;> omega) _ (fun W2 hB2 hO2 => ⟨B, n + 1, _, rfl, hB2, hBB, fun _ => ⟨hO2, by simp at hn ⊢; omega, hD.put _ _, fun h => oth D k1 k3 v3 v1 hk.2.1 (q1 h), fun h => oth D k2 k3 v3 v2 hk.2.2 (q2 h), fun _ => same D k3 v3 hD⟩⟩)
 ·rintro m b1 b2 b3 a W' ⟨B, n, D, rfl, hB, hBB, hh⟩ K' hK
  have hFS := FS.call hB
  rw [dc]
  refine goes_ hf hname hb #[x] (wanted_none gc) dc ec (by simp only [List.map_toArray, List.map_cons, List.map_nil]; rw [show (putIf false (putIf m A0 M (.map (some B))) C r) = putIf m A0 M (.map (some B)) from rfl, evX m B]) ((hcall W' hFS).mono ?_)
  rintro e w2 ⟨rfl, hb2⟩
  have hB2 := below_step hB hb2
  refine ⟨_, rfl, hK _ _ (FS.call hB2) ⟨B, n, D, rfl, hB2, hBB, fun h => ?_⟩⟩
  obtain ⟨hO, rest⟩ := hh h
  exact ⟨ownsMap_below hO hb2, rest⟩
 ·rintro a W' ⟨B, n, D, rfl, hB, hBB, hh⟩
  obtain ⟨hO, _, hD, q1, q2, q3⟩ := hh rfl
  exact he Tg1.mk B n D W' (FS.call hB) (F.call hB) hO (q1 rfl) (q2 rfl) (q3 rfl)
 ·rintro a W' ⟨B, n, D, rfl, hB, hBB, hh⟩
  obtain ⟨hO, _, hD, q1, q2, q3⟩ := hh rfl
  exact hx Tg2.mk B n D W' (FS.call hB) (F.call hB) hO (q1 rfl) (q2 rfl) (q3 rfl)
theorem map3 {y z : Int} (h : (if y = 1 then some (6 : Int) else if y = 2 then some 17 else if y = 3 then some 58 else none) = some z) : (y = 1 ∧ z = 6) ∨ (y = 2 ∧ z = 17) ∨ (y = 3 ∧ z = 58) := by
 by_cases h1 : y = 1
 ·rw [if_pos h1] at h; injection h with h; exact .inl ⟨h1, h.symm⟩
 ·rw [if_neg h1] at h
  by_cases h2 : y = 2
  ·rw [if_pos h2] at h; injection h with h; exact .inr (.inl ⟨h2, h.symm⟩)
  ·rw [if_neg h2] at h
   by_cases h3 : y = 3
   ·rw [if_pos h3] at h; injection h with h; exact .inr (.inr ⟨h3, h.symm⟩)
   ·rw [if_neg h3] at h; cases h
theorem look3 {D : DataW Unit} {y z : Int} (h : (y = 1 ∧ z = 6) ∨ (y = 2 ∧ z = 17) ∨ (y = 3 ∧ z = 58)) (m1 : D.atKey (.int .i64 1) (.lit (.int .i64 0)) = .lit (.int .i64 6)) (m2 : D.atKey (.int .i64 2) (.lit (.int .i64 0)) = .lit (.int .i64 17)) (m3 : D.atKey (.int .i64 3) (.lit (.int .i64 0)) = .lit (.int .i64 58)) :
  D.atKey (.int .i64 y) (.lit (.int .i64 0)) = .lit (.int .i64 z) ∧ (Lit.int .i64 y).wf = true := by
 rcases h with ⟨rfl, rfl⟩ | ⟨rfl, rfl⟩ | ⟨rfl, rfl⟩
 ·exact ⟨m1, by decide⟩
 ·exact ⟨m2, by decide⟩
 ·exact ⟨m3, by decide⟩
theorem rlook {lb : Array Bool} {fuel : Nat} {a : Act} {oi : Oper} {N : Tmp} {p x : Operand} {t kt et : TypeId} {B n : Nat} {D : DataW Unit} {y z : Int} (FS : Fr T w W L Ms) (j : Nat)
  (hi : ops[j]? = some oi) (ho : oi.op = .lookup t p x false) (hN : oi.dst = some N) (hw : Region.wanted oi (yielded ops a.tmps) = true) (hc : readyB md ops lb (lb.setIfInBounds j true) j = true) (hd : j ∉ ds)
  (hp : a.eval p = .map (some B)) (hx : a.eval x = .int .i64 y) (hO : W.ownsMap P kt (plainElem P et) B n D) (ht : P.underlying t = some (.map kt et)) (hkt : P.underlying kt = some (.int .i64)) (het : P.underlying et = some (.int .i64)) (hz : (zeroValue et).run P W = .ok (.int .i64 0) W)
  (wy : (Lit.int .i64 y).wf = true) (hy : D.atKey (.int .i64 y) (.lit (.int .i64 0)) = .lit (.int .i64 z))
  (h : wpAnyLast P md ops Q (fun w' => Fr T w w' L Ms) ds fuel (lb.setIfInBounds j true) (a.put (some N) (.int .i64 z)) W) : wpAnyLast P md ops Q (fun w' => Fr T w w' L Ms) ds (fuel + 1) lb a W := by
 refine rone_ j hi hc hd hw (fun K hK => ?_)
 obtain ⟨c, hrun, hc', _⟩ := hO.lookup_int (int_keyed hkt) ht het hz (keyOf_int_mk hkt wy)
 rw [hy] at hc'
 obtain rfl : z = c := by injection hc' with e; injection e
 unfold Oper.wp execOp
 simp only [ho, hp, hx, Sem.run_bind, Sem.run_pure, Result.andThen_ok, hrun]
 show K (a.put oi.dst _) _
 rw [hN]
 exact hK _ _ FS (fun _ => h)
theorem arm_look {lb : Array Bool} {fuel : Nat} {a : Act} {oi : Oper} {N : Tmp} {p x : Operand} {t kt et : TypeId} {B n : Nat} {D : DataW Unit} {y z : Int} (FS : Fr T w W L Ms)
  (ho : oi.op = .lookup t p x false) (hN : oi.dst = some N) (hw : Region.wanted oi (yielded ops a.tmps) = true)
  (hp : a.eval p = .map (some B)) (hx : a.eval x = .int .i64 y) (hO : W.ownsMap P kt (plainElem P et) B n D) (ht : P.underlying t = some (.map kt et)) (hkt : P.underlying kt = some (.int .i64)) (het : P.underlying et = some (.int .i64)) (hz : (zeroValue et).run P W = .ok (.int .i64 0) W)
  (wy : (Lit.int .i64 y).wf = true) (hy : D.atKey (.int .i64 y) (.lit (.int .i64 0)) = .lit (.int .i64 z))
  (h : wpAnyLast P md ops Q (fun w' => Fr T w w' L Ms) ds fuel lb (a.put (some N) (.int .i64 z)) W) :
  ∀ K : Act → World → Prop, Shut (∀ a' w', Fr T w w' L Ms → (Fr T w w' L Ms → wpAnyLast P md ops Q (fun w' => Fr T w w' L Ms) ds fuel lb a' w') → K a' w') → if Region.wanted oi (yielded ops a.tmps) = true then Oper.wp P oi a W K Q else K (a.put (some N) undef) W := by
 intro K hK
 rw [if_pos hw]
 obtain ⟨c, hrun, hc', _⟩ := hO.lookup_int (int_keyed hkt) ht het hz (keyOf_int_mk hkt wy)
 rw [hy] at hc'
 obtain rfl : z = c := by injection hc' with e; injection e
 unfold Oper.wp execOp
 simp only [ho, hp, hx, Sem.run_bind, Sem.run_pure, Result.andThen_ok, hrun]
 show K (a.put oi.dst _) _
 rw [hN]
 exact hK _ _ FS (fun _ => h)
end
end
end Go.Proofs.YtffkgndghbdgnaaGreat.Frame
namespace Go.Proofs.YtffkgndghbdgnaaGreatW.PrintWords
open Go.ChangeShapes Go.WideShapes
end Go.Proofs.YtffkgndghbdgnaaGreatW.PrintWords
