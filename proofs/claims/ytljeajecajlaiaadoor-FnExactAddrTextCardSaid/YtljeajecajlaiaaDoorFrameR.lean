/- The frame kit at a region that draws its order and makes rows beside calls. No program in it, no condition. -/
import Derived.Test.YtljeajecajlaiaaDoorFrameP
namespace Go.Proofs.YtljeajecajlaiaaDoor.Frame
open Go.RowKit Go.Proofs.YtljeajecajlaiaaDoorW.PrintWords Go.Proofs.YtljeajecajlaiaaDoorW.PrintLast Go.Proofs.YtljeajecajlaiaaDoorW.PrintMore
theorem u8_wr (n : Int) : IntKind.u8.wrap n = n % 256 := by
  simp [IntKind.wrap, IntKind.signed, IntKind.bits]
section
variable {P : Program} {ops : Array Oper} {a a' : Act} {Q : Exit → Act → World → Prop}
variable {T : List Nat} {w W w1 : World} {L : List Blk} {Ms : List World} {g e n : Nat} {N N' : Tmp}
variable {md : Region.Mode} {ds : List Nat} {l l' : Array Bool} {fuel : Nat} {oi oj : Oper} {cs : List Value}
theorem arm_call {f : FuncId} {fn : Func} {as : Array Operand} {ts : Array TypeId} {args : Array Value} (hop : oi.op = .call { callee := .value (.func f), args := as, argTypes := ts }) (hN : oi.dst = some N) (hw : Region.wanted oi (yielded ops a.tmps) = true)
    (hf : P.funcs[f]? = some fn) (hname : (fn.name == "runtime.NumGoroutine") = false) (hb : fn.body.isSome = true)
    (h : Calls P f args W fun e w' => ∃ v, e = .returned v ∧ Fr T w w' L Ms ∧ (Fr T w w' L Ms → wpAnyLast P md ops Q (fun w' => Fr T w w' L Ms) ds fuel l' (a.put (some N) v) w')) (hargs : as.map a.eval = args) :
    ∀ K : Act → World → Prop, Shut (∀ a' w', Fr T w w' L Ms → (Fr T w w' L Ms → wpAnyLast P md ops Q (fun w' => Fr T w w' L Ms) ds fuel l' a' w') → K a' w') → if Region.wanted oi (yielded ops a.tmps) = true then Oper.wp P oi a W K Q else K (a.put (some N) undef) W :=
  fun _ hK => goes_ hf hname hb args hw hN hop hargs (h.mono fun _ _ ⟨v, he, hF, hh⟩ => ⟨v, he, hK _ _ hF hh⟩)
theorem arm_build (F : Fr T w W L Ms) (hN : oi.dst = some N) (hw : Region.wanted oi (yielded ops a.tmps) = true)
    (hrun : (execOp a.eval oi).run P W = .ok (.value (.slice (some ⟨W.heap.size, 0, none⟩) n n)) (W.alloc (.cells cs.toArray e (0, 0))))
    (h : ∀ g w1, w.heap.size ≤ g → Below W.heap.size W w1 → w1.heap[g]? = some (.cells cs.toArray e (0, 0)) → Fr T w w1 L Ms → wpAnyLast P md ops Q (fun w' => Fr T w w' L Ms) ds fuel l' (a.put (some N) (.slice (some ⟨g, 0, none⟩) n n)) w1) :
    ∀ K : Act → World → Prop, Shut (∀ a' w', Fr T w w' L Ms → (Fr T w w' L Ms → wpAnyLast P md ops Q (fun w' => Fr T w w' L Ms) ds fuel l' a' w') → K a' w') → if Region.wanted oi (yielded ops a.tmps) = true then Oper.wp P oi a W K Q else K (a.put (some N) undef) W := by
  intro K hK
  rw [if_pos hw]
  unfold Oper.wp
  rw [hrun]
  show K (a.put oi.dst _) _
  rw [hN]
  exact hK _ _ (F.call (below_alloc (Below.refl _ _) _)) (fun F' => h _ _ F.below.size (below_alloc (Below.refl _ _) _) (blk_new W _) F')
theorem rbuild (F : Fr T w W L Ms) (j : Nat) (hi : ops[j]? = some oi) (hN : oi.dst = some N) (hw : Region.wanted oi (yielded ops a.tmps) = true) (hc : readyB md ops l (l.setIfInBounds j true) j = true) (hd : j ∉ ds)
    (hrun : (execOp a.eval oi).run P W = .ok (.value (.slice (some ⟨W.heap.size, 0, none⟩) n n)) (W.alloc (.cells cs.toArray e (0, 0))))
    (h : ∀ g w1, w.heap.size ≤ g → Below W.heap.size W w1 → w1.heap[g]? = some (.cells cs.toArray e (0, 0)) → Fr T w w1 L Ms → wpAnyLast P md ops Q (fun w' => Fr T w w' L Ms) ds fuel (l.setIfInBounds j true) (a.put (some N) (.slice (some ⟨g, 0, none⟩) n n)) w1) :
    wpAnyLast P md ops Q (fun w' => Fr T w w' L Ms) ds (fuel + 1) l a W := one_ _ hi hN hc hd (arm_build F hN hw hrun h)
theorem rtwo (i j : Nat) (hi : ops[i]? = some oi) (hj : ops[j]? = some oj) (hNi : oi.dst = some N) (hNj : oj.dst = some N')
    (hc : (Region.ready md ops l == [i, j] && l.setIfInBounds i true == l.setIfInBounds i true && l.setIfInBounds j true == l.setIfInBounds j true) = true) (hdi : i ∉ ds) (hdj : j ∉ ds)
    (h1 : ∀ K : Act → World → Prop, Shut (∀ a' w', Fr T w w' L Ms → (Fr T w w' L Ms → wpAnyLast P md ops Q (fun w' => Fr T w w' L Ms) ds fuel (l.setIfInBounds i true) a' w') → K a' w') → if Region.wanted oi (yielded ops a.tmps) = true then Oper.wp P oi a W K Q else K (a.put (some N) undef) W)
    (h2 : ∀ K : Act → World → Prop, Shut (∀ a' w', Fr T w w' L Ms → (Fr T w w' L Ms → wpAnyLast P md ops Q (fun w' => Fr T w w' L Ms) ds fuel (l.setIfInBounds j true) a' w') → K a' w') → if Region.wanted oj (yielded ops a.tmps) = true then Oper.wp P oj a W K Q else K (a.put (some N') undef) W) :
    wpAnyLast P md ops Q (fun w' => Fr T w w' L Ms) ds (fuel + 1) l a W := two_ _ _ hi hj hNi hNj hc hdi hdj h1 h2
/-- A block of a literal, met in the world M, stands in W: its type is none of T. -/
theorem Fr.lit {M : World} (F : Fr T w W L Ms) (h : Aside0 (M.heap[g]? = some (.cells cs.toArray e (0, 0)))) (hM : M ∈ Ms) (ht : e ∉ T) : W.heap[g]? = some (.cells cs.toArray e (0, 0)) := by
  rcases (F.mv M hM).blk g (blk_lt h.out) with h1 | ⟨t, htT, ⟨c', h2⟩, _⟩
  · exact h1.trans h.out
  · rw [h.out] at h2
    injection h2 with h2
    injection h2 with _ h2
    subst h2
    exact absurd htT ht
theorem bytesC {k : IntKind} {xs : List Int} (hg : W.heap[g]? = some (.cells (xs.map (Value.int k)).toArray e (0, 0))) (hn : xs.length ≤ 9223372036854775807) : (Kd.int k).C W (some ⟨g, 0, none⟩) xs.length xs := by
  refine ⟨rfl, hn, fun _ => ⟨_, rfl, fun j p hp => ⟨[.int k p], rfl, rfl, fun i u hu => ?_⟩⟩⟩
  have hi : i = 0 := by
    cases i with
    | zero => rfl
    | succ i => simp at hu
  subst hi
  obtain rfl : Value.int k p = u := by simpa using hu
  have h1 := blk_cell hg (0 + (j * 1 + 0))
  rw [show (Kd.int k).sz = 1 from rfl, Addr.add_lit, h1]
  simp [hp]
inductive RowsAt (W : World) : List Value → List (List Int) → Prop
  | nil : RowsAt W [] []
  | cons {A : Option Addr} {n c : Nat} {x : List Int} {cs : List Value} {xs : List (List Int)} : (n = x.length) → (x.length ≤ c) → (Kd.int .u8).C W A x.length x → RowsAt W cs xs → RowsAt W (.slice A n c :: cs) (x :: xs)
theorem RowsAt.get {xs : List (List Int)} (h : RowsAt W cs xs) : ∀ (j : Nat) (p : List Int), xs[j]? = some p → ∃ A c, cs[j]? = some (.slice A p.length c) ∧ p.length ≤ c ∧ (Kd.int .u8).C W A p.length p := by
  induction h with
  | nil => intro j p hp; simp at hp
  | cons h0 h1 h2 _ ih =>
    intro j p hp
    subst h0
    cases j with
    | zero =>
      obtain rfl := Option.some.inj hp
      exact ⟨_, _, rfl, h1, h2⟩
    | succ j => exact ih j p hp
theorem rowsC {xs : List (List Int)} (hg : W.heap[g]? = some (.cells cs.toArray e (0, 0))) (h : RowsAt W cs xs) (hn : xs.length ≤ 9223372036854775807) : (Kd.slice 5 (Kd.int .u8)).C W (some ⟨g, 0, none⟩) xs.length xs := by
  refine ⟨rfl, hn, fun _ => ⟨_, rfl, fun j p hp => ?_⟩⟩
  obtain ⟨A, c, h1, h2, h3⟩ := h.get j p hp
  refine ⟨[.slice A p.length c], rfl, ⟨A, c, rfl, h2, h3⟩, fun i u hu => ?_⟩
  have hi : i = 0 := by
    cases i with
    | zero => rfl
    | succ i => simp at hu
  subst hi
  obtain rfl : Value.slice A p.length c = u := by simpa using hu
  have h4 := blk_cell hg (0 + (j * 1 + 0))
  rw [show (Kd.slice 5 (Kd.int .u8)).sz = 1 from rfl, Addr.add_lit, h4]
  simp [h1]
end
end Go.Proofs.YtljeajecajlaiaaDoor.Frame
