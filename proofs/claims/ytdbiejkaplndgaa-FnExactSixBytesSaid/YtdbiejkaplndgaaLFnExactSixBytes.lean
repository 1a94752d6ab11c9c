/- The row of FnExactSixBytes, out of its pure statement and the contract of its function. It holds for all arguments; no condition of its own. -/
import Derived.Test.YtdbiejkaplndgaaRows
import Derived.Test.YtdbiejkaplndgaaGFnExactSixBytesx
import Derived.Test.YtdbiejkaplndgaaQFnExactSixBytes
import Derived.Test.YtdbiejkaplndgaaZOpFnExactSixBytes
import Derived.Test.YtdbiejkaplndgaaVFnExactSixBytes
import Derived.WalkKit
import Derived.ProofKit
import Derived.OpenShut
import Derived.ShutString
import Derived.ChangeOld
import Derived.Below
import Derived.SizedLaws
namespace Go.Proofs.Ytdbiejkaplndgaa.fnExactSixBytes
open Go.ChangeShapes Go.WideShapes Go.ChangeAt Go.RowKit Go.Proofs.YtdbiejkaplndgaaW.PrintWords Go.Proofs.Ytdbiejkaplndgaa.Op Go.Proofs.Ytdbiejkaplndgaa.FFnExactSixBytes
open Go.ChangeMaps (open_string shut_string)
set_option linter.unusedVariables false
theorem own : ownKnob Try.prog.godebug = none := by kernel_rfl
theorem laidOut : laidOutB Try.prog = true := by kernel_rfl
theorem cells_3 : Try.prog.cellsOf 3 = 1 := by kernel_rfl
theorem cells_5 : Try.prog.cellsOf 5 = 1 := by kernel_rfl
theorem cells_22 : Try.prog.cellsOf 22 = 1 := by kernel_rfl
theorem cells_36 : Try.prog.cellsOf 36 = 5 := by kernel_rfl
theorem cells_37 : Try.prog.cellsOf 37 = 1 := by kernel_rfl
theorem cells_39 : Try.prog.cellsOf 39 = 16 := by kernel_rfl
theorem cells_97 : Try.prog.cellsOf 97 = 2 := by kernel_rfl
section
variable {H : Type} {enc : TypeId × Value → H} {W : World} {fuel : Nat} {cs : List Value} {x : DataW H × List MemPlace}
set_option maxRecDepth 10000 in
theorem op_36 (h : DataW.trod enc Try.prog W 0 (fun _ => true) true fuel 36 cs = some x) : ∃ (a0 : Int) (a1 : Int) (a2 : Int) (a3 : Int) (a4 : Int), cs = [.int .i64 a0, .int .i64 a1, .int .i64 a2, .int .i64 a3, .int .i64 a4] ∧ (Lit.int .i64 a0).wf = true ∧ (Lit.int .i64 a1).wf = true ∧ (Lit.int .i64 a2).wf = true ∧ (Lit.int .i64 a3).wf = true ∧ (Lit.int .i64 a4).wf = true := by
  obtain ⟨xs, m, _, _, hl, hn, hg⟩ := DataW.trod_struct Try.underlying36 h
  rw [cells_36] at hl
  match cs, hl with
  | [v0, v1, v2, v3, v4], _ =>
    obtain ⟨x0, hx0⟩ := op_field hn (show 0 < _ from by decide)
    have g0 : DataW.trod enc Try.prog W 0 (fun _ => true) true m 3 (([v0, v1, v2, v3, v4].drop 0).take (Try.prog.cellsOf 3)) = some x0 := (hg 0 _ rfl).trans hx0
    rw [cells_3] at g0
    change DataW.trod enc Try.prog W 0 (fun _ => true) true m 3 [v0] = some x0 at g0
    obtain ⟨x1, hx1⟩ := op_field hn (show 1 < _ from by decide)
    have g1 : DataW.trod enc Try.prog W 0 (fun _ => true) true m 3 (([v0, v1, v2, v3, v4].drop 1).take (Try.prog.cellsOf 3)) = some x1 := (hg 1 _ rfl).trans hx1
    rw [cells_3] at g1
    change DataW.trod enc Try.prog W 0 (fun _ => true) true m 3 [v1] = some x1 at g1
    obtain ⟨x2, hx2⟩ := op_field hn (show 2 < _ from by decide)
    have g2 : DataW.trod enc Try.prog W 0 (fun _ => true) true m 3 (([v0, v1, v2, v3, v4].drop 2).take (Try.prog.cellsOf 3)) = some x2 := (hg 2 _ rfl).trans hx2
    rw [cells_3] at g2
    change DataW.trod enc Try.prog W 0 (fun _ => true) true m 3 [v2] = some x2 at g2
    obtain ⟨x3, hx3⟩ := op_field hn (show 3 < _ from by decide)
    have g3 : DataW.trod enc Try.prog W 0 (fun _ => true) true m 3 (([v0, v1, v2, v3, v4].drop 3).take (Try.prog.cellsOf 3)) = some x3 := (hg 3 _ rfl).trans hx3
    rw [cells_3] at g3
    change DataW.trod enc Try.prog W 0 (fun _ => true) true m 3 [v3] = some x3 at g3
    obtain ⟨x4, hx4⟩ := op_field hn (show 4 < _ from by decide)
    have g4 : DataW.trod enc Try.prog W 0 (fun _ => true) true m 3 (([v0, v1, v2, v3, v4].drop 4).take (Try.prog.cellsOf 3)) = some x4 := (hg 4 _ rfl).trans hx4
    rw [cells_3] at g4
    change DataW.trod enc Try.prog W 0 (fun _ => true) true m 3 [v4] = some x4 at g4
    obtain ⟨a0, e0, _, w0_0⟩ := DataW.trod_int Try.underlying3 g0
    obtain rfl := op_one e0
    obtain ⟨a1, e1, _, w1_0⟩ := DataW.trod_int Try.underlying3 g1
    obtain rfl := op_one e1
    obtain ⟨a2, e2, _, w2_0⟩ := DataW.trod_int Try.underlying3 g2
    obtain rfl := op_one e2
    obtain ⟨a3, e3, _, w3_0⟩ := DataW.trod_int Try.underlying3 g3
    obtain rfl := op_one e3
    obtain ⟨a4, e4, _, w4_0⟩ := DataW.trod_int Try.underlying3 g4
    obtain rfl := op_one e4
    exact ⟨a0, a1, a2, a3, a4, rfl, w0_0, w1_0, w2_0, w3_0, w4_0⟩
theorem op_22 (h : DataW.trod enc Try.prog W 0 (fun _ => true) true fuel 22 cs = some x) : ∃ (A : Option Addr) (c : Nat) (l : List Int), cs = [.slice A l.length c] ∧ Kd.C (Kd.int .u8) W A l.length l ∧ l.length ≤ c ∧ l.length ≤ maxLen ∧ ∀ n ∈ l, (Lit.int .u8 n).wf = true :=
  op_ints Try.underlying22 Try.underlying5 cells_5 h
set_option maxRecDepth 10000 in
theorem op_97 (h : DataW.trod enc Try.prog W 0 (fun _ => true) true fuel 97 cs = some x) : ∃ (a0 : Int) (A1 : Option Addr) (c1 : Nat) (l1 : List Int), cs = [.int .i64 a0, .slice A1 l1.length c1] ∧ (Lit.int .i64 a0).wf = true ∧ Kd.C (Kd.int .u8) W A1 l1.length l1 ∧ l1.length ≤ c1 ∧ l1.length ≤ maxLen ∧ (∀ n ∈ l1, (Lit.int .u8 n).wf = true) := by
  obtain ⟨xs, m, _, _, hl, hn, hg⟩ := DataW.trod_struct Try.underlying97 h
  rw [cells_97] at hl
  match cs, hl with
  | [v0, v1], _ =>
    obtain ⟨x0, hx0⟩ := op_field hn (show 0 < _ from by decide)
    have g0 : DataW.trod enc Try.prog W 0 (fun _ => true) true m 3 (([v0, v1].drop 0).take (Try.prog.cellsOf 3)) = some x0 := (hg 0 _ rfl).trans hx0
    rw [cells_3] at g0
    change DataW.trod enc Try.prog W 0 (fun _ => true) true m 3 [v0] = some x0 at g0
    obtain ⟨x1, hx1⟩ := op_field hn (show 1 < _ from by decide)
    have g1 : DataW.trod enc Try.prog W 0 (fun _ => true) true m 22 (([v0, v1].drop 1).take (Try.prog.cellsOf 22)) = some x1 := (hg 1 _ rfl).trans hx1
    rw [cells_22] at g1
    change DataW.trod enc Try.prog W 0 (fun _ => true) true m 22 [v1] = some x1 at g1
    obtain ⟨a0, e0, _, w0_0⟩ := DataW.trod_int Try.underlying3 g0
    obtain rfl := op_one e0
    obtain ⟨A1, c1, l1, e1, w1_0, w1_1, w1_2, w1_3⟩ := op_22 g1
    obtain rfl := op_one e1
    exact ⟨a0, A1, c1, l1, rfl, w0_0, w1_0, w1_1, w1_2, w1_3⟩
theorem op_37 (h : DataW.trod enc Try.prog W 0 (fun _ => true) true fuel 37 cs = some x) : ∃ (A : Option Addr) (c : Nat) (l : List S97), cs = [.slice A l.length c] ∧ Kd.C k97 W A l.length l ∧ l.length ≤ c ∧ l.length ≤ maxLen ∧ ∀ n ∈ l, (Lit.int .i64 n.f0).wf = true ∧ n.f1.length ≤ maxLen ∧ (∀ y ∈ n.f1, (Lit.int .u8 y).wf = true) := by
  refine op_slice (d := k97) (Q := fun n => (Lit.int .i64 n.f0).wf = true ∧ n.f1.length ≤ maxLen ∧ (∀ y ∈ n.f1, (Lit.int .u8 y).wf = true)) z97 Try.underlying37 cells_97 ?_ h
  intro m cs y hy
  obtain ⟨a0, A1, c1, l1, rfl, g0_1, g1_1, g1_2, g1_3, g1_4⟩ := op_97 hy
  exact ⟨⟨a0, l1⟩, k97_mk W ⟨a0, l1⟩ g1_2 g1_1, g0_1, g1_3, g1_4⟩
set_option maxRecDepth 10000 in
theorem op_39 (h : DataW.trod enc Try.prog W 0 (fun _ => true) true fuel 39 cs = some x) : ∃ (a0 : Int) (a1 : Int) (a2 : Int) (a3 : Int) (a4 : Int) (a5 : Int) (a6 : Int) (a7 : Int) (a8 : Int) (a9 : Int) (a10 : Int) (a11 : Int) (a12 : Int) (a13 : Int) (A14 : Option Addr) (c14 : Nat) (l14 : List S97) (A15 : Option Addr) (c15 : Nat) (l15 : List Int), cs = [.int .i64 a0, .int .i64 a1, .int .i64 a2, .int .i64 a3, .int .i64 a4, .int .i64 a5, .int .i64 a6, .int .i64 a7, .int .i64 a8, .int .i64 a9, .int .i64 a10, .int .i64 a11, .int .i64 a12, .int .i64 a13, .slice A14 l14.length c14, .slice A15 l15.length c15] ∧ (Lit.int .i64 a0).wf = true ∧ (Lit.int .i64 a1).wf = true ∧ (Lit.int .i64 a2).wf = true ∧ (Lit.int .i64 a3).wf = true ∧ (Lit.int .i64 a4).wf = true ∧ (Lit.int .i64 a5).wf = true ∧ (Lit.int .i64 a6).wf = true ∧ (Lit.int .i64 a7).wf = true ∧ (Lit.int .i64 a8).wf = true ∧ (Lit.int .i64 a9).wf = true ∧ (Lit.int .i64 a10).wf = true ∧ (Lit.int .i64 a11).wf = true ∧ (Lit.int .i64 a12).wf = true ∧ (Lit.int .i64 a13).wf = true ∧ Kd.C k97 W A14 l14.length l14 ∧ l14.length ≤ c14 ∧ l14.length ≤ maxLen ∧ (∀ n ∈ l14, (Lit.int .i64 n.f0).wf = true ∧ n.f1.length ≤ maxLen ∧ (∀ y ∈ n.f1, (Lit.int .u8 y).wf = true)) ∧ Kd.C (Kd.int .u8) W A15 l15.length l15 ∧ l15.length ≤ c15 ∧ l15.length ≤ maxLen ∧ (∀ n ∈ l15, (Lit.int .u8 n).wf = true) := by
  obtain ⟨xs, m, _, _, hl, hn, hg⟩ := DataW.trod_struct Try.underlying39 h
  rw [cells_39] at hl
  match cs, hl with
  | [v0, v1, v2, v3, v4, v5, v6, v7, v8, v9, v10, v11, v12, v13, v14, v15], _ =>
    obtain ⟨x0, hx0⟩ := op_field hn (show 0 < _ from by decide)
    have g0 : DataW.trod enc Try.prog W 0 (fun _ => true) true m 3 (([v0, v1, v2, v3, v4, v5, v6, v7, v8, v9, v10, v11, v12, v13, v14, v15].drop 0).take (Try.prog.cellsOf 3)) = some x0 := (hg 0 _ rfl).trans hx0
    rw [cells_3] at g0
    change DataW.trod enc Try.prog W 0 (fun _ => true) true m 3 [v0] = some x0 at g0
    obtain ⟨x1, hx1⟩ := op_field hn (show 1 < _ from by decide)
    have g1 : DataW.trod enc Try.prog W 0 (fun _ => true) true m 3 (([v0, v1, v2, v3, v4, v5, v6, v7, v8, v9, v10, v11, v12, v13, v14, v15].drop 1).take (Try.prog.cellsOf 3)) = some x1 := (hg 1 _ rfl).trans hx1
    rw [cells_3] at g1
    change DataW.trod enc Try.prog W 0 (fun _ => true) true m 3 [v1] = some x1 at g1
    obtain ⟨x2, hx2⟩ := op_field hn (show 2 < _ from by decide)
    have g2 : DataW.trod enc Try.prog W 0 (fun _ => true) true m 3 (([v0, v1, v2, v3, v4, v5, v6, v7, v8, v9, v10, v11, v12, v13, v14, v15].drop 2).take (Try.prog.cellsOf 3)) = some x2 := (hg 2 _ rfl).trans hx2
    rw [cells_3] at g2
    change DataW.trod enc Try.prog W 0 (fun _ => true) true m 3 [v2] = some x2 at g2
    obtain ⟨x3, hx3⟩ := op_field hn (show 3 < _ from by decide)
    have g3 : DataW.trod enc Try.prog W 0 (fun _ => true) true m 3 (([v0, v1, v2, v3, v4, v5, v6, v7, v8, v9, v10, v11, v12, v13, v14, v15].drop 3).take (Try.prog.cellsOf 3)) = some x3 := (hg 3 _ rfl).trans hx3
    rw [cells_3] at g3
    change DataW.trod enc Try.prog W 0 (fun _ => true) true m 3 [v3] = some x3 at g3
    obtain ⟨x4, hx4⟩ := op_field hn (show 4 < _ from by decide)
    have g4 : DataW.trod enc Try.prog W 0 (fun _ => true) true m 36 (([v0, v1, v2, v3, v4, v5, v6, v7, v8, v9, v10, v11, v12, v13, v14, v15].drop 4).take (Try.prog.cellsOf 36)) = some x4 := (hg 4 _ rfl).trans hx4
    rw [cells_36] at g4
    change DataW.trod enc Try.prog W 0 (fun _ => true) true m 36 [v4, v5, v6, v7, v8] = some x4 at g4
    obtain ⟨x5, hx5⟩ := op_field hn (show 5 < _ from by decide)
    have g5 : DataW.trod enc Try.prog W 0 (fun _ => true) true m 36 (([v0, v1, v2, v3, v4, v5, v6, v7, v8, v9, v10, v11, v12, v13, v14, v15].drop 9).take (Try.prog.cellsOf 36)) = some x5 := (hg 5 _ rfl).trans hx5
    rw [cells_36] at g5
    change DataW.trod enc Try.prog W 0 (fun _ => true) true m 36 [v9, v10, v11, v12, v13] = some x5 at g5
    obtain ⟨x6, hx6⟩ := op_field hn (show 6 < _ from by decide)
    have g6 : DataW.trod enc Try.prog W 0 (fun _ => true) true m 37 (([v0, v1, v2, v3, v4, v5, v6, v7, v8, v9, v10, v11, v12, v13, v14, v15].drop 14).take (Try.prog.cellsOf 37)) = some x6 := (hg 6 _ rfl).trans hx6
    rw [cells_37] at g6
    change DataW.trod enc Try.prog W 0 (fun _ => true) true m 37 [v14] = some x6 at g6
    obtain ⟨x7, hx7⟩ := op_field hn (show 7 < _ from by decide)
    have g7 : DataW.trod enc Try.prog W 0 (fun _ => true) true m 22 (([v0, v1, v2, v3, v4, v5, v6, v7, v8, v9, v10, v11, v12, v13, v14, v15].drop 15).take (Try.prog.cellsOf 22)) = some x7 := (hg 7 _ rfl).trans hx7
    rw [cells_22] at g7
    change DataW.trod enc Try.prog W 0 (fun _ => true) true m 22 [v15] = some x7 at g7
    obtain ⟨a0, e0, _, w0_0⟩ := DataW.trod_int Try.underlying3 g0
    obtain rfl := op_one e0
    obtain ⟨a1, e1, _, w1_0⟩ := DataW.trod_int Try.underlying3 g1
    obtain rfl := op_one e1
    obtain ⟨a2, e2, _, w2_0⟩ := DataW.trod_int Try.underlying3 g2
    obtain rfl := op_one e2
    obtain ⟨a3, e3, _, w3_0⟩ := DataW.trod_int Try.underlying3 g3
    obtain rfl := op_one e3
    obtain ⟨a4, a5, a6, a7, a8, e4, w4_0, w5_0, w6_0, w7_0, w8_0⟩ := op_36 g4
    simp only [List.cons.injEq, and_true] at e4
    obtain ⟨rfl, rfl, rfl, rfl, rfl⟩ := e4
    obtain ⟨a9, a10, a11, a12, a13, e5, w9_0, w10_0, w11_0, w12_0, w13_0⟩ := op_36 g5
    simp only [List.cons.injEq, and_true] at e5
    obtain ⟨rfl, rfl, rfl, rfl, rfl⟩ := e5
    obtain ⟨A14, c14, l14, e6, w14_0, w14_1, w14_2, w14_3⟩ := op_37 g6
    obtain rfl := op_one e6
    obtain ⟨A15, c15, l15, e7, w15_0, w15_1, w15_2, w15_3⟩ := op_22 g7
    obtain rfl := op_one e7
    exact ⟨a0, a1, a2, a3, a4, a5, a6, a7, a8, a9, a10, a11, a12, a13, A14, c14, l14, A15, c15, l15, rfl, w0_0, w1_0, w2_0, w3_0, w4_0, w5_0, w6_0, w7_0, w8_0, w9_0, w10_0, w11_0, w12_0, w13_0, w14_0, w14_1, w14_2, w14_3, w15_0, w15_1, w15_2, w15_3⟩
end
set_option maxRecDepth 100000 in
theorem lifted (os : Os) (started : os.Started) (H : Type) (enc : TypeId × Value → H) :
    ReturnsInHanded {} Try.checked os 4 .any (Rows.fnExactSixBytesSpec.pre6 enc Try.prog Try.f4 Rows.fnExactSixBytesRow.domain false) (Rows.fnExactSixBytesSpec.post enc Try.prog Try.f4 false true false false) := by
  refine returnsInHanded_of_change_sized (C := Try.checked) own started (by kernel_rfl) Try.func4
    (ChangeSpec.witness6 (enc := enc) (C := Try.checked) false ⟨#[], #[.agg #[.int .i64 0, .int .i64 0, .int .i64 0, .int .i64 0, .int .i64 0, .int .i64 0, .int .i64 0, .int .i64 0, .int .i64 0, .int .i64 0, .int .i64 0, .int .i64 0, .int .i64 0, .int .i64 0, .slice none 0 0, .slice none 0 0]], []⟩ 8 (by kernel_rfl) (by kernel_rfl) (by kernel_rfl) (by kernel_rfl)) ?_
  intro W base args ds gs before hval0 hW hcnd hsz0 _
  have hsz : (DataW.weightsEach Try.prog (Try.f4.params.toList ++ Rows.fnExactSixBytesSpec.plain.varTypes Try.prog) (ds ++ gs)).all (· ≤ reachBytes) = true := hsz0
  have hval : ∀ (j : Nat) t v, Try.f4.params[j]? = some t → args[j]? = some v → Value.okWide Try.prog W .any base t v := hval0
  have hW' := hW
  obtain ⟨p, q, hA0, hV, rfl, hfz, hnd⟩ := hW
  have hA : DataW.TrodAll enc Try.prog W 0 (fun _ => true) true Try.f4.params.toList args.toList ds p := hA0
  rw [Try.params4] at hA hval hsz
  obtain ⟨v0, vs0, d0, ds0, p0, q0, hargs, rfl, rfl, h0, r0⟩ := trodAll_cons hA
  obtain ⟨rfl, rfl, rfl⟩ := trodAll_nil r0
  obtain rfl : args = #[v0] := by cases args; simp_all
  obtain ⟨rfl, rfl⟩ := trodVars_none hV
  have k0 := h0
  have lt0 : ∀ x ∈ p0, x.block < W.heap.size := by obtain ⟨m, hm⟩ := k0; exact DataW.trod_lt m _ _ _ hm
  obtain ⟨cs0, rfl, _⟩ := okWide_struct Try.underlying39 (hval 0 39 v0 rfl rfl)
  obtain ⟨fu0, hf0⟩ := h0
  obtain ⟨a0_0, a0_1, a0_2, a0_3, a0_4, a0_5, a0_6, a0_7, a0_8, a0_9, a0_10, a0_11, a0_12, a0_13, A0_14, c0_14, l0_14, A0_15, c0_15, l0_15, e0, w0_0_0, w0_1_0, w0_2_0, w0_3_0, w0_4_0, w0_5_0, w0_6_0, w0_7_0, w0_8_0, w0_9_0, w0_10_0, w0_11_0, w0_12_0, w0_13_0, w0_14_0, w0_14_1, w0_14_2, w0_14_3, w0_15_0, w0_15_1, w0_15_2, w0_15_3⟩ := op_39 hf0
  obtain ⟨cs0⟩ := cs0
  obtain rfl : cs0 = _ := e0
  clear hA0 hval0 hsz0 hsz
  obtain ⟨k, hk⟩ := Pure.FnExactSixBytes a0_0 a0_1 a0_2 a0_3 a0_4 a0_5 a0_6 a0_7 a0_8 a0_9 a0_10 a0_11 a0_12 a0_13 l0_14 l0_15 w0_0_0 w0_1_0 w0_2_0 w0_3_0 w0_4_0 w0_5_0 w0_6_0 w0_7_0 w0_8_0 w0_9_0 w0_10_0 w0_11_0 w0_12_0 w0_13_0 w0_14_2 w0_14_3 w0_15_2 w0_15_3
  refine (laws_FnExactSixBytes.calls k a0_0 a0_1 a0_2 a0_3 a0_4 a0_5 a0_6 a0_7 a0_8 a0_9 a0_10 a0_11 a0_12 a0_13 _ _ l0_14 _ _ l0_15 true W w0_14_0 w0_14_1 w0_15_0 w0_15_1 hk).mono fun e W' ⟨he, bel0⟩ => ?_
  have bel : Below W.heap.size W W' := bel0
  subst he
  exact ⟨_, rfl, _, _, _, [], _, [], hW', trodAll_mk1 (shut_bool Try.underlying4 _), (trodAll_cons_mk (Below.trod laidOut (by kernel_rfl) (of_decide_eq_true (by kernel_rfl)) k0 bel lt0) trodAll_mk0), rfl, bel.frame _, fun h => by cases h⟩
theorem over : Rows.fnExactSixBytesRow.holds Try.pinned (OpenSpec.ofChange Rows.fnExactSixBytesSpec) :=
  OpenClaim.holds_of_wide 4 Try.f4 rfl rfl rfl rfl rfl rfl rfl ⟨rfl, rfl, rfl, rfl, rfl⟩ rfl rfl rfl rfl rfl (by kernel_rfl) Try.func4 (by kernel_rfl)
    (of_decide_eq_true (by kernel_rfl)) (by unfold Func.isWrapper; first | (rw [if_pos (by decide +kernel)]; kernel_rfl) | (rw [if_neg (by decide +kernel)]; exact ⟨rfl, rfl⟩))
    (fun os started H enc _ => lifted os started H enc)
theorem proved : Rows.FnExactSixBytesSaid := over
#print axioms proved
end Go.Proofs.Ytdbiejkaplndgaa.fnExactSixBytes
namespace Go.Proofs.Ytdbiejkaplndgaa
theorem fnExactSixBytes_holds : Rows.FnExactSixBytesSaid := fnExactSixBytes.proved
end Go.Proofs.Ytdbiejkaplndgaa
