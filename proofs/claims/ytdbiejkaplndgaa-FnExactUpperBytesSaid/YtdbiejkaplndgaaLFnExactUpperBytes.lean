/- The row of FnExactUpperBytes, out of its pure statement and the contract of its function. It holds for all arguments; no condition of its own. -/
import Derived.Test.YtdbiejkaplndgaaRows
import Derived.Test.YtdbiejkaplndgaaGFnExactUpperBytesx
import Derived.Test.YtdbiejkaplndgaaQFnExactUpperBytes
import Derived.Test.YtdbiejkaplndgaaZOpFnExactUpperBytes
import Derived.Test.YtdbiejkaplndgaaVFnExactUpperBytes
import Derived.WalkKit
import Derived.ProofKit
import Derived.OpenShut
import Derived.ShutString
import Derived.ChangeOld
import Derived.Below
import Derived.SizedLaws
namespace Go.Proofs.Ytdbiejkaplndgaa.fnExactUpperBytes
open Go.ChangeShapes Go.WideShapes Go.ChangeAt Go.RowKit Go.Proofs.YtdbiejkaplndgaaW.PrintWords Go.Proofs.Ytdbiejkaplndgaa.Op Go.Proofs.Ytdbiejkaplndgaa.FFnExactUpperBytes
open Go.ChangeMaps (open_string shut_string)
set_option linter.unusedVariables false
theorem own : ownKnob Try.prog.godebug = none := by kernel_rfl
theorem laidOut : laidOutB Try.prog = true := by kernel_rfl
theorem cells_3 : Try.prog.cellsOf 3 = 1 := by kernel_rfl
theorem cells_4 : Try.prog.cellsOf 4 = 1 := by kernel_rfl
theorem cells_5 : Try.prog.cellsOf 5 = 1 := by kernel_rfl
theorem cells_22 : Try.prog.cellsOf 22 = 1 := by kernel_rfl
theorem cells_36 : Try.prog.cellsOf 36 = 5 := by kernel_rfl
theorem cells_51 : Try.prog.cellsOf 51 = 14 := by kernel_rfl
section
variable {H : Type} {enc : TypeId × Value → H} {W : World} {fuel : Nat} {cs : List Value} {x : DataW H × List MemPlace}
theorem op_22 (h : DataW.trod enc Try.prog W 0 (fun _ => true) true fuel 22 cs = some x) : ∃ (A : Option Addr) (c : Nat) (l : List Int), cs = [.slice A l.length c] ∧ Kd.C (Kd.int .u8) W A l.length l ∧ l.length ≤ c ∧ l.length ≤ maxLen ∧ ∀ n ∈ l, (Lit.int .u8 n).wf = true :=
  op_ints Try.underlying22 Try.underlying5 cells_5 h
set_option maxRecDepth 10000 in
theorem op_51 (h : DataW.trod enc Try.prog W 0 (fun _ => true) true fuel 51 cs = some x) : ∃ (a0 : Int) (a1 : Int) (a2 : Int) (a3 : Int) (a4 : Int) (a5 : Int) (a6 : Int) (a7 : Int) (a8 : Int) (a9 : Int) (a10 : Int) (a11 : Bool) (A12 : Option Addr) (c12 : Nat) (l12 : List Int) (A13 : Option Addr) (c13 : Nat) (l13 : List Int), cs = [.int .i64 a0, .int .i64 a1, .int .i64 a2, .int .i64 a3, .int .i64 a4, .int .i64 a5, .int .i64 a6, .int .i64 a7, .int .i64 a8, .int .i64 a9, .int .i64 a10, .bool a11, .slice A12 l12.length c12, .slice A13 l13.length c13] ∧ (Lit.int .i64 a0).wf = true ∧ (Lit.int .i64 a1).wf = true ∧ (Lit.int .i64 a2).wf = true ∧ (Lit.int .i64 a3).wf = true ∧ (Lit.int .i64 a4).wf = true ∧ (Lit.int .i64 a5).wf = true ∧ (Lit.int .i64 a6).wf = true ∧ (Lit.int .i64 a7).wf = true ∧ (Lit.int .i64 a8).wf = true ∧ (Lit.int .i64 a9).wf = true ∧ (Lit.int .i64 a10).wf = true ∧ Kd.C (Kd.int .u8) W A12 l12.length l12 ∧ l12.length ≤ c12 ∧ l12.length ≤ maxLen ∧ (∀ n ∈ l12, (Lit.int .u8 n).wf = true) ∧ Kd.C (Kd.int .u8) W A13 l13.length l13 ∧ l13.length ≤ c13 ∧ l13.length ≤ maxLen ∧ (∀ n ∈ l13, (Lit.int .u8 n).wf = true) := by
  obtain ⟨xs, m, _, _, hl, hn, hg⟩ := DataW.trod_struct Try.underlying51 h
  rw [cells_51] at hl
  match cs, hl with
  | [v0, v1, v2, v3, v4, v5, v6, v7, v8, v9, v10, v11, v12, v13], _ =>
    obtain ⟨x0, hx0⟩ := op_field hn (show 0 < _ from by decide)
    have g0 : DataW.trod enc Try.prog W 0 (fun _ => true) true m 3 (([v0, v1, v2, v3, v4, v5, v6, v7, v8, v9, v10, v11, v12, v13].drop 0).take (Try.prog.cellsOf 3)) = some x0 := (hg 0 _ rfl).trans hx0
    rw [cells_3] at g0
    change DataW.trod enc Try.prog W 0 (fun _ => true) true m 3 [v0] = some x0 at g0
    obtain ⟨x1, hx1⟩ := op_field hn (show 1 < _ from by decide)
    have g1 : DataW.trod enc Try.prog W 0 (fun _ => true) true m 3 (([v0, v1, v2, v3, v4, v5, v6, v7, v8, v9, v10, v11, v12, v13].drop 1).take (Try.prog.cellsOf 3)) = some x1 := (hg 1 _ rfl).trans hx1
    rw [cells_3] at g1
    change DataW.trod enc Try.prog W 0 (fun _ => true) true m 3 [v1] = some x1 at g1
    obtain ⟨x2, hx2⟩ := op_field hn (show 2 < _ from by decide)
    have g2 : DataW.trod enc Try.prog W 0 (fun _ => true) true m 3 (([v0, v1, v2, v3, v4, v5, v6, v7, v8, v9, v10, v11, v12, v13].drop 2).take (Try.prog.cellsOf 3)) = some x2 := (hg 2 _ rfl).trans hx2
    rw [cells_3] at g2
    change DataW.trod enc Try.prog W 0 (fun _ => true) true m 3 [v2] = some x2 at g2
    obtain ⟨x3, hx3⟩ := op_field hn (show 3 < _ from by decide)
    have g3 : DataW.trod enc Try.prog W 0 (fun _ => true) true m 3 (([v0, v1, v2, v3, v4, v5, v6, v7, v8, v9, v10, v11, v12, v13].drop 3).take (Try.prog.cellsOf 3)) = some x3 := (hg 3 _ rfl).trans hx3
    rw [cells_3] at g3
    change DataW.trod enc Try.prog W 0 (fun _ => true) true m 3 [v3] = some x3 at g3
    obtain ⟨x4, hx4⟩ := op_field hn (show 4 < _ from by decide)
    have g4 : DataW.trod enc Try.prog W 0 (fun _ => true) true m 3 (([v0, v1, v2, v3, v4, v5, v6, v7, v8, v9, v10, v11, v12, v13].drop 4).take (Try.prog.cellsOf 3)) = some x4 := (hg 4 _ rfl).trans hx4
    rw [cells_3] at g4
    change DataW.trod enc Try.prog W 0 (fun _ => true) true m 3 [v4] = some x4 at g4
    obtain ⟨x5, hx5⟩ := op_field hn (show 5 < _ from by decide)
    have g5 : DataW.trod enc Try.prog W 0 (fun _ => true) true m 3 (([v0, v1, v2, v3, v4, v5, v6, v7, v8, v9, v10, v11, v12, v13].drop 5).take (Try.prog.cellsOf 3)) = some x5 := (hg 5 _ rfl).trans hx5
    rw [cells_3] at g5
    change DataW.trod enc Try.prog W 0 (fun _ => true) true m 3 [v5] = some x5 at g5
    obtain ⟨x6, hx6⟩ := op_field hn (show 6 < _ from by decide)
    have g6 : DataW.trod enc Try.prog W 0 (fun _ => true) true m 3 (([v0, v1, v2, v3, v4, v5, v6, v7, v8, v9, v10, v11, v12, v13].drop 6).take (Try.prog.cellsOf 3)) = some x6 := (hg 6 _ rfl).trans hx6
    rw [cells_3] at g6
    change DataW.trod enc Try.prog W 0 (fun _ => true) true m 3 [v6] = some x6 at g6
    obtain ⟨x7, hx7⟩ := op_field hn (show 7 < _ from by decide)
    have g7 : DataW.trod enc Try.prog W 0 (fun _ => true) true m 3 (([v0, v1, v2, v3, v4, v5, v6, v7, v8, v9, v10, v11, v12, v13].drop 7).take (Try.prog.cellsOf 3)) = some x7 := (hg 7 _ rfl).trans hx7
    rw [cells_3] at g7
    change DataW.trod enc Try.prog W 0 (fun _ => true) true m 3 [v7] = some x7 at g7
    obtain ⟨x8, hx8⟩ := op_field hn (show 8 < _ from by decide)
    have g8 : DataW.trod enc Try.prog W 0 (fun _ => true) true m 3 (([v0, v1, v2, v3, v4, v5, v6, v7, v8, v9, v10, v11, v12, v13].drop 8).take (Try.prog.cellsOf 3)) = some x8 := (hg 8 _ rfl).trans hx8
    rw [cells_3] at g8
    change DataW.trod enc Try.prog W 0 (fun _ => true) true m 3 [v8] = some x8 at g8
    obtain ⟨x9, hx9⟩ := op_field hn (show 9 < _ from by decide)
    have g9 : DataW.trod enc Try.prog W 0 (fun _ => true) true m 3 (([v0, v1, v2, v3, v4, v5, v6, v7, v8, v9, v10, v11, v12, v13].drop 9).take (Try.prog.cellsOf 3)) = some x9 := (hg 9 _ rfl).trans hx9
    rw [cells_3] at g9
    change DataW.trod enc Try.prog W 0 (fun _ => true) true m 3 [v9] = some x9 at g9
    obtain ⟨x10, hx10⟩ := op_field hn (show 10 < _ from by decide)
    have g10 : DataW.trod enc Try.prog W 0 (fun _ => true) true m 3 (([v0, v1, v2, v3, v4, v5, v6, v7, v8, v9, v10, v11, v12, v13].drop 10).take (Try.prog.cellsOf 3)) = some x10 := (hg 10 _ rfl).trans hx10
    rw [cells_3] at g10
    change DataW.trod enc Try.prog W 0 (fun _ => true) true m 3 [v10] = some x10 at g10
    obtain ⟨x11, hx11⟩ := op_field hn (show 11 < _ from by decide)
    have g11 : DataW.trod enc Try.prog W 0 (fun _ => true) true m 4 (([v0, v1, v2, v3, v4, v5, v6, v7, v8, v9, v10, v11, v12, v13].drop 11).take (Try.prog.cellsOf 4)) = some x11 := (hg 11 _ rfl).trans hx11
    rw [cells_4] at g11
    change DataW.trod enc Try.prog W 0 (fun _ => true) true m 4 [v11] = some x11 at g11
    obtain ⟨x12, hx12⟩ := op_field hn (show 12 < _ from by decide)
    have g12 : DataW.trod enc Try.prog W 0 (fun _ => true) true m 22 (([v0, v1, v2, v3, v4, v5, v6, v7, v8, v9, v10, v11, v12, v13].drop 12).take (Try.prog.cellsOf 22)) = some x12 := (hg 12 _ rfl).trans hx12
    rw [cells_22] at g12
    change DataW.trod enc Try.prog W 0 (fun _ => true) true m 22 [v12] = some x12 at g12
    obtain ⟨x13, hx13⟩ := op_field hn (show 13 < _ from by decide)
    have g13 : DataW.trod enc Try.prog W 0 (fun _ => true) true m 22 (([v0, v1, v2, v3, v4, v5, v6, v7, v8, v9, v10, v11, v12, v13].drop 13).take (Try.prog.cellsOf 22)) = some x13 := (hg 13 _ rfl).trans hx13
    rw [cells_22] at g13
    change DataW.trod enc Try.prog W 0 (fun _ => true) true m 22 [v13] = some x13 at g13
    obtain ⟨a0, e0, _, w0_0⟩ := DataW.trod_int Try.underlying3 g0
    obtain rfl := op_one e0
    obtain ⟨a1, e1, _, w1_0⟩ := DataW.trod_int Try.underlying3 g1
    obtain rfl := op_one e1
    obtain ⟨a2, e2, _, w2_0⟩ := DataW.trod_int Try.underlying3 g2
    obtain rfl := op_one e2
    obtain ⟨a3, e3, _, w3_0⟩ := DataW.trod_int Try.underlying3 g3
    obtain rfl := op_one e3
    obtain ⟨a4, e4, _, w4_0⟩ := DataW.trod_int Try.underlying3 g4
    obtain rfl := op_one e4
    obtain ⟨a5, e5, _, w5_0⟩ := DataW.trod_int Try.underlying3 g5
    obtain rfl := op_one e5
    obtain ⟨a6, e6, _, w6_0⟩ := DataW.trod_int Try.underlying3 g6
    obtain rfl := op_one e6
    obtain ⟨a7, e7, _, w7_0⟩ := DataW.trod_int Try.underlying3 g7
    obtain rfl := op_one e7
    obtain ⟨a8, e8, _, w8_0⟩ := DataW.trod_int Try.underlying3 g8
    obtain rfl := op_one e8
    obtain ⟨a9, e9, _, w9_0⟩ := DataW.trod_int Try.underlying3 g9
    obtain rfl := op_one e9
    obtain ⟨a10, e10, _, w10_0⟩ := DataW.trod_int Try.underlying3 g10
    obtain rfl := op_one e10
    obtain ⟨a11, e11, _⟩ := DataW.trod_bool Try.underlying4 g11
    obtain rfl := op_one e11
    obtain ⟨A12, c12, l12, e12, w12_0, w12_1, w12_2, w12_3⟩ := op_22 g12
    obtain rfl := op_one e12
    obtain ⟨A13, c13, l13, e13, w13_0, w13_1, w13_2, w13_3⟩ := op_22 g13
    obtain rfl := op_one e13
    exact ⟨a0, a1, a2, a3, a4, a5, a6, a7, a8, a9, a10, a11, A12, c12, l12, A13, c13, l13, rfl, w0_0, w1_0, w2_0, w3_0, w4_0, w5_0, w6_0, w7_0, w8_0, w9_0, w10_0, w12_0, w12_1, w12_2, w12_3, w13_0, w13_1, w13_2, w13_3⟩
set_option maxRecDepth 10000 in
theorem op_36 (h : DataW.trod enc Try.prog W 0 (fun _ => true) true fuel 36 cs = some x) : ∃ (a0 : Int) (a1 : Int) (a2 : Int) (a3 : Int) (a4 : Int), cs = [.int .i64 a0, .int .i64 a1, .int .i64 a2, .int .i64 a3, .int .i64 a4] ∧ (Lit.int .i64 a0).wf = true ∧ (Lit.int .i64 a1).wf = true ∧ (Lit.int .i64 a2).wf = true ∧ (Lit.int .i64 a3).wf = true ∧ (Lit.int .i64 a4).wf = true := by
  obtain ⟨xs, m, _, _, hl, hn, hg⟩ := DataW.trod_struct Try.underlying36 h
  rw [cells_36] at hl
  match cs, hl with
  | [v0, v1, v2, v3, v4], _ =>
    obtain ⟨x0, hx0⟩ := op_field hn (show 0 < _ from by decide)
    have g0 : DataW.trod enc Try.prog W 0 (fun _ => true) true m 3 (([v0, v1, v2, v3, v4].drop 0).take (Try.prog.cellsOf 3)) = some x0 := (hg 0 _ rfl).trans hx0
    rw [cells_3] at g0
    change DataW.trod enc Try.prog W 0 (fun _ => true) true m 3 [v0] = some x0 at g0
    obtain ⟨x1, hx1⟩ := op_field hn (show 1 < _ from by decide)
    have g1 : DataW.trod enc Try.prog W 0 (fun _ => true) true m 3 (([v0, v1, v2, v3, v4].drop 1).take (Try.prog.cellsOf 3)) = some x1 := (hg 1 _ rfl).trans hx1
    rw [cells_3] at g1
    change DataW.trod enc Try.prog W 0 (fun _ => true) true m 3 [v1] = some x1 at g1
    obtain ⟨x2, hx2⟩ := op_field hn (show 2 < _ from by decide)
    have g2 : DataW.trod enc Try.prog W 0 (fun _ => true) true m 3 (([v0, v1, v2, v3, v4].drop 2).take (Try.prog.cellsOf 3)) = some x2 := (hg 2 _ rfl).trans hx2
    rw [cells_3] at g2
    change DataW.trod enc Try.prog W 0 (fun _ => true) true m 3 [v2] = some x2 at g2
    obtain ⟨x3, hx3⟩ := op_field hn (show 3 < _ from by decide)
    have g3 : DataW.trod enc Try.prog W 0 (fun _ => true) true m 3 (([v0, v1, v2, v3, v4].drop 3).take (Try.prog.cellsOf 3)) = some x3 := (hg 3 _ rfl).trans hx3
    rw [cells_3] at g3
    change DataW.trod enc Try.prog W 0 (fun _ => true) true m 3 [v3] = some x3 at g3
    obtain ⟨x4, hx4⟩ := op_field hn (show 4 < _ from by decide)
    have g4 : DataW.trod enc Try.prog W 0 (fun _ => true) true m 3 (([v0, v1, v2, v3, v4].drop 4).take (Try.prog.cellsOf 3)) = some x4 := (hg 4 _ rfl).trans hx4
    rw [cells_3] at g4
    change DataW.trod enc Try.prog W 0 (fun _ => true) true m 3 [v4] = some x4 at g4
    obtain ⟨a0, e0, _, w0_0⟩ := DataW.trod_int Try.underlying3 g0
    obtain rfl := op_one e0
    obtain ⟨a1, e1, _, w1_0⟩ := DataW.trod_int Try.underlying3 g1
    obtain rfl := op_one e1
    obtain ⟨a2, e2, _, w2_0⟩ := DataW.trod_int Try.underlying3 g2
    obtain rfl := op_one e2
    obtain ⟨a3, e3, _, w3_0⟩ := DataW.trod_int Try.underlying3 g3
    obtain rfl := op_one e3
    obtain ⟨a4, e4, _, w4_0⟩ := DataW.trod_int Try.underlying3 g4
    obtain rfl := op_one e4
    exact ⟨a0, a1, a2, a3, a4, rfl, w0_0, w1_0, w2_0, w3_0, w4_0⟩
end
set_option maxRecDepth 100000 in
theorem lifted (os : Os) (started : os.Started) (H : Type) (enc : TypeId × Value → H) :
    ReturnsInHanded {} Try.checked os 6 .any (Rows.fnExactUpperBytesSpec.pre6 enc Try.prog Try.f6 Rows.fnExactUpperBytesRow.domain false) (Rows.fnExactUpperBytesSpec.post enc Try.prog Try.f6 false true false false) := by
  refine returnsInHanded_of_change_sized (C := Try.checked) own started (by kernel_rfl) Try.func6
    (ChangeSpec.witness6 (enc := enc) (C := Try.checked) false ⟨#[], #[.agg #[.int .i64 0, .int .i64 0, .int .i64 0, .int .i64 0, .int .i64 0, .int .i64 0, .int .i64 0, .int .i64 0, .int .i64 0, .int .i64 0, .int .i64 0, .bool false, .slice none 0 0, .slice none 0 0], .agg #[.int .i64 0, .int .i64 0, .int .i64 0, .int .i64 0, .int .i64 0], .agg #[.int .i64 0, .int .i64 0, .int .i64 0, .int .i64 0, .int .i64 0]], []⟩ 8 (by kernel_rfl) (by kernel_rfl) (by kernel_rfl) (by kernel_rfl)) ?_
  intro W base args ds gs before hval0 hW hcnd hsz0 _
  have hsz : (DataW.weightsEach Try.prog (Try.f6.params.toList ++ Rows.fnExactUpperBytesSpec.plain.varTypes Try.prog) (ds ++ gs)).all (· ≤ reachBytes) = true := hsz0
  have hval : ∀ (j : Nat) t v, Try.f6.params[j]? = some t → args[j]? = some v → Value.okWide Try.prog W .any base t v := hval0
  have hW' := hW
  obtain ⟨p, q, hA0, hV, rfl, hfz, hnd⟩ := hW
  have hA : DataW.TrodAll enc Try.prog W 0 (fun _ => true) true Try.f6.params.toList args.toList ds p := hA0
  rw [Try.params6] at hA hval hsz
  obtain ⟨v0, vs0, d0, ds0, p0, q0, hargs, rfl, rfl, h0, r0⟩ := trodAll_cons hA
  obtain ⟨v1, vs1, d1, ds1, p1, q1, rfl, rfl, rfl, h1, r1⟩ := trodAll_cons r0
  obtain ⟨v2, vs2, d2, ds2, p2, q2, rfl, rfl, rfl, h2, r2⟩ := trodAll_cons r1
  obtain ⟨rfl, rfl, rfl⟩ := trodAll_nil r2
  obtain rfl : args = #[v0, v1, v2] := by cases args; simp_all
  obtain ⟨rfl, rfl⟩ := trodVars_none hV
  have k0 := h0
  have lt0 : ∀ x ∈ p0, x.block < W.heap.size := by obtain ⟨m, hm⟩ := k0; exact DataW.trod_lt m _ _ _ hm
  obtain ⟨cs0, rfl, _⟩ := okWide_struct Try.underlying51 (hval 0 51 v0 rfl rfl)
  obtain ⟨fu0, hf0⟩ := h0
  obtain ⟨a0_0, a0_1, a0_2, a0_3, a0_4, a0_5, a0_6, a0_7, a0_8, a0_9, a0_10, a0_11, A0_12, c0_12, l0_12, A0_13, c0_13, l0_13, e0, w0_0_0, w0_1_0, w0_2_0, w0_3_0, w0_4_0, w0_5_0, w0_6_0, w0_7_0, w0_8_0, w0_9_0, w0_10_0, w0_12_0, w0_12_1, w0_12_2, w0_12_3, w0_13_0, w0_13_1, w0_13_2, w0_13_3⟩ := op_51 hf0
  obtain ⟨cs0⟩ := cs0
  obtain rfl : cs0 = _ := e0
  have k1 := h1
  have lt1 : ∀ x ∈ p1, x.block < W.heap.size := by obtain ⟨m, hm⟩ := k1; exact DataW.trod_lt m _ _ _ hm
  obtain ⟨cs1, rfl, _⟩ := okWide_struct Try.underlying36 (hval 1 36 v1 rfl rfl)
  obtain ⟨fu1, hf1⟩ := h1
  obtain ⟨a1_0, a1_1, a1_2, a1_3, a1_4, e1, w1_0_0, w1_1_0, w1_2_0, w1_3_0, w1_4_0⟩ := op_36 hf1
  obtain ⟨cs1⟩ := cs1
  obtain rfl : cs1 = _ := e1
  have k2 := h2
  have lt2 : ∀ x ∈ p2, x.block < W.heap.size := by obtain ⟨m, hm⟩ := k2; exact DataW.trod_lt m _ _ _ hm
  obtain ⟨cs2, rfl, _⟩ := okWide_struct Try.underlying36 (hval 2 36 v2 rfl rfl)
  obtain ⟨fu2, hf2⟩ := h2
  obtain ⟨a2_0, a2_1, a2_2, a2_3, a2_4, e2, w2_0_0, w2_1_0, w2_2_0, w2_3_0, w2_4_0⟩ := op_36 hf2
  obtain ⟨cs2⟩ := cs2
  obtain rfl : cs2 = _ := e2
  clear hA0 hval0 hsz0 hsz
  obtain ⟨k, hk⟩ := Pure.FnExactUpperBytes a0_0 a0_1 a0_2 a0_3 a0_4 a0_5 a0_6 a0_7 a0_8 a0_9 a0_10 a0_11 l0_12 l0_13 a1_0 a1_1 a1_2 a1_3 a1_4 a2_0 a2_1 a2_2 a2_3 a2_4 w0_0_0 w0_1_0 w0_2_0 w0_3_0 w0_4_0 w0_5_0 w0_6_0 w0_7_0 w0_8_0 w0_9_0 w0_10_0 w0_12_2 w0_12_3 w0_13_2 w0_13_3 w1_0_0 w1_1_0 w1_2_0 w1_3_0 w1_4_0 w2_0_0 w2_1_0 w2_2_0 w2_3_0 w2_4_0
  refine (laws_FnExactUpperBytes.calls k a0_0 a0_1 a0_2 a0_3 a0_4 a0_5 a0_6 a0_7 a0_8 a0_9 a0_10 a0_11 _ _ l0_12 _ _ l0_13 a1_0 a1_1 a1_2 a1_3 a1_4 a2_0 a2_1 a2_2 a2_3 a2_4 true W w0_12_0 w0_12_1 w0_13_0 w0_13_1 hk).mono fun e W' ⟨he, bel0⟩ => ?_
  have bel : Below W.heap.size W W' := bel0
  subst he
  exact ⟨_, rfl, _, _, _, [], _, [], hW', trodAll_mk1 (shut_bool Try.underlying4 _), (trodAll_cons_mk (Below.trod laidOut (by kernel_rfl) (of_decide_eq_true (by kernel_rfl)) k0 bel lt0) (trodAll_cons_mk (Below.trod laidOut (by kernel_rfl) (of_decide_eq_true (by kernel_rfl)) k1 bel lt1) (trodAll_cons_mk (Below.trod laidOut (by kernel_rfl) (of_decide_eq_true (by kernel_rfl)) k2 bel lt2) trodAll_mk0))), rfl, bel.frame _, fun h => by cases h⟩
theorem over : Rows.fnExactUpperBytesRow.holds Try.pinned (OpenSpec.ofChange Rows.fnExactUpperBytesSpec) :=
  OpenClaim.holds_of_wide 6 Try.f6 rfl rfl rfl rfl rfl rfl rfl ⟨rfl, rfl, rfl, rfl, rfl⟩ rfl rfl rfl rfl rfl (by kernel_rfl) Try.func6 (by kernel_rfl)
    (of_decide_eq_true (by kernel_rfl)) (by unfold Func.isWrapper; first | (rw [if_pos (by decide +kernel)]; kernel_rfl) | (rw [if_neg (by decide +kernel)]; exact ⟨rfl, rfl⟩))
    (fun os started H enc _ => lifted os started H enc)
theorem proved : Rows.FnExactUpperBytesSaid := over
#print axioms proved
end Go.Proofs.Ytdbiejkaplndgaa.fnExactUpperBytes
namespace Go.Proofs.Ytdbiejkaplndgaa
theorem fnExactUpperBytes_holds : Rows.FnExactUpperBytesSaid := fnExactUpperBytes.proved
end Go.Proofs.Ytdbiejkaplndgaa
