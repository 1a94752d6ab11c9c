/- The row of FnExactPacketOk, out of its pure statement and the contract of its function. It holds for all arguments; no condition of its own. -/
import Derived.Test.YtffkgndghbdgnaaGreatRows
import Derived.Test.YtffkgndghbdgnaaGreatGFnExactPacketOkx
import Derived.Test.YtffkgndghbdgnaaGreatQFnExactPacketOk
import Derived.Test.YtffkgndghbdgnaaGreatZOpFnExactPacketOk
import Derived.Test.YtffkgndghbdgnaaGreatVFnExactPacketOk
import Derived.WalkKit
import Derived.ProofKit
import Derived.OpenShut
import Derived.ShutString
import Derived.ChangeOld
import Derived.Below
import Derived.SizedLaws
namespace Go.Proofs.YtffkgndghbdgnaaGreat.fnExactPacketOk
open Go.ChangeShapes Go.WideShapes Go.ChangeAt Go.RowKit Go.Proofs.YtffkgndghbdgnaaGreatW.PrintWords Go.Proofs.YtffkgndghbdgnaaGreat.Op Go.Proofs.YtffkgndghbdgnaaGreat.FFnExactPacketOk
open Go.ChangeMaps (open_string shut_string)
set_option linter.unusedVariables false
theorem own : ownKnob Tryz.prog.godebug = none := by kernel_rfl
theorem laidOut : laidOutB Tryz.prog = true := by kernel_rfl
theorem cells_3 : Tryz.prog.cellsOf 3 = 1 := by kernel_rfl
theorem cells_4 : Tryz.prog.cellsOf 4 = 1 := by kernel_rfl
theorem cells_5 : Tryz.prog.cellsOf 5 = 1 := by kernel_rfl
theorem cells_22 : Tryz.prog.cellsOf 22 = 1 := by kernel_rfl
theorem cells_24 : Tryz.prog.cellsOf 24 = 5 := by kernel_rfl
theorem cells_26 : Tryz.prog.cellsOf 26 = 5 := by kernel_rfl
theorem cells_28 : Tryz.prog.cellsOf 28 = 19 := by kernel_rfl
theorem cells_29 : Tryz.prog.cellsOf 29 = 1 := by kernel_rfl
theorem cells_31 : Tryz.prog.cellsOf 31 = 16 := by kernel_rfl
theorem cells_33 : Tryz.prog.cellsOf 33 = 14 := by kernel_rfl
theorem cells_35 : Tryz.prog.cellsOf 35 = 56 := by kernel_rfl
theorem cells_101 : Tryz.prog.cellsOf 101 = 2 := by kernel_rfl
theorem op_cons {α : Type} {cs : List α} {n : Nat} (h : cs.length = n + 1) : ∃ v r, cs = v :: r ∧ r.length = n := by
  cases cs with
  | nil => cases h
  | cons v r => exact ⟨v, r, rfl, by simpa using h⟩
section
variable {H : Type} {enc : TypeId × Value → H} {W : World} {fuel : Nat} {cs : List Value} {x : DataW H × List MemPlace}
theorem op_22 (h : DataW.trod enc Tryz.prog W 0 (fun _ => true) true fuel 22 cs = some x) : ∃ (A : Option Addr) (c : Nat) (l : List Int), cs = [.slice A l.length c] ∧ Kd.C (Kd.int .u8) W A l.length l ∧ l.length ≤ c ∧ l.length ≤ maxLen ∧ ∀ n ∈ l, (Lit.int .u8 n).wf = true :=
  op_ints Tryz.underlying22 Tryz.underlying5 cells_5 h
set_option maxRecDepth 10000 in
theorem op_24 (h : DataW.trod enc Tryz.prog W 0 (fun _ => true) true fuel 24 cs = some x) : ∃ (a0 : Int) (a1 : Int) (a2 : Int) (a3 : Int) (A4 : Option Addr) (c4 : Nat) (l4 : List Int), cs = [.int .i64 a0, .int .i64 a1, .int .i64 a2, .int .i64 a3, .slice A4 l4.length c4] ∧ (Lit.int .i64 a0).wf = true ∧ (Lit.int .i64 a1).wf = true ∧ (Lit.int .i64 a2).wf = true ∧ (Lit.int .i64 a3).wf = true ∧ Kd.C (Kd.int .u8) W A4 l4.length l4 ∧ l4.length ≤ c4 ∧ l4.length ≤ maxLen ∧ (∀ n ∈ l4, (Lit.int .u8 n).wf = true) := by
  obtain ⟨xs, m, _, _, hl, hn, hg⟩ := DataW.trod_struct Tryz.underlying24 h
  rw [cells_24] at hl
  match cs, hl with
  | [v0, v1, v2, v3, v4], _ =>
    obtain ⟨x0, hx0⟩ := op_field hn (show 0 < _ from by decide)
    have g0 : DataW.trod enc Tryz.prog W 0 (fun _ => true) true m 3 ((List.drop 0 _).take (Tryz.prog.cellsOf 3)) = some x0 := (hg 0 _ rfl).trans hx0
    rw [cells_3] at g0
    change DataW.trod enc Tryz.prog W 0 (fun _ => true) true m 3 [v0] = some x0 at g0
    obtain ⟨x1, hx1⟩ := op_field hn (show 1 < _ from by decide)
    have g1 : DataW.trod enc Tryz.prog W 0 (fun _ => true) true m 3 ((List.drop 1 _).take (Tryz.prog.cellsOf 3)) = some x1 := (hg 1 _ rfl).trans hx1
    rw [cells_3] at g1
    change DataW.trod enc Tryz.prog W 0 (fun _ => true) true m 3 [v1] = some x1 at g1
    obtain ⟨x2, hx2⟩ := op_field hn (show 2 < _ from by decide)
    have g2 : DataW.trod enc Tryz.prog W 0 (fun _ => true) true m 3 ((List.drop 2 _).take (Tryz.prog.cellsOf 3)) = some x2 := (hg 2 _ rfl).trans hx2
    rw [cells_3] at g2
    change DataW.trod enc Tryz.prog W 0 (fun _ => true) true m 3 [v2] = some x2 at g2
    obtain ⟨x3, hx3⟩ := op_field hn (show 3 < _ from by decide)
    have g3 : DataW.trod enc Tryz.prog W 0 (fun _ => true) true m 3 ((List.drop 3 _).take (Tryz.prog.cellsOf 3)) = some x3 := (hg 3 _ rfl).trans hx3
    rw [cells_3] at g3
    change DataW.trod enc Tryz.prog W 0 (fun _ => true) true m 3 [v3] = some x3 at g3
    obtain ⟨x4, hx4⟩ := op_field hn (show 4 < _ from by decide)
    have g4 : DataW.trod enc Tryz.prog W 0 (fun _ => true) true m 22 ((List.drop 4 _).take (Tryz.prog.cellsOf 22)) = some x4 := (hg 4 _ rfl).trans hx4
    rw [cells_22] at g4
    change DataW.trod enc Tryz.prog W 0 (fun _ => true) true m 22 [v4] = some x4 at g4
    obtain ⟨a0, e0, _, w0_0⟩ := DataW.trod_int Tryz.underlying3 g0
    obtain rfl := op_one e0
    obtain ⟨a1, e1, _, w1_0⟩ := DataW.trod_int Tryz.underlying3 g1
    obtain rfl := op_one e1
    obtain ⟨a2, e2, _, w2_0⟩ := DataW.trod_int Tryz.underlying3 g2
    obtain rfl := op_one e2
    obtain ⟨a3, e3, _, w3_0⟩ := DataW.trod_int Tryz.underlying3 g3
    obtain rfl := op_one e3
    obtain ⟨A4, c4, l4, e4, w4_0, w4_1, w4_2, w4_3⟩ := op_22 g4
    obtain rfl := op_one e4
    exact ⟨a0, a1, a2, a3, A4, c4, l4, rfl, w0_0, w1_0, w2_0, w3_0, w4_0, w4_1, w4_2, w4_3⟩
set_option maxRecDepth 10000 in
theorem op_26 (h : DataW.trod enc Tryz.prog W 0 (fun _ => true) true fuel 26 cs = some x) : ∃ (a0 : Int) (a1 : Int) (a2 : Int) (a3 : Int) (a4 : Int), cs = [.int .i64 a0, .int .i64 a1, .int .i64 a2, .int .i64 a3, .int .i64 a4] ∧ (Lit.int .i64 a0).wf = true ∧ (Lit.int .i64 a1).wf = true ∧ (Lit.int .i64 a2).wf = true ∧ (Lit.int .i64 a3).wf = true ∧ (Lit.int .i64 a4).wf = true := by
  obtain ⟨xs, m, _, _, hl, hn, hg⟩ := DataW.trod_struct Tryz.underlying26 h
  rw [cells_26] at hl
  match cs, hl with
  | [v0, v1, v2, v3, v4], _ =>
    obtain ⟨x0, hx0⟩ := op_field hn (show 0 < _ from by decide)
    have g0 : DataW.trod enc Tryz.prog W 0 (fun _ => true) true m 3 ((List.drop 0 _).take (Tryz.prog.cellsOf 3)) = some x0 := (hg 0 _ rfl).trans hx0
    rw [cells_3] at g0
    change DataW.trod enc Tryz.prog W 0 (fun _ => true) true m 3 [v0] = some x0 at g0
    obtain ⟨x1, hx1⟩ := op_field hn (show 1 < _ from by decide)
    have g1 : DataW.trod enc Tryz.prog W 0 (fun _ => true) true m 3 ((List.drop 1 _).take (Tryz.prog.cellsOf 3)) = some x1 := (hg 1 _ rfl).trans hx1
    rw [cells_3] at g1
    change DataW.trod enc Tryz.prog W 0 (fun _ => true) true m 3 [v1] = some x1 at g1
    obtain ⟨x2, hx2⟩ := op_field hn (show 2 < _ from by decide)
    have g2 : DataW.trod enc Tryz.prog W 0 (fun _ => true) true m 3 ((List.drop 2 _).take (Tryz.prog.cellsOf 3)) = some x2 := (hg 2 _ rfl).trans hx2
    rw [cells_3] at g2
    change DataW.trod enc Tryz.prog W 0 (fun _ => true) true m 3 [v2] = some x2 at g2
    obtain ⟨x3, hx3⟩ := op_field hn (show 3 < _ from by decide)
    have g3 : DataW.trod enc Tryz.prog W 0 (fun _ => true) true m 3 ((List.drop 3 _).take (Tryz.prog.cellsOf 3)) = some x3 := (hg 3 _ rfl).trans hx3
    rw [cells_3] at g3
    change DataW.trod enc Tryz.prog W 0 (fun _ => true) true m 3 [v3] = some x3 at g3
    obtain ⟨x4, hx4⟩ := op_field hn (show 4 < _ from by decide)
    have g4 : DataW.trod enc Tryz.prog W 0 (fun _ => true) true m 3 ((List.drop 4 _).take (Tryz.prog.cellsOf 3)) = some x4 := (hg 4 _ rfl).trans hx4
    rw [cells_3] at g4
    change DataW.trod enc Tryz.prog W 0 (fun _ => true) true m 3 [v4] = some x4 at g4
    obtain ⟨a0, e0, _, w0_0⟩ := DataW.trod_int Tryz.underlying3 g0
    obtain rfl := op_one e0
    obtain ⟨a1, e1, _, w1_0⟩ := DataW.trod_int Tryz.underlying3 g1
    obtain rfl := op_one e1
    obtain ⟨a2, e2, _, w2_0⟩ := DataW.trod_int Tryz.underlying3 g2
    obtain rfl := op_one e2
    obtain ⟨a3, e3, _, w3_0⟩ := DataW.trod_int Tryz.underlying3 g3
    obtain rfl := op_one e3
    obtain ⟨a4, e4, _, w4_0⟩ := DataW.trod_int Tryz.underlying3 g4
    obtain rfl := op_one e4
    exact ⟨a0, a1, a2, a3, a4, rfl, w0_0, w1_0, w2_0, w3_0, w4_0⟩
set_option maxRecDepth 10000 in
theorem op_28 (h : DataW.trod enc Tryz.prog W 0 (fun _ => true) true fuel 28 cs = some x) : ∃ (a0 : Int) (a1 : Int) (a2 : Int) (a3 : Int) (a4 : Int) (a5 : Int) (a6 : Int) (a7 : Int) (a8 : Int) (a9 : Int) (a10 : Int) (a11 : Int) (a12 : Int) (a13 : Int) (a14 : Int) (a15 : Int) (a16 : Int) (A17 : Option Addr) (c17 : Nat) (l17 : List Int) (A18 : Option Addr) (c18 : Nat) (l18 : List Int), cs = [.int .i64 a0, .int .i64 a1, .int .i64 a2, .int .i64 a3, .int .i64 a4, .int .i64 a5, .int .i64 a6, .int .i64 a7, .int .i64 a8, .int .i64 a9, .int .i64 a10, .int .i64 a11, .int .i64 a12, .int .i64 a13, .int .i64 a14, .int .i64 a15, .int .i64 a16, .slice A17 l17.length c17, .slice A18 l18.length c18] ∧ (Lit.int .i64 a0).wf = true ∧ (Lit.int .i64 a1).wf = true ∧ (Lit.int .i64 a2).wf = true ∧ (Lit.int .i64 a3).wf = true ∧ (Lit.int .i64 a4).wf = true ∧ (Lit.int .i64 a5).wf = true ∧ (Lit.int .i64 a6).wf = true ∧ (Lit.int .i64 a7).wf = true ∧ (Lit.int .i64 a8).wf = true ∧ (Lit.int .i64 a9).wf = true ∧ (Lit.int .i64 a10).wf = true ∧ (Lit.int .i64 a11).wf = true ∧ (Lit.int .i64 a12).wf = true ∧ (Lit.int .i64 a13).wf = true ∧ (Lit.int .i64 a14).wf = true ∧ (Lit.int .i64 a15).wf = true ∧ (Lit.int .i64 a16).wf = true ∧ Kd.C (Kd.int .u8) W A17 l17.length l17 ∧ l17.length ≤ c17 ∧ l17.length ≤ maxLen ∧ (∀ n ∈ l17, (Lit.int .u8 n).wf = true) ∧ Kd.C (Kd.int .u8) W A18 l18.length l18 ∧ l18.length ≤ c18 ∧ l18.length ≤ maxLen ∧ (∀ n ∈ l18, (Lit.int .u8 n).wf = true) := by
  obtain ⟨xs, m, _, _, hl, hn, hg⟩ := DataW.trod_struct Tryz.underlying28 h
  rw [cells_28] at hl
  match cs, hl with
  | [v0, v1, v2, v3, v4, v5, v6, v7, v8, v9, v10, v11, v12, v13, v14, v15, v16, v17, v18], _ =>
    obtain ⟨x0, hx0⟩ := op_field hn (show 0 < _ from by decide)
    have g0 : DataW.trod enc Tryz.prog W 0 (fun _ => true) true m 3 ((List.drop 0 _).take (Tryz.prog.cellsOf 3)) = some x0 := (hg 0 _ rfl).trans hx0
    rw [cells_3] at g0
    change DataW.trod enc Tryz.prog W 0 (fun _ => true) true m 3 [v0] = some x0 at g0
    obtain ⟨x1, hx1⟩ := op_field hn (show 1 < _ from by decide)
    have g1 : DataW.trod enc Tryz.prog W 0 (fun _ => true) true m 3 ((List.drop 1 _).take (Tryz.prog.cellsOf 3)) = some x1 := (hg 1 _ rfl).trans hx1
    rw [cells_3] at g1
    change DataW.trod enc Tryz.prog W 0 (fun _ => true) true m 3 [v1] = some x1 at g1
    obtain ⟨x2, hx2⟩ := op_field hn (show 2 < _ from by decide)
    have g2 : DataW.trod enc Tryz.prog W 0 (fun _ => true) true m 3 ((List.drop 2 _).take (Tryz.prog.cellsOf 3)) = some x2 := (hg 2 _ rfl).trans hx2
    rw [cells_3] at g2
    change DataW.trod enc Tryz.prog W 0 (fun _ => true) true m 3 [v2] = some x2 at g2
    obtain ⟨x3, hx3⟩ := op_field hn (show 3 < _ from by decide)
    have g3 : DataW.trod enc Tryz.prog W 0 (fun _ => true) true m 3 ((List.drop 3 _).take (Tryz.prog.cellsOf 3)) = some x3 := (hg 3 _ rfl).trans hx3
    rw [cells_3] at g3
    change DataW.trod enc Tryz.prog W 0 (fun _ => true) true m 3 [v3] = some x3 at g3
    obtain ⟨x4, hx4⟩ := op_field hn (show 4 < _ from by decide)
    have g4 : DataW.trod enc Tryz.prog W 0 (fun _ => true) true m 3 ((List.drop 4 _).take (Tryz.prog.cellsOf 3)) = some x4 := (hg 4 _ rfl).trans hx4
    rw [cells_3] at g4
    change DataW.trod enc Tryz.prog W 0 (fun _ => true) true m 3 [v4] = some x4 at g4
    obtain ⟨x5, hx5⟩ := op_field hn (show 5 < _ from by decide)
    have g5 : DataW.trod enc Tryz.prog W 0 (fun _ => true) true m 3 ((List.drop 5 _).take (Tryz.prog.cellsOf 3)) = some x5 := (hg 5 _ rfl).trans hx5
    rw [cells_3] at g5
    change DataW.trod enc Tryz.prog W 0 (fun _ => true) true m 3 [v5] = some x5 at g5
    obtain ⟨x6, hx6⟩ := op_field hn (show 6 < _ from by decide)
    have g6 : DataW.trod enc Tryz.prog W 0 (fun _ => true) true m 3 ((List.drop 6 _).take (Tryz.prog.cellsOf 3)) = some x6 := (hg 6 _ rfl).trans hx6
    rw [cells_3] at g6
    change DataW.trod enc Tryz.prog W 0 (fun _ => true) true m 3 [v6] = some x6 at g6
    obtain ⟨x7, hx7⟩ := op_field hn (show 7 < _ from by decide)
    have g7 : DataW.trod enc Tryz.prog W 0 (fun _ => true) true m 26 ((List.drop 7 _).take (Tryz.prog.cellsOf 26)) = some x7 := (hg 7 _ rfl).trans hx7
    rw [cells_26] at g7
    change DataW.trod enc Tryz.prog W 0 (fun _ => true) true m 26 [v7, v8, v9, v10, v11] = some x7 at g7
    obtain ⟨x8, hx8⟩ := op_field hn (show 8 < _ from by decide)
    have g8 : DataW.trod enc Tryz.prog W 0 (fun _ => true) true m 26 ((List.drop 12 _).take (Tryz.prog.cellsOf 26)) = some x8 := (hg 8 _ rfl).trans hx8
    rw [cells_26] at g8
    change DataW.trod enc Tryz.prog W 0 (fun _ => true) true m 26 [v12, v13, v14, v15, v16] = some x8 at g8
    obtain ⟨x9, hx9⟩ := op_field hn (show 9 < _ from by decide)
    have g9 : DataW.trod enc Tryz.prog W 0 (fun _ => true) true m 22 ((List.drop 17 _).take (Tryz.prog.cellsOf 22)) = some x9 := (hg 9 _ rfl).trans hx9
    rw [cells_22] at g9
    change DataW.trod enc Tryz.prog W 0 (fun _ => true) true m 22 [v17] = some x9 at g9
    obtain ⟨x10, hx10⟩ := op_field hn (show 10 < _ from by decide)
    have g10 : DataW.trod enc Tryz.prog W 0 (fun _ => true) true m 22 ((List.drop 18 _).take (Tryz.prog.cellsOf 22)) = some x10 := (hg 10 _ rfl).trans hx10
    rw [cells_22] at g10
    change DataW.trod enc Tryz.prog W 0 (fun _ => true) true m 22 [v18] = some x10 at g10
    obtain ⟨a0, e0, _, w0_0⟩ := DataW.trod_int Tryz.underlying3 g0
    obtain rfl := op_one e0
    obtain ⟨a1, e1, _, w1_0⟩ := DataW.trod_int Tryz.underlying3 g1
    obtain rfl := op_one e1
    obtain ⟨a2, e2, _, w2_0⟩ := DataW.trod_int Tryz.underlying3 g2
    obtain rfl := op_one e2
    obtain ⟨a3, e3, _, w3_0⟩ := DataW.trod_int Tryz.underlying3 g3
    obtain rfl := op_one e3
    obtain ⟨a4, e4, _, w4_0⟩ := DataW.trod_int Tryz.underlying3 g4
    obtain rfl := op_one e4
    obtain ⟨a5, e5, _, w5_0⟩ := DataW.trod_int Tryz.underlying3 g5
    obtain rfl := op_one e5
    obtain ⟨a6, e6, _, w6_0⟩ := DataW.trod_int Tryz.underlying3 g6
    obtain rfl := op_one e6
    obtain ⟨a7, a8, a9, a10, a11, e7, w7_0, w8_0, w9_0, w10_0, w11_0⟩ := op_26 g7
    simp only [List.cons.injEq, and_true] at e7
    obtain ⟨rfl, rfl, rfl, rfl, rfl⟩ := e7
    obtain ⟨a12, a13, a14, a15, a16, e8, w12_0, w13_0, w14_0, w15_0, w16_0⟩ := op_26 g8
    simp only [List.cons.injEq, and_true] at e8
    obtain ⟨rfl, rfl, rfl, rfl, rfl⟩ := e8
    obtain ⟨A17, c17, l17, e9, w17_0, w17_1, w17_2, w17_3⟩ := op_22 g9
    obtain rfl := op_one e9
    obtain ⟨A18, c18, l18, e10, w18_0, w18_1, w18_2, w18_3⟩ := op_22 g10
    obtain rfl := op_one e10
    exact ⟨a0, a1, a2, a3, a4, a5, a6, a7, a8, a9, a10, a11, a12, a13, a14, a15, a16, A17, c17, l17, A18, c18, l18, rfl, w0_0, w1_0, w2_0, w3_0, w4_0, w5_0, w6_0, w7_0, w8_0, w9_0, w10_0, w11_0, w12_0, w13_0, w14_0, w15_0, w16_0, w17_0, w17_1, w17_2, w17_3, w18_0, w18_1, w18_2, w18_3⟩
set_option maxRecDepth 10000 in
theorem op_101 (h : DataW.trod enc Tryz.prog W 0 (fun _ => true) true fuel 101 cs = some x) : ∃ (a0 : Int) (A1 : Option Addr) (c1 : Nat) (l1 : List Int), cs = [.int .i64 a0, .slice A1 l1.length c1] ∧ (Lit.int .i64 a0).wf = true ∧ Kd.C (Kd.int .u8) W A1 l1.length l1 ∧ l1.length ≤ c1 ∧ l1.length ≤ maxLen ∧ (∀ n ∈ l1, (Lit.int .u8 n).wf = true) := by
  obtain ⟨xs, m, _, _, hl, hn, hg⟩ := DataW.trod_struct Tryz.underlying101 h
  rw [cells_101] at hl
  match cs, hl with
  | [v0, v1], _ =>
    obtain ⟨x0, hx0⟩ := op_field hn (show 0 < _ from by decide)
    have g0 : DataW.trod enc Tryz.prog W 0 (fun _ => true) true m 3 ((List.drop 0 _).take (Tryz.prog.cellsOf 3)) = some x0 := (hg 0 _ rfl).trans hx0
    rw [cells_3] at g0
    change DataW.trod enc Tryz.prog W 0 (fun _ => true) true m 3 [v0] = some x0 at g0
    obtain ⟨x1, hx1⟩ := op_field hn (show 1 < _ from by decide)
    have g1 : DataW.trod enc Tryz.prog W 0 (fun _ => true) true m 22 ((List.drop 1 _).take (Tryz.prog.cellsOf 22)) = some x1 := (hg 1 _ rfl).trans hx1
    rw [cells_22] at g1
    change DataW.trod enc Tryz.prog W 0 (fun _ => true) true m 22 [v1] = some x1 at g1
    obtain ⟨a0, e0, _, w0_0⟩ := DataW.trod_int Tryz.underlying3 g0
    obtain rfl := op_one e0
    obtain ⟨A1, c1, l1, e1, w1_0, w1_1, w1_2, w1_3⟩ := op_22 g1
    obtain rfl := op_one e1
    exact ⟨a0, A1, c1, l1, rfl, w0_0, w1_0, w1_1, w1_2, w1_3⟩
theorem op_29 (h : DataW.trod enc Tryz.prog W 0 (fun _ => true) true fuel 29 cs = some x) : ∃ (A : Option Addr) (c : Nat) (l : List S101), cs = [.slice A l.length c] ∧ Kd.C k101 W A l.length l ∧ l.length ≤ c ∧ l.length ≤ maxLen ∧ ∀ n ∈ l, (Lit.int .i64 n.f0).wf = true ∧ n.f1.length ≤ maxLen ∧ (∀ y ∈ n.f1, (Lit.int .u8 y).wf = true) := by
  refine op_slice (d := k101) (Q := fun n => (Lit.int .i64 n.f0).wf = true ∧ n.f1.length ≤ maxLen ∧ (∀ y ∈ n.f1, (Lit.int .u8 y).wf = true)) z101 Tryz.underlying29 cells_101 ?_ h
  intro m cs y hy
  obtain ⟨a0, A1, c1, l1, rfl, g0_1, g1_1, g1_2, g1_3, g1_4⟩ := op_101 hy
  exact ⟨⟨a0, l1⟩, k101_mk W ⟨a0, l1⟩ g1_2 g1_1, g0_1, g1_3, g1_4⟩
set_option maxRecDepth 10000 in
theorem op_31 (h : DataW.trod enc Tryz.prog W 0 (fun _ => true) true fuel 31 cs = some x) : ∃ (a0 : Int) (a1 : Int) (a2 : Int) (a3 : Int) (a4 : Int) (a5 : Int) (a6 : Int) (a7 : Int) (a8 : Int) (a9 : Int) (a10 : Int) (a11 : Int) (a12 : Int) (a13 : Int) (A14 : Option Addr) (c14 : Nat) (l14 : List S101) (A15 : Option Addr) (c15 : Nat) (l15 : List Int), cs = [.int .i64 a0, .int .i64 a1, .int .i64 a2, .int .i64 a3, .int .i64 a4, .int .i64 a5, .int .i64 a6, .int .i64 a7, .int .i64 a8, .int .i64 a9, .int .i64 a10, .int .i64 a11, .int .i64 a12, .int .i64 a13, .slice A14 l14.length c14, .slice A15 l15.length c15] ∧ (Lit.int .i64 a0).wf = true ∧ (Lit.int .i64 a1).wf = true ∧ (Lit.int .i64 a2).wf = true ∧ (Lit.int .i64 a3).wf = true ∧ (Lit.int .i64 a4).wf = true ∧ (Lit.int .i64 a5).wf = true ∧ (Lit.int .i64 a6).wf = true ∧ (Lit.int .i64 a7).wf = true ∧ (Lit.int .i64 a8).wf = true ∧ (Lit.int .i64 a9).wf = true ∧ (Lit.int .i64 a10).wf = true ∧ (Lit.int .i64 a11).wf = true ∧ (Lit.int .i64 a12).wf = true ∧ (Lit.int .i64 a13).wf = true ∧ Kd.C k101 W A14 l14.length l14 ∧ l14.length ≤ c14 ∧ l14.length ≤ maxLen ∧ (∀ n ∈ l14, (Lit.int .i64 n.f0).wf = true ∧ n.f1.length ≤ maxLen ∧ (∀ y ∈ n.f1, (Lit.int .u8 y).wf = true)) ∧ Kd.C (Kd.int .u8) W A15 l15.length l15 ∧ l15.length ≤ c15 ∧ l15.length ≤ maxLen ∧ (∀ n ∈ l15, (Lit.int .u8 n).wf = true) := by
  obtain ⟨xs, m, _, _, hl, hn, hg⟩ := DataW.trod_struct Tryz.underlying31 h
  rw [cells_31] at hl
  match cs, hl with
  | [v0, v1, v2, v3, v4, v5, v6, v7, v8, v9, v10, v11, v12, v13, v14, v15], _ =>
    obtain ⟨x0, hx0⟩ := op_field hn (show 0 < _ from by decide)
    have g0 : DataW.trod enc Tryz.prog W 0 (fun _ => true) true m 3 ((List.drop 0 _).take (Tryz.prog.cellsOf 3)) = some x0 := (hg 0 _ rfl).trans hx0
    rw [cells_3] at g0
    change DataW.trod enc Tryz.prog W 0 (fun _ => true) true m 3 [v0] = some x0 at g0
    obtain ⟨x1, hx1⟩ := op_field hn (show 1 < _ from by decide)
    have g1 : DataW.trod enc Tryz.prog W 0 (fun _ => true) true m 3 ((List.drop 1 _).take (Tryz.prog.cellsOf 3)) = some x1 := (hg 1 _ rfl).trans hx1
    rw [cells_3] at g1
    change DataW.trod enc Tryz.prog W 0 (fun _ => true) true m 3 [v1] = some x1 at g1
    obtain ⟨x2, hx2⟩ := op_field hn (show 2 < _ from by decide)
    have g2 : DataW.trod enc Tryz.prog W 0 (fun _ => true) true m 3 ((List.drop 2 _).take (Tryz.prog.cellsOf 3)) = some x2 := (hg 2 _ rfl).trans hx2
    rw [cells_3] at g2
    change DataW.trod enc Tryz.prog W 0 (fun _ => true) true m 3 [v2] = some x2 at g2
    obtain ⟨x3, hx3⟩ := op_field hn (show 3 < _ from by decide)
    have g3 : DataW.trod enc Tryz.prog W 0 (fun _ => true) true m 3 ((List.drop 3 _).take (Tryz.prog.cellsOf 3)) = some x3 := (hg 3 _ rfl).trans hx3
    rw [cells_3] at g3
    change DataW.trod enc Tryz.prog W 0 (fun _ => true) true m 3 [v3] = some x3 at g3
    obtain ⟨x4, hx4⟩ := op_field hn (show 4 < _ from by decide)
    have g4 : DataW.trod enc Tryz.prog W 0 (fun _ => true) true m 26 ((List.drop 4 _).take (Tryz.prog.cellsOf 26)) = some x4 := (hg 4 _ rfl).trans hx4
    rw [cells_26] at g4
    change DataW.trod enc Tryz.prog W 0 (fun _ => true) true m 26 [v4, v5, v6, v7, v8] = some x4 at g4
    obtain ⟨x5, hx5⟩ := op_field hn (show 5 < _ from by decide)
    have g5 : DataW.trod enc Tryz.prog W 0 (fun _ => true) true m 26 ((List.drop 9 _).take (Tryz.prog.cellsOf 26)) = some x5 := (hg 5 _ rfl).trans hx5
    rw [cells_26] at g5
    change DataW.trod enc Tryz.prog W 0 (fun _ => true) true m 26 [v9, v10, v11, v12, v13] = some x5 at g5
    obtain ⟨x6, hx6⟩ := op_field hn (show 6 < _ from by decide)
    have g6 : DataW.trod enc Tryz.prog W 0 (fun _ => true) true m 29 ((List.drop 14 _).take (Tryz.prog.cellsOf 29)) = some x6 := (hg 6 _ rfl).trans hx6
    rw [cells_29] at g6
    change DataW.trod enc Tryz.prog W 0 (fun _ => true) true m 29 [v14] = some x6 at g6
    obtain ⟨x7, hx7⟩ := op_field hn (show 7 < _ from by decide)
    have g7 : DataW.trod enc Tryz.prog W 0 (fun _ => true) true m 22 ((List.drop 15 _).take (Tryz.prog.cellsOf 22)) = some x7 := (hg 7 _ rfl).trans hx7
    rw [cells_22] at g7
    change DataW.trod enc Tryz.prog W 0 (fun _ => true) true m 22 [v15] = some x7 at g7
    obtain ⟨a0, e0, _, w0_0⟩ := DataW.trod_int Tryz.underlying3 g0
    obtain rfl := op_one e0
    obtain ⟨a1, e1, _, w1_0⟩ := DataW.trod_int Tryz.underlying3 g1
    obtain rfl := op_one e1
    obtain ⟨a2, e2, _, w2_0⟩ := DataW.trod_int Tryz.underlying3 g2
    obtain rfl := op_one e2
    obtain ⟨a3, e3, _, w3_0⟩ := DataW.trod_int Tryz.underlying3 g3
    obtain rfl := op_one e3
    obtain ⟨a4, a5, a6, a7, a8, e4, w4_0, w5_0, w6_0, w7_0, w8_0⟩ := op_26 g4
    simp only [List.cons.injEq, and_true] at e4
    obtain ⟨rfl, rfl, rfl, rfl, rfl⟩ := e4
    obtain ⟨a9, a10, a11, a12, a13, e5, w9_0, w10_0, w11_0, w12_0, w13_0⟩ := op_26 g5
    simp only [List.cons.injEq, and_true] at e5
    obtain ⟨rfl, rfl, rfl, rfl, rfl⟩ := e5
    obtain ⟨A14, c14, l14, e6, w14_0, w14_1, w14_2, w14_3⟩ := op_29 g6
    obtain rfl := op_one e6
    obtain ⟨A15, c15, l15, e7, w15_0, w15_1, w15_2, w15_3⟩ := op_22 g7
    obtain rfl := op_one e7
    exact ⟨a0, a1, a2, a3, a4, a5, a6, a7, a8, a9, a10, a11, a12, a13, A14, c14, l14, A15, c15, l15, rfl, w0_0, w1_0, w2_0, w3_0, w4_0, w5_0, w6_0, w7_0, w8_0, w9_0, w10_0, w11_0, w12_0, w13_0, w14_0, w14_1, w14_2, w14_3, w15_0, w15_1, w15_2, w15_3⟩
set_option maxRecDepth 10000 in
theorem op_33 (h : DataW.trod enc Tryz.prog W 0 (fun _ => true) true fuel 33 cs = some x) : ∃ (a0 : Int) (a1 : Int) (a2 : Int) (a3 : Int) (a4 : Int) (a5 : Int) (a6 : Int) (a7 : Int) (a8 : Int) (a9 : Int) (a10 : Int) (a11 : Bool) (A12 : Option Addr) (c12 : Nat) (l12 : List Int) (A13 : Option Addr) (c13 : Nat) (l13 : List Int), cs = [.int .i64 a0, .int .i64 a1, .int .i64 a2, .int .i64 a3, .int .i64 a4, .int .i64 a5, .int .i64 a6, .int .i64 a7, .int .i64 a8, .int .i64 a9, .int .i64 a10, .bool a11, .slice A12 l12.length c12, .slice A13 l13.length c13] ∧ (Lit.int .i64 a0).wf = true ∧ (Lit.int .i64 a1).wf = true ∧ (Lit.int .i64 a2).wf = true ∧ (Lit.int .i64 a3).wf = true ∧ (Lit.int .i64 a4).wf = true ∧ (Lit.int .i64 a5).wf = true ∧ (Lit.int .i64 a6).wf = true ∧ (Lit.int .i64 a7).wf = true ∧ (Lit.int .i64 a8).wf = true ∧ (Lit.int .i64 a9).wf = true ∧ (Lit.int .i64 a10).wf = true ∧ Kd.C (Kd.int .u8) W A12 l12.length l12 ∧ l12.length ≤ c12 ∧ l12.length ≤ maxLen ∧ (∀ n ∈ l12, (Lit.int .u8 n).wf = true) ∧ Kd.C (Kd.int .u8) W A13 l13.length l13 ∧ l13.length ≤ c13 ∧ l13.length ≤ maxLen ∧ (∀ n ∈ l13, (Lit.int .u8 n).wf = true) := by
  obtain ⟨xs, m, _, _, hl, hn, hg⟩ := DataW.trod_struct Tryz.underlying33 h
  rw [cells_33] at hl
  match cs, hl with
  | [v0, v1, v2, v3, v4, v5, v6, v7, v8, v9, v10, v11, v12, v13], _ =>
    obtain ⟨x0, hx0⟩ := op_field hn (show 0 < _ from by decide)
    have g0 : DataW.trod enc Tryz.prog W 0 (fun _ => true) true m 3 ((List.drop 0 _).take (Tryz.prog.cellsOf 3)) = some x0 := (hg 0 _ rfl).trans hx0
    rw [cells_3] at g0
    change DataW.trod enc Tryz.prog W 0 (fun _ => true) true m 3 [v0] = some x0 at g0
    obtain ⟨x1, hx1⟩ := op_field hn (show 1 < _ from by decide)
    have g1 : DataW.trod enc Tryz.prog W 0 (fun _ => true) true m 3 ((List.drop 1 _).take (Tryz.prog.cellsOf 3)) = some x1 := (hg 1 _ rfl).trans hx1
    rw [cells_3] at g1
    change DataW.trod enc Tryz.prog W 0 (fun _ => true) true m 3 [v1] = some x1 at g1
    obtain ⟨x2, hx2⟩ := op_field hn (show 2 < _ from by decide)
    have g2 : DataW.trod enc Tryz.prog W 0 (fun _ => true) true m 3 ((List.drop 2 _).take (Tryz.prog.cellsOf 3)) = some x2 := (hg 2 _ rfl).trans hx2
    rw [cells_3] at g2
    change DataW.trod enc Tryz.prog W 0 (fun _ => true) true m 3 [v2] = some x2 at g2
    obtain ⟨x3, hx3⟩ := op_field hn (show 3 < _ from by decide)
    have g3 : DataW.trod enc Tryz.prog W 0 (fun _ => true) true m 3 ((List.drop 3 _).take (Tryz.prog.cellsOf 3)) = some x3 := (hg 3 _ rfl).trans hx3
    rw [cells_3] at g3
    change DataW.trod enc Tryz.prog W 0 (fun _ => true) true m 3 [v3] = some x3 at g3
    obtain ⟨x4, hx4⟩ := op_field hn (show 4 < _ from by decide)
    have g4 : DataW.trod enc Tryz.prog W 0 (fun _ => true) true m 3 ((List.drop 4 _).take (Tryz.prog.cellsOf 3)) = some x4 := (hg 4 _ rfl).trans hx4
    rw [cells_3] at g4
    change DataW.trod enc Tryz.prog W 0 (fun _ => true) true m 3 [v4] = some x4 at g4
    obtain ⟨x5, hx5⟩ := op_field hn (show 5 < _ from by decide)
    have g5 : DataW.trod enc Tryz.prog W 0 (fun _ => true) true m 3 ((List.drop 5 _).take (Tryz.prog.cellsOf 3)) = some x5 := (hg 5 _ rfl).trans hx5
    rw [cells_3] at g5
    change DataW.trod enc Tryz.prog W 0 (fun _ => true) true m 3 [v5] = some x5 at g5
    obtain ⟨x6, hx6⟩ := op_field hn (show 6 < _ from by decide)
    have g6 : DataW.trod enc Tryz.prog W 0 (fun _ => true) true m 3 ((List.drop 6 _).take (Tryz.prog.cellsOf 3)) = some x6 := (hg 6 _ rfl).trans hx6
    rw [cells_3] at g6
    change DataW.trod enc Tryz.prog W 0 (fun _ => true) true m 3 [v6] = some x6 at g6
    obtain ⟨x7, hx7⟩ := op_field hn (show 7 < _ from by decide)
    have g7 : DataW.trod enc Tryz.prog W 0 (fun _ => true) true m 3 ((List.drop 7 _).take (Tryz.prog.cellsOf 3)) = some x7 := (hg 7 _ rfl).trans hx7
    rw [cells_3] at g7
    change DataW.trod enc Tryz.prog W 0 (fun _ => true) true m 3 [v7] = some x7 at g7
    obtain ⟨x8, hx8⟩ := op_field hn (show 8 < _ from by decide)
    have g8 : DataW.trod enc Tryz.prog W 0 (fun _ => true) true m 3 ((List.drop 8 _).take (Tryz.prog.cellsOf 3)) = some x8 := (hg 8 _ rfl).trans hx8
    rw [cells_3] at g8
    change DataW.trod enc Tryz.prog W 0 (fun _ => true) true m 3 [v8] = some x8 at g8
    obtain ⟨x9, hx9⟩ := op_field hn (show 9 < _ from by decide)
    have g9 : DataW.trod enc Tryz.prog W 0 (fun _ => true) true m 3 ((List.drop 9 _).take (Tryz.prog.cellsOf 3)) = some x9 := (hg 9 _ rfl).trans hx9
    rw [cells_3] at g9
    change DataW.trod enc Tryz.prog W 0 (fun _ => true) true m 3 [v9] = some x9 at g9
    obtain ⟨x10, hx10⟩ := op_field hn (show 10 < _ from by decide)
    have g10 : DataW.trod enc Tryz.prog W 0 (fun _ => true) true m 3 ((List.drop 10 _).take (Tryz.prog.cellsOf 3)) = some x10 := (hg 10 _ rfl).trans hx10
    rw [cells_3] at g10
    change DataW.trod enc Tryz.prog W 0 (fun _ => true) true m 3 [v10] = some x10 at g10
    obtain ⟨x11, hx11⟩ := op_field hn (show 11 < _ from by decide)
    have g11 : DataW.trod enc Tryz.prog W 0 (fun _ => true) true m 4 ((List.drop 11 _).take (Tryz.prog.cellsOf 4)) = some x11 := (hg 11 _ rfl).trans hx11
    rw [cells_4] at g11
    change DataW.trod enc Tryz.prog W 0 (fun _ => true) true m 4 [v11] = some x11 at g11
    obtain ⟨x12, hx12⟩ := op_field hn (show 12 < _ from by decide)
    have g12 : DataW.trod enc Tryz.prog W 0 (fun _ => true) true m 22 ((List.drop 12 _).take (Tryz.prog.cellsOf 22)) = some x12 := (hg 12 _ rfl).trans hx12
    rw [cells_22] at g12
    change DataW.trod enc Tryz.prog W 0 (fun _ => true) true m 22 [v12] = some x12 at g12
    obtain ⟨x13, hx13⟩ := op_field hn (show 13 < _ from by decide)
    have g13 : DataW.trod enc Tryz.prog W 0 (fun _ => true) true m 22 ((List.drop 13 _).take (Tryz.prog.cellsOf 22)) = some x13 := (hg 13 _ rfl).trans hx13
    rw [cells_22] at g13
    change DataW.trod enc Tryz.prog W 0 (fun _ => true) true m 22 [v13] = some x13 at g13
    obtain ⟨a0, e0, _, w0_0⟩ := DataW.trod_int Tryz.underlying3 g0
    obtain rfl := op_one e0
    obtain ⟨a1, e1, _, w1_0⟩ := DataW.trod_int Tryz.underlying3 g1
    obtain rfl := op_one e1
    obtain ⟨a2, e2, _, w2_0⟩ := DataW.trod_int Tryz.underlying3 g2
    obtain rfl := op_one e2
    obtain ⟨a3, e3, _, w3_0⟩ := DataW.trod_int Tryz.underlying3 g3
    obtain rfl := op_one e3
    obtain ⟨a4, e4, _, w4_0⟩ := DataW.trod_int Tryz.underlying3 g4
    obtain rfl := op_one e4
    obtain ⟨a5, e5, _, w5_0⟩ := DataW.trod_int Tryz.underlying3 g5
    obtain rfl := op_one e5
    obtain ⟨a6, e6, _, w6_0⟩ := DataW.trod_int Tryz.underlying3 g6
    obtain rfl := op_one e6
    obtain ⟨a7, e7, _, w7_0⟩ := DataW.trod_int Tryz.underlying3 g7
    obtain rfl := op_one e7
    obtain ⟨a8, e8, _, w8_0⟩ := DataW.trod_int Tryz.underlying3 g8
    obtain rfl := op_one e8
    obtain ⟨a9, e9, _, w9_0⟩ := DataW.trod_int Tryz.underlying3 g9
    obtain rfl := op_one e9
    obtain ⟨a10, e10, _, w10_0⟩ := DataW.trod_int Tryz.underlying3 g10
    obtain rfl := op_one e10
    obtain ⟨a11, e11, _⟩ := DataW.trod_bool Tryz.underlying4 g11
    obtain rfl := op_one e11
    obtain ⟨A12, c12, l12, e12, w12_0, w12_1, w12_2, w12_3⟩ := op_22 g12
    obtain rfl := op_one e12
    obtain ⟨A13, c13, l13, e13, w13_0, w13_1, w13_2, w13_3⟩ := op_22 g13
    obtain rfl := op_one e13
    exact ⟨a0, a1, a2, a3, a4, a5, a6, a7, a8, a9, a10, a11, A12, c12, l12, A13, c13, l13, rfl, w0_0, w1_0, w2_0, w3_0, w4_0, w5_0, w6_0, w7_0, w8_0, w9_0, w10_0, w12_0, w12_1, w12_2, w12_3, w13_0, w13_1, w13_2, w13_3⟩
set_option maxRecDepth 10000 in
theorem op_35 (h : DataW.trod enc Tryz.prog W 0 (fun _ => true) true fuel 35 cs = some x) {G : Prop} (k_ : ∀ (a0 : Int) (a1 : Int) (a2 : Int) (a3 : Int) (a4 : Int) (A5 : Option Addr) (c5 : Nat) (l5 : List Int) (a6 : Int) (a7 : Int) (a8 : Int) (a9 : Int) (a10 : Int) (a11 : Int) (a12 : Int) (a13 : Int) (a14 : Int) (a15 : Int) (a16 : Int) (a17 : Int) (a18 : Int) (a19 : Int) (a20 : Int) (a21 : Int) (a22 : Int) (A23 : Option Addr) (c23 : Nat) (l23 : List Int) (A24 : Option Addr) (c24 : Nat) (l24 : List Int) (a25 : Int) (a26 : Int) (a27 : Int) (a28 : Int) (a29 : Int) (a30 : Int) (a31 : Int) (a32 : Int) (a33 : Int) (a34 : Int) (a35 : Int) (a36 : Int) (a37 : Int) (a38 : Int) (A39 : Option Addr) (c39 : Nat) (l39 : List S101) (A40 : Option Addr) (c40 : Nat) (l40 : List Int) (a41 : Int) (a42 : Int) (a43 : Int) (a44 : Int) (a45 : Int) (a46 : Int) (a47 : Int) (a48 : Int) (a49 : Int) (a50 : Int) (a51 : Int) (a52 : Bool) (A53 : Option Addr) (c53 : Nat) (l53 : List Int) (A54 : Option Addr) (c54 : Nat) (l54 : List Int) (A55 : Option Addr) (c55 : Nat) (l55 : List Int), cs = [.int .i64 a0, .int .i64 a1, .int .i64 a2, .int .i64 a3, .int .i64 a4, .slice A5 l5.length c5, .int .i64 a6, .int .i64 a7, .int .i64 a8, .int .i64 a9, .int .i64 a10, .int .i64 a11, .int .i64 a12, .int .i64 a13, .int .i64 a14, .int .i64 a15, .int .i64 a16, .int .i64 a17, .int .i64 a18, .int .i64 a19, .int .i64 a20, .int .i64 a21, .int .i64 a22, .slice A23 l23.length c23, .slice A24 l24.length c24, .int .i64 a25, .int .i64 a26, .int .i64 a27, .int .i64 a28, .int .i64 a29, .int .i64 a30, .int .i64 a31, .int .i64 a32, .int .i64 a33, .int .i64 a34, .int .i64 a35, .int .i64 a36, .int .i64 a37, .int .i64 a38, .slice A39 l39.length c39, .slice A40 l40.length c40, .int .i64 a41, .int .i64 a42, .int .i64 a43, .int .i64 a44, .int .i64 a45, .int .i64 a46, .int .i64 a47, .int .i64 a48, .int .i64 a49, .int .i64 a50, .int .i64 a51, .bool a52, .slice A53 l53.length c53, .slice A54 l54.length c54, .slice A55 l55.length c55] → (Lit.int .i64 a0).wf = true → (Lit.int .i64 a1).wf = true → (Lit.int .i64 a2).wf = true → (Lit.int .i64 a3).wf = true → (Lit.int .i64 a4).wf = true → Kd.C (Kd.int .u8) W A5 l5.length l5 → l5.length ≤ c5 → l5.length ≤ maxLen → (∀ n ∈ l5, (Lit.int .u8 n).wf = true) → (Lit.int .i64 a6).wf = true → (Lit.int .i64 a7).wf = true → (Lit.int .i64 a8).wf = true → (Lit.int .i64 a9).wf = true → (Lit.int .i64 a10).wf = true → (Lit.int .i64 a11).wf = true → (Lit.int .i64 a12).wf = true → (Lit.int .i64 a13).wf = true → (Lit.int .i64 a14).wf = true → (Lit.int .i64 a15).wf = true → (Lit.int .i64 a16).wf = true → (Lit.int .i64 a17).wf = true → (Lit.int .i64 a18).wf = true → (Lit.int .i64 a19).wf = true → (Lit.int .i64 a20).wf = true → (Lit.int .i64 a21).wf = true → (Lit.int .i64 a22).wf = true → Kd.C (Kd.int .u8) W A23 l23.length l23 → l23.length ≤ c23 → l23.length ≤ maxLen → (∀ n ∈ l23, (Lit.int .u8 n).wf = true) → Kd.C (Kd.int .u8) W A24 l24.length l24 → l24.length ≤ c24 → l24.length ≤ maxLen → (∀ n ∈ l24, (Lit.int .u8 n).wf = true) → (Lit.int .i64 a25).wf = true → (Lit.int .i64 a26).wf = true → (Lit.int .i64 a27).wf = true → (Lit.int .i64 a28).wf = true → (Lit.int .i64 a29).wf = true → (Lit.int .i64 a30).wf = true → (Lit.int .i64 a31).wf = true → (Lit.int .i64 a32).wf = true → (Lit.int .i64 a33).wf = true → (Lit.int .i64 a34).wf = true → (Lit.int .i64 a35).wf = true → (Lit.int .i64 a36).wf = true → (Lit.int .i64 a37).wf = true → (Lit.int .i64 a38).wf = true → Kd.C k101 W A39 l39.length l39 → l39.length ≤ c39 → l39.length ≤ maxLen → (∀ n ∈ l39, (Lit.int .i64 n.f0).wf = true ∧ n.f1.length ≤ maxLen ∧ (∀ y ∈ n.f1, (Lit.int .u8 y).wf = true)) → Kd.C (Kd.int .u8) W A40 l40.length l40 → l40.length ≤ c40 → l40.length ≤ maxLen → (∀ n ∈ l40, (Lit.int .u8 n).wf = true) → (Lit.int .i64 a41).wf = true → (Lit.int .i64 a42).wf = true → (Lit.int .i64 a43).wf = true → (Lit.int .i64 a44).wf = true → (Lit.int .i64 a45).wf = true → (Lit.int .i64 a46).wf = true → (Lit.int .i64 a47).wf = true → (Lit.int .i64 a48).wf = true → (Lit.int .i64 a49).wf = true → (Lit.int .i64 a50).wf = true → (Lit.int .i64 a51).wf = true → Kd.C (Kd.int .u8) W A53 l53.length l53 → l53.length ≤ c53 → l53.length ≤ maxLen → (∀ n ∈ l53, (Lit.int .u8 n).wf = true) → Kd.C (Kd.int .u8) W A54 l54.length l54 → l54.length ≤ c54 → l54.length ≤ maxLen → (∀ n ∈ l54, (Lit.int .u8 n).wf = true) → Kd.C (Kd.int .u8) W A55 l55.length l55 → l55.length ≤ c55 → l55.length ≤ maxLen → (∀ n ∈ l55, (Lit.int .u8 n).wf = true) → G) : G := by
  obtain ⟨xs, m, _, _, hl, hn, hg⟩ := DataW.trod_struct Tryz.underlying35 h
  rw [cells_35] at hl
  obtain ⟨v0, c0_, rfl, l0_⟩ := op_cons hl
  obtain ⟨v1, c1_, rfl, l1_⟩ := op_cons l0_
  obtain ⟨v2, c2_, rfl, l2_⟩ := op_cons l1_
  obtain ⟨v3, c3_, rfl, l3_⟩ := op_cons l2_
  obtain ⟨v4, c4_, rfl, l4_⟩ := op_cons l3_
  obtain ⟨v5, c5_, rfl, l5_⟩ := op_cons l4_
  obtain ⟨v6, c6_, rfl, l6_⟩ := op_cons l5_
  obtain ⟨v7, c7_, rfl, l7_⟩ := op_cons l6_
  obtain ⟨v8, c8_, rfl, l8_⟩ := op_cons l7_
  obtain ⟨v9, c9_, rfl, l9_⟩ := op_cons l8_
  obtain ⟨v10, c10_, rfl, l10_⟩ := op_cons l9_
  obtain ⟨v11, c11_, rfl, l11_⟩ := op_cons l10_
  obtain ⟨v12, c12_, rfl, l12_⟩ := op_cons l11_
  obtain ⟨v13, c13_, rfl, l13_⟩ := op_cons l12_
  obtain ⟨v14, c14_, rfl, l14_⟩ := op_cons l13_
  obtain ⟨v15, c15_, rfl, l15_⟩ := op_cons l14_
  obtain ⟨v16, c16_, rfl, l16_⟩ := op_cons l15_
  obtain ⟨v17, c17_, rfl, l17_⟩ := op_cons l16_
  obtain ⟨v18, c18_, rfl, l18_⟩ := op_cons l17_
  obtain ⟨v19, c19_, rfl, l19_⟩ := op_cons l18_
  obtain ⟨v20, c20_, rfl, l20_⟩ := op_cons l19_
  obtain ⟨v21, c21_, rfl, l21_⟩ := op_cons l20_
  obtain ⟨v22, c22_, rfl, l22_⟩ := op_cons l21_
  obtain ⟨v23, c23_, rfl, l23_⟩ := op_cons l22_
  obtain ⟨v24, c24_, rfl, l24_⟩ := op_cons l23_
  obtain ⟨v25, c25_, rfl, l25_⟩ := op_cons l24_
  obtain ⟨v26, c26_, rfl, l26_⟩ := op_cons l25_
  obtain ⟨v27, c27_, rfl, l27_⟩ := op_cons l26_
  obtain ⟨v28, c28_, rfl, l28_⟩ := op_cons l27_
  obtain ⟨v29, c29_, rfl, l29_⟩ := op_cons l28_
  obtain ⟨v30, c30_, rfl, l30_⟩ := op_cons l29_
  obtain ⟨v31, c31_, rfl, l31_⟩ := op_cons l30_
  obtain ⟨v32, c32_, rfl, l32_⟩ := op_cons l31_
  obtain ⟨v33, c33_, rfl, l33_⟩ := op_cons l32_
  obtain ⟨v34, c34_, rfl, l34_⟩ := op_cons l33_
  obtain ⟨v35, c35_, rfl, l35_⟩ := op_cons l34_
  obtain ⟨v36, c36_, rfl, l36_⟩ := op_cons l35_
  obtain ⟨v37, c37_, rfl, l37_⟩ := op_cons l36_
  obtain ⟨v38, c38_, rfl, l38_⟩ := op_cons l37_
  obtain ⟨v39, c39_, rfl, l39_⟩ := op_cons l38_
  obtain ⟨v40, c40_, rfl, l40_⟩ := op_cons l39_
  obtain ⟨v41, c41_, rfl, l41_⟩ := op_cons l40_
  obtain ⟨v42, c42_, rfl, l42_⟩ := op_cons l41_
  obtain ⟨v43, c43_, rfl, l43_⟩ := op_cons l42_
  obtain ⟨v44, c44_, rfl, l44_⟩ := op_cons l43_
  obtain ⟨v45, c45_, rfl, l45_⟩ := op_cons l44_
  obtain ⟨v46, c46_, rfl, l46_⟩ := op_cons l45_
  obtain ⟨v47, c47_, rfl, l47_⟩ := op_cons l46_
  obtain ⟨v48, c48_, rfl, l48_⟩ := op_cons l47_
  obtain ⟨v49, c49_, rfl, l49_⟩ := op_cons l48_
  obtain ⟨v50, c50_, rfl, l50_⟩ := op_cons l49_
  obtain ⟨v51, c51_, rfl, l51_⟩ := op_cons l50_
  obtain ⟨v52, c52_, rfl, l52_⟩ := op_cons l51_
  obtain ⟨v53, c53_, rfl, l53_⟩ := op_cons l52_
  obtain ⟨v54, c54_, rfl, l54_⟩ := op_cons l53_
  obtain ⟨v55, c55_, rfl, l55_⟩ := op_cons l54_
  obtain rfl := List.eq_nil_of_length_eq_zero l55_
  obtain ⟨x0, hx0⟩ := op_field hn (show 0 < _ from by decide)
  have g0 : DataW.trod enc Tryz.prog W 0 (fun _ => true) true m 3 ((List.drop 0 _).take (Tryz.prog.cellsOf 3)) = some x0 := (hg 0 _ rfl).trans hx0
  rw [cells_3] at g0
  change DataW.trod enc Tryz.prog W 0 (fun _ => true) true m 3 [v0] = some x0 at g0
  obtain ⟨x1, hx1⟩ := op_field hn (show 1 < _ from by decide)
  have g1 : DataW.trod enc Tryz.prog W 0 (fun _ => true) true m 24 ((List.drop 1 _).take (Tryz.prog.cellsOf 24)) = some x1 := (hg 1 _ rfl).trans hx1
  rw [cells_24] at g1
  change DataW.trod enc Tryz.prog W 0 (fun _ => true) true m 24 [v1, v2, v3, v4, v5] = some x1 at g1
  obtain ⟨x2, hx2⟩ := op_field hn (show 2 < _ from by decide)
  have g2 : DataW.trod enc Tryz.prog W 0 (fun _ => true) true m 28 ((List.drop 6 _).take (Tryz.prog.cellsOf 28)) = some x2 := (hg 2 _ rfl).trans hx2
  rw [cells_28] at g2
  change DataW.trod enc Tryz.prog W 0 (fun _ => true) true m 28 [v6, v7, v8, v9, v10, v11, v12, v13, v14, v15, v16, v17, v18, v19, v20, v21, v22, v23, v24] = some x2 at g2
  obtain ⟨x3, hx3⟩ := op_field hn (show 3 < _ from by decide)
  have g3 : DataW.trod enc Tryz.prog W 0 (fun _ => true) true m 31 ((List.drop 25 _).take (Tryz.prog.cellsOf 31)) = some x3 := (hg 3 _ rfl).trans hx3
  rw [cells_31] at g3
  change DataW.trod enc Tryz.prog W 0 (fun _ => true) true m 31 [v25, v26, v27, v28, v29, v30, v31, v32, v33, v34, v35, v36, v37, v38, v39, v40] = some x3 at g3
  obtain ⟨x4, hx4⟩ := op_field hn (show 4 < _ from by decide)
  have g4 : DataW.trod enc Tryz.prog W 0 (fun _ => true) true m 33 ((List.drop 41 _).take (Tryz.prog.cellsOf 33)) = some x4 := (hg 4 _ rfl).trans hx4
  rw [cells_33] at g4
  change DataW.trod enc Tryz.prog W 0 (fun _ => true) true m 33 [v41, v42, v43, v44, v45, v46, v47, v48, v49, v50, v51, v52, v53, v54] = some x4 at g4
  obtain ⟨x5, hx5⟩ := op_field hn (show 5 < _ from by decide)
  have g5 : DataW.trod enc Tryz.prog W 0 (fun _ => true) true m 22 ((List.drop 55 _).take (Tryz.prog.cellsOf 22)) = some x5 := (hg 5 _ rfl).trans hx5
  rw [cells_22] at g5
  change DataW.trod enc Tryz.prog W 0 (fun _ => true) true m 22 [v55] = some x5 at g5
  obtain ⟨a0, e0, _, w0_0⟩ := DataW.trod_int Tryz.underlying3 g0
  obtain rfl := op_one e0
  obtain ⟨a1, a2, a3, a4, A5, c5, l5, e1, w1_0, w2_0, w3_0, w4_0, w5_0, w5_1, w5_2, w5_3⟩ := op_24 g1
  simp only [List.cons.injEq, and_true] at e1
  obtain ⟨rfl, rfl, rfl, rfl, rfl⟩ := e1
  obtain ⟨a6, a7, a8, a9, a10, a11, a12, a13, a14, a15, a16, a17, a18, a19, a20, a21, a22, A23, c23, l23, A24, c24, l24, e2, w6_0, w7_0, w8_0, w9_0, w10_0, w11_0, w12_0, w13_0, w14_0, w15_0, w16_0, w17_0, w18_0, w19_0, w20_0, w21_0, w22_0, w23_0, w23_1, w23_2, w23_3, w24_0, w24_1, w24_2, w24_3⟩ := op_28 g2
  simp only [List.cons.injEq, and_true] at e2
  obtain ⟨rfl, rfl, rfl, rfl, rfl, rfl, rfl, rfl, rfl, rfl, rfl, rfl, rfl, rfl, rfl, rfl, rfl, rfl, rfl⟩ := e2
  obtain ⟨a25, a26, a27, a28, a29, a30, a31, a32, a33, a34, a35, a36, a37, a38, A39, c39, l39, A40, c40, l40, e3, w25_0, w26_0, w27_0, w28_0, w29_0, w30_0, w31_0, w32_0, w33_0, w34_0, w35_0, w36_0, w37_0, w38_0, w39_0, w39_1, w39_2, w39_3, w40_0, w40_1, w40_2, w40_3⟩ := op_31 g3
  simp only [List.cons.injEq, and_true] at e3
  obtain ⟨rfl, rfl, rfl, rfl, rfl, rfl, rfl, rfl, rfl, rfl, rfl, rfl, rfl, rfl, rfl, rfl⟩ := e3
  obtain ⟨a41, a42, a43, a44, a45, a46, a47, a48, a49, a50, a51, a52, A53, c53, l53, A54, c54, l54, e4, w41_0, w42_0, w43_0, w44_0, w45_0, w46_0, w47_0, w48_0, w49_0, w50_0, w51_0, w53_0, w53_1, w53_2, w53_3, w54_0, w54_1, w54_2, w54_3⟩ := op_33 g4
  simp only [List.cons.injEq, and_true] at e4
  obtain ⟨rfl, rfl, rfl, rfl, rfl, rfl, rfl, rfl, rfl, rfl, rfl, rfl, rfl, rfl⟩ := e4
  obtain ⟨A55, c55, l55, e5, w55_0, w55_1, w55_2, w55_3⟩ := op_22 g5
  obtain rfl := op_one e5
  exact k_ a0 a1 a2 a3 a4 A5 c5 l5 a6 a7 a8 a9 a10 a11 a12 a13 a14 a15 a16 a17 a18 a19 a20 a21 a22 A23 c23 l23 A24 c24 l24 a25 a26 a27 a28 a29 a30 a31 a32 a33 a34 a35 a36 a37 a38 A39 c39 l39 A40 c40 l40 a41 a42 a43 a44 a45 a46 a47 a48 a49 a50 a51 a52 A53 c53 l53 A54 c54 l54 A55 c55 l55 rfl w0_0 w1_0 w2_0 w3_0 w4_0 w5_0 w5_1 w5_2 w5_3 w6_0 w7_0 w8_0 w9_0 w10_0 w11_0 w12_0 w13_0 w14_0 w15_0 w16_0 w17_0 w18_0 w19_0 w20_0 w21_0 w22_0 w23_0 w23_1 w23_2 w23_3 w24_0 w24_1 w24_2 w24_3 w25_0 w26_0 w27_0 w28_0 w29_0 w30_0 w31_0 w32_0 w33_0 w34_0 w35_0 w36_0 w37_0 w38_0 w39_0 w39_1 w39_2 w39_3 w40_0 w40_1 w40_2 w40_3 w41_0 w42_0 w43_0 w44_0 w45_0 w46_0 w47_0 w48_0 w49_0 w50_0 w51_0 w53_0 w53_1 w53_2 w53_3 w54_0 w54_1 w54_2 w54_3 w55_0 w55_1 w55_2 w55_3
end
set_option maxRecDepth 100000 in
theorem lifted (os : Os) (started : os.Started) (H : Type) (enc : TypeId × Value → H) :
    ReturnsInHanded {} Tryz.checked os 5 .any (Rows.fnExactPacketOkSpec.pre6 enc Tryz.prog Tryz.f5 Rows.fnExactPacketOkRow.domain false) (Rows.fnExactPacketOkSpec.post enc Tryz.prog Tryz.f5 false true false false) := by
  refine returnsInHanded_of_change_sized (C := Tryz.checked) own started (by kernel_rfl) Tryz.func5
    (ChangeSpec.witness6 (enc := enc) (C := Tryz.checked) false ⟨#[], #[.agg #[.int .i64 0, .int .i64 0, .int .i64 0, .int .i64 0, .int .i64 0, .slice none 0 0, .int .i64 0, .int .i64 0, .int .i64 0, .int .i64 0, .int .i64 0, .int .i64 0, .int .i64 0, .int .i64 0, .int .i64 0, .int .i64 0, .int .i64 0, .int .i64 0, .int .i64 0, .int .i64 0, .int .i64 0, .int .i64 0, .int .i64 0, .slice none 0 0, .slice none 0 0, .int .i64 0, .int .i64 0, .int .i64 0, .int .i64 0, .int .i64 0, .int .i64 0, .int .i64 0, .int .i64 0, .int .i64 0, .int .i64 0, .int .i64 0, .int .i64 0, .int .i64 0, .int .i64 0, .slice none 0 0, .slice none 0 0, .int .i64 0, .int .i64 0, .int .i64 0, .int .i64 0, .int .i64 0, .int .i64 0, .int .i64 0, .int .i64 0, .int .i64 0, .int .i64 0, .int .i64 0, .bool false, .slice none 0 0, .slice none 0 0, .slice none 0 0]], []⟩ 8 (by kernel_rfl) (by kernel_rfl) (by kernel_rfl) (by kernel_rfl)) ?_
  intro W base args ds gs before hval0 hW hcnd hsz0 _
  have hsz : (DataW.weightsEach Tryz.prog (Tryz.f5.params.toList ++ Rows.fnExactPacketOkSpec.plain.varTypes Tryz.prog) (ds ++ gs)).all (· ≤ reachBytes) = true := hsz0
  have hval : ∀ (j : Nat) t v, Tryz.f5.params[j]? = some t → args[j]? = some v → Value.okWide Tryz.prog W .any base t v := hval0
  have hW' := hW
  obtain ⟨p, q, hA0, hV, rfl, hfz, hnd⟩ := hW
  have hA : DataW.TrodAll enc Tryz.prog W 0 (fun _ => true) true Tryz.f5.params.toList args.toList ds p := hA0
  rw [Tryz.params5] at hA hval hsz
  obtain ⟨v0, vs0, d0, ds0, p0, q0, hargs, rfl, rfl, h0, r0⟩ := trodAll_cons hA
  obtain ⟨rfl, rfl, rfl⟩ := trodAll_nil r0
  obtain rfl : args = #[v0] := by cases args; simp_all
  obtain ⟨rfl, rfl⟩ := trodVars_none hV
  have k0 := h0
  have lt0 : ∀ x ∈ p0, x.block < W.heap.size := by obtain ⟨m, hm⟩ := k0; exact DataW.trod_lt m _ _ _ hm
  obtain ⟨cs0, rfl, _⟩ := okWide_struct Tryz.underlying35 (hval 0 35 v0 rfl rfl)
  obtain ⟨fu0, hf0⟩ := h0
  refine op_35 hf0 ?_
  intro a0_0 a0_1 a0_2 a0_3 a0_4 A0_5 c0_5 l0_5 a0_6 a0_7 a0_8 a0_9 a0_10 a0_11 a0_12 a0_13 a0_14 a0_15 a0_16 a0_17 a0_18 a0_19 a0_20 a0_21 a0_22 A0_23 c0_23 l0_23 A0_24 c0_24 l0_24 a0_25 a0_26 a0_27 a0_28 a0_29 a0_30 a0_31 a0_32 a0_33 a0_34 a0_35 a0_36 a0_37 a0_38 A0_39 c0_39 l0_39 A0_40 c0_40 l0_40 a0_41 a0_42 a0_43 a0_44 a0_45 a0_46 a0_47 a0_48 a0_49 a0_50 a0_51 a0_52 A0_53 c0_53 l0_53 A0_54 c0_54 l0_54 A0_55 c0_55 l0_55 e0 w0_0_0 w0_1_0 w0_2_0 w0_3_0 w0_4_0 w0_5_0 w0_5_1 w0_5_2 w0_5_3 w0_6_0 w0_7_0 w0_8_0 w0_9_0 w0_10_0 w0_11_0 w0_12_0 w0_13_0 w0_14_0 w0_15_0 w0_16_0 w0_17_0 w0_18_0 w0_19_0 w0_20_0 w0_21_0 w0_22_0 w0_23_0 w0_23_1 w0_23_2 w0_23_3 w0_24_0 w0_24_1 w0_24_2 w0_24_3 w0_25_0 w0_26_0 w0_27_0 w0_28_0 w0_29_0 w0_30_0 w0_31_0 w0_32_0 w0_33_0 w0_34_0 w0_35_0 w0_36_0 w0_37_0 w0_38_0 w0_39_0 w0_39_1 w0_39_2 w0_39_3 w0_40_0 w0_40_1 w0_40_2 w0_40_3 w0_41_0 w0_42_0 w0_43_0 w0_44_0 w0_45_0 w0_46_0 w0_47_0 w0_48_0 w0_49_0 w0_50_0 w0_51_0 w0_53_0 w0_53_1 w0_53_2 w0_53_3 w0_54_0 w0_54_1 w0_54_2 w0_54_3 w0_55_0 w0_55_1 w0_55_2 w0_55_3
  obtain ⟨cs0⟩ := cs0
  obtain rfl : cs0 = _ := e0
  clear hA0 hval0 hsz0 hsz
  obtain ⟨k, hk⟩ := Pure.FnExactPacketOk a0_0 a0_1 a0_2 a0_3 a0_4 l0_5 a0_6 a0_7 a0_8 a0_9 a0_10 a0_11 a0_12 a0_13 a0_14 a0_15 a0_16 a0_17 a0_18 a0_19 a0_20 a0_21 a0_22 l0_23 l0_24 a0_25 a0_26 a0_27 a0_28 a0_29 a0_30 a0_31 a0_32 a0_33 a0_34 a0_35 a0_36 a0_37 a0_38 l0_39 l0_40 a0_41 a0_42 a0_43 a0_44 a0_45 a0_46 a0_47 a0_48 a0_49 a0_50 a0_51 a0_52 l0_53 l0_54 l0_55 w0_0_0 w0_1_0 w0_2_0 w0_3_0 w0_4_0 w0_5_2 w0_5_3 w0_6_0 w0_7_0 w0_8_0 w0_9_0 w0_10_0 w0_11_0 w0_12_0 w0_13_0 w0_14_0 w0_15_0 w0_16_0 w0_17_0 w0_18_0 w0_19_0 w0_20_0 w0_21_0 w0_22_0 w0_23_2 w0_23_3 w0_24_2 w0_24_3 w0_25_0 w0_26_0 w0_27_0 w0_28_0 w0_29_0 w0_30_0 w0_31_0 w0_32_0 w0_33_0 w0_34_0 w0_35_0 w0_36_0 w0_37_0 w0_38_0 w0_39_2 w0_39_3 w0_40_2 w0_40_3 w0_41_0 w0_42_0 w0_43_0 w0_44_0 w0_45_0 w0_46_0 w0_47_0 w0_48_0 w0_49_0 w0_50_0 w0_51_0 w0_53_2 w0_53_3 w0_54_2 w0_54_3 w0_55_2 w0_55_3
  refine (laws_FnExactPacketOk.calls k a0_0 a0_1 a0_2 a0_3 a0_4 _ _ l0_5 a0_6 a0_7 a0_8 a0_9 a0_10 a0_11 a0_12 a0_13 a0_14 a0_15 a0_16 a0_17 a0_18 a0_19 a0_20 a0_21 a0_22 _ _ l0_23 _ _ l0_24 a0_25 a0_26 a0_27 a0_28 a0_29 a0_30 a0_31 a0_32 a0_33 a0_34 a0_35 a0_36 a0_37 a0_38 _ _ l0_39 _ _ l0_40 a0_41 a0_42 a0_43 a0_44 a0_45 a0_46 a0_47 a0_48 a0_49 a0_50 a0_51 a0_52 _ _ l0_53 _ _ l0_54 _ _ l0_55 true W w0_5_0 w0_5_1 w0_23_0 w0_23_1 w0_24_0 w0_24_1 w0_39_0 w0_39_1 w0_40_0 w0_40_1 w0_53_0 w0_53_1 w0_54_0 w0_54_1 w0_55_0 w0_55_1 hk).mono fun e W' ⟨he, bel0⟩ => ?_
  have bel : Below W.heap.size W W' := bel0
  subst he
  exact ⟨_, rfl, _, _, _, [], _, [], hW', trodAll_mk1 (shut_bool Tryz.underlying4 _), (trodAll_cons_mk (Below.trod laidOut (by kernel_rfl) (of_decide_eq_true (by kernel_rfl)) k0 bel lt0) trodAll_mk0), rfl, bel.frame _, fun h => by cases h⟩
theorem over : Rows.fnExactPacketOkRow.holds Tryz.pinned (OpenSpec.ofChange Rows.fnExactPacketOkSpec) :=
  OpenClaim.holds_of_wide 5 Tryz.f5 rfl rfl rfl rfl rfl rfl rfl ⟨rfl, rfl, rfl, rfl, rfl⟩ rfl rfl rfl rfl rfl (by kernel_rfl) Tryz.func5 (by kernel_rfl)
    (of_decide_eq_true (by kernel_rfl)) (by unfold Func.isWrapper; first | (rw [if_pos (by decide +kernel)]; kernel_rfl) | (rw [if_neg (by decide +kernel)]; exact ⟨rfl, rfl⟩))
    (fun os started H enc _ => lifted os started H enc)
theorem proved : Rows.FnExactPacketOkSaid := over
#print axioms proved
end Go.Proofs.YtffkgndghbdgnaaGreat.fnExactPacketOk
namespace Go.Proofs.YtffkgndghbdgnaaGreat
theorem fnExactPacketOk_holds : Rows.FnExactPacketOkSaid := fnExactPacketOk.proved
end Go.Proofs.YtffkgndghbdgnaaGreat
