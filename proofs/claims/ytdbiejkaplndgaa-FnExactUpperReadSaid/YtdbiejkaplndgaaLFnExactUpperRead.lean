/- The row. -/
import Derived.Test.YtdbiejkaplndgaaRows
import Derived.Test.YtdbiejkaplndgaaGFnExactUpperReadx
import Derived.Test.YtdbiejkaplndgaaQFnExactUpperRead
import Derived.Test.YtdbiejkaplndgaaZOpFnExactUpperRead
import Derived.Test.YtdbiejkaplndgaaVFnExactUpperRead
import Derived.WalkKit
import Derived.ProofKit
import Derived.OpenShut
import Derived.ShutString
import Derived.ChangeOld
import Derived.Below
import Derived.SizedLaws
namespace Go.Proofs.Ytdbiejkaplndgaa.fnExactUpperRead
open Go.ChangeShapes Go.WideShapes Go.ChangeAt Go.RowKit Go.Proofs.YtdbiejkaplndgaaW.PrintWords Go.Proofs.Ytdbiejkaplndgaa.Op Go.Proofs.Ytdbiejkaplndgaa.FFnExactUpperRead
open Go.ChangeMaps (open_string shut_string)
set_option linter.unusedVariables false
theorem own : ownKnob Try.prog.godebug = none := by kernel_rfl
theorem laidOut : laidOutB Try.prog = true := by kernel_rfl
theorem cells_3 : Try.prog.cellsOf 3 = 1 := by kernel_rfl
theorem cells_5 : Try.prog.cellsOf 5 = 1 := by kernel_rfl
theorem cells_36 : Try.prog.cellsOf 36 = 5 := by kernel_rfl
section
variable {H : Type} {enc : TypeId × Value → H} {W : World} {fuel : Nat} {cs : List Value} {x : DataW H × List MemPlace}
theorem op_22 (h : DataW.trod enc Try.prog W 0 (fun _ => true) true fuel 22 cs = some x) : ∃ (A : Option Addr) (c : Nat) (l : List Int), cs = [.slice A l.length c] ∧ Kd.C (Kd.int .u8) W A l.length l ∧ l.length ≤ c ∧ l.length ≤ maxLen ∧ ∀ n ∈ l, (Lit.int .u8 n).wf = true :=
 op_ints Try.underlying22 Try.underlying5 cells_5 h
set_option maxRecDepth 10000 in
theorem op_36 (h : DataW.trod enc Try.prog W 0 (fun _ => true) true fuel 36 cs = some x) : ∃ (a0 : Int) (a1 : Int) (a2 : Int) (a3 : Int) (a4 : Int), cs = [.int .i64 a0, .int .i64 a1, .int .i64 a2, .int .i64 a3, .int .i64 a4] ∧ (Lit.int .i64 a0).wf = true ∧ (Lit.int .i64 a1).wf = true ∧ (Lit.int .i64 a2).wf = true ∧ (Lit.int .i64 a3).wf = true ∧ (Lit.int .i64 a4).wf = true := by
 obtain ⟨xs, m, _, _, hl, hn, hg⟩ := DataW.trod_struct Try.underlying36 h
 rw [cells_36] at hl
 match cs, hl with
 | [v0, v1, v2, v3, v4], _ =>
  obtain ⟨x0, hx0⟩ := op_field hn (show 0 < _ from by decide)
  have g0 : DataW.trod enc Try.prog W 0 (fun _ => true) true m 3 (([v0, v1, v2, v3, v4].drop 0).take (Try.prog.cellsOf 3)) = some x0 := (hg 0 _ rfl).trans hx0
  rw [cells_3] at g0
  change DataW.trod enc Try.prog W 0 (fun _ => true) true m 3 [v0] = some x0 at g0
  obtain ⟨x1, hx1⟩ := op_field hn (show 1 < _ from by decide)
  have g1 : DataW.trod enc Try.prog W 0 (fun _ => true) true m 3 (([v0, v1, v2, v3, v4].drop 1).take (Try.prog.cellsOf 3)) = some x1 := (hg 1 _ rfl).trans hx1
  rw [cells_3] at g1
  change DataW.trod enc Try.prog W 0 (fun _ => true) true m 3 [v1] = some x1 at g1
  obtain ⟨x2, hx2⟩ := op_field hn (show 2 < _ from by decide)
  have g2 : DataW.trod enc Try.prog W 0 (fun _ => true) true m 3 (([v0, v1, v2, v3, v4].drop 2).take (Try.prog.cellsOf 3)) = some x2 := (hg 2 _ rfl).trans hx2
  rw [cells_3] at g2
  change DataW.trod enc Try.prog W 0 (fun _ => true) true m 3 [v2] = some x2 at g2
  obtain ⟨x3, hx3⟩ := op_field hn (show 3 < _ from by decide)
  have g3 : DataW.trod enc Try.prog W 0 (fun _ => true) true m 3 (([v0, v1, v2, v3, v4].drop 3).take (Try.prog.cellsOf 3)) = some x3 := (hg 3 _ rfl).trans hx3
  rw [cells_3] at g3
  change DataW.trod enc Try.prog W 0 (fun _ => true) true m 3 [v3] = some x3 at g3
  obtain ⟨x4, hx4⟩ := op_field hn (show 4 < _ from by decide)
  have g4 : DataW.trod enc Try.prog W 0 (fun _ => true) true m 3 (([v0, v1, v2, v3, v4].drop 4).take (Try.prog.cellsOf 3)) = some x4 := (hg 4 _ rfl).trans hx4
  rw [cells_3] at g4
  change DataW.trod enc Try.prog W 0 (fun _ => true) true m 3 [v4] = some x4 at g4
  obtain ⟨a0, e0, _, w0_0⟩ := DataW.trod_int Try.underlying3 g0
  obtain rfl := op_one e0
  obtain ⟨a1, e1, _, w1_0⟩ := DataW.trod_int Try.underlying3 g1
  obtain rfl := op_one e1
  obtain ⟨a2, e2, _, w2_0⟩ := DataW.trod_int Try.underlying3 g2
  obtain rfl := op_one e2
  obtain ⟨a3, e3, _, w3_0⟩ := DataW.trod_int Try.underlying3 g3
  obtain rfl := op_one e3
  obtain ⟨a4, e4, _, w4_0⟩ := DataW.trod_int Try.underlying3 g4
  obtain rfl := op_one e4
  exact ⟨a0, a1, a2, a3, a4, rfl, w0_0, w1_0, w2_0, w3_0, w4_0⟩
end
set_option maxRecDepth 100000 in
theorem lifted (os : Os) (started : os.Started) (H : Type) (enc : TypeId × Value → H) :
  ReturnsInHanded {} Try.checked os 7 .any (Rows.fnExactUpperReadSpec.pre6 enc Try.prog Try.f7 Rows.fnExactUpperReadRow.domain false) (Rows.fnExactUpperReadSpec.post enc Try.prog Try.f7 false true false false) := by
 refine returnsInHanded_of_change_sized (C := Try.checked) own started (by kernel_rfl) Try.func7
  (ChangeSpec.witness6 (enc := enc) (C := Try.checked) false ⟨#[], #[.slice none 0 0, .int .i64 0, .agg #[.int .i64 0, .int .i64 0, .int .i64 0, .int .i64 0, .int .i64 0], .agg #[.int .i64 0, .int .i64 0, .int .i64 0, .int .i64 0, .int .i64 0]], []⟩ 8 (by kernel_rfl) (by kernel_rfl) (by kernel_rfl) (by kernel_rfl)) ?_
 intro W base args ds gs before hval0 hW hcnd hsz0 _
 have hsz : (DataW.weightsEach Try.prog (Try.f7.params.toList ++ Rows.fnExactUpperReadSpec.plain.varTypes Try.prog) (ds ++ gs)).all (· ≤ reachBytes) = true := hsz0
 have hval : ∀ (j : Nat) t v, Try.f7.params[j]? = some t → args[j]? = some v → Value.okWide Try.prog W .any base t v := hval0
 have hW' := hW
 obtain ⟨p, q, hA0, hV, rfl, hfz, hnd⟩ := hW
 have hA : DataW.TrodAll enc Try.prog W 0 (fun _ => true) true Try.f7.params.toList args.toList ds p := hA0
 rw [Try.params7] at hA hval hsz
 obtain ⟨v0, vs0, d0, ds0, p0, q0, hargs, rfl, rfl, h0, r0⟩ := trodAll_cons hA
 obtain ⟨v1, vs1, d1, ds1, p1, q1, rfl, rfl, rfl, h1, r1⟩ := trodAll_cons r0
 obtain ⟨v2, vs2, d2, ds2, p2, q2, rfl, rfl, rfl, h2, r2⟩ := trodAll_cons r1
 obtain ⟨v3, vs3, d3, ds3, p3, q3, rfl, rfl, rfl, h3, r3⟩ := trodAll_cons r2
 obtain ⟨rfl, rfl, rfl⟩ := trodAll_nil r3
 obtain rfl : args = #[v0, v1, v2, v3] := by cases args; simp_all
 obtain ⟨rfl, rfl⟩ := trodVars_none hV
 have k0 := h0
 have lt0 : ∀ x ∈ p0, x.block < W.heap.size := by obtain ⟨m, hm⟩ := k0; exact DataW.trod_lt m _ _ _ hm
 obtain ⟨al0, len0, cap0, rfl⟩ := okWide_slice Try.underlying22 (hval 0 22 v0 rfl rfl)
 have y0 : len0 * 1 ≤ 140737488351232 := sized_ints hsz (j := 0) (t := 22) rfl rfl Try.underlying22 Try.underlying5 (by kernel_rfl) (B := 1) (by kernel_rfl) h0
 obtain ⟨fu0, hf0⟩ := h0
 obtain ⟨A0, c0, l0, e0, w0_0_0, w0_0_1, w0_0_2, w0_0_3⟩ := op_22 hf0
 obtain ⟨rfl, rfl, rfl⟩ := Value.slice.inj (op_one e0)
 obtain ⟨a1, rfl, rfl, rfl, w1⟩ := open_int Try.underlying3 (hval 1 3 v1 rfl rfl) h1
 have k2 := h2
 have lt2 : ∀ x ∈ p2, x.block < W.heap.size := by obtain ⟨m, hm⟩ := k2; exact DataW.trod_lt m _ _ _ hm
 obtain ⟨cs2, rfl, _⟩ := okWide_struct Try.underlying36 (hval 2 36 v2 rfl rfl)
 obtain ⟨fu2, hf2⟩ := h2
 obtain ⟨a2_0, a2_1, a2_2, a2_3, a2_4, e2, w2_0_0, w2_1_0, w2_2_0, w2_3_0, w2_4_0⟩ := op_36 hf2
 obtain ⟨cs2⟩ := cs2
 obtain rfl : cs2 = _ := e2
 have k3 := h3
 have lt3 : ∀ x ∈ p3, x.block < W.heap.size := by obtain ⟨m, hm⟩ := k3; exact DataW.trod_lt m _ _ _ hm
 obtain ⟨cs3, rfl, _⟩ := okWide_struct Try.underlying36 (hval 3 36 v3 rfl rfl)
 obtain ⟨fu3, hf3⟩ := h3
 obtain ⟨a3_0, a3_1, a3_2, a3_3, a3_4, e3, w3_0_0, w3_1_0, w3_2_0, w3_3_0, w3_4_0⟩ := op_36 hf3
 obtain ⟨cs3⟩ := cs3
 obtain rfl : cs3 = _ := e3
 clear hA0 hval0 hsz0 hsz
 obtain ⟨k, hk⟩ := Pure.FnExactUpperRead l0 a1 a2_0 a2_1 a2_2 a2_3 a2_4 a3_0 a3_1 a3_2 a3_3 a3_4 w0_0_2 w0_0_3 w1 w2_0_0 w2_1_0 w2_2_0 w2_3_0 w2_4_0 w3_0_0 w3_1_0 w3_2_0 w3_3_0 w3_4_0
 refine (laws_FnExactUpperRead.calls k _ _ l0 a1 a2_0 a2_1 a2_2 a2_3 a2_4 a3_0 a3_1 a3_2 a3_3 a3_4 true W w0_0_0 w0_0_1 hk).mono fun e W' ⟨he, bel0⟩ => ?_
 have bel : Below W.heap.size W W' := bel0
 subst he
 exact ⟨_, rfl, _, _, _, [], _, [], hW', trodAll_mk1 (shut_bool Try.underlying4 _), (trodAll_cons_mk (Below.trod laidOut (by kernel_rfl) (of_decide_eq_true (by kernel_rfl)) k0 bel lt0) (trodAll_cons_mk (shut_int Try.underlying3 w1) (trodAll_cons_mk (Below.trod laidOut (by kernel_rfl) (of_decide_eq_true (by kernel_rfl)) k2 bel lt2) (trodAll_cons_mk (Below.trod laidOut (by kernel_rfl) (of_decide_eq_true (by kernel_rfl)) k3 bel lt3) trodAll_mk0)))), rfl, bel.frame _, fun h => by cases h⟩
theorem over : Rows.fnExactUpperReadRow.holds Try.pinned (OpenSpec.ofChange Rows.fnExactUpperReadSpec) :=
 OpenClaim.holds_of_wide 7 Try.f7 rfl rfl rfl rfl rfl rfl rfl ⟨rfl, rfl, rfl, rfl, rfl⟩ rfl rfl rfl rfl rfl (by kernel_rfl) Try.func7 (by kernel_rfl)
  (of_decide_eq_true (by kernel_rfl)) (by unfold Func.isWrapper; first | (rw [if_pos (by decide +kernel)]; kernel_rfl) | (rw [if_neg (by decide +kernel)]; exact ⟨rfl, rfl⟩))
  (fun os started H enc _ => lifted os started H enc)
theorem proved : Rows.FnExactUpperReadSaid := over
#print axioms proved
end Go.Proofs.Ytdbiejkaplndgaa.fnExactUpperRead
namespace Go.Proofs.Ytdbiejkaplndgaa
theorem fnExactUpperRead_holds : Rows.FnExactUpperReadSaid := fnExactUpperRead.proved
end Go.Proofs.Ytdbiejkaplndgaa
