/- The row of FnExactEtherBytes, out of its pure statement and the contract of its function. It holds for all arguments; no condition of its own. -/
import Derived.Test.YthkocmpilkoibaaRows
import Derived.Test.YthkocmpilkoibaaFFnExactEtherBytesx
import Derived.Test.YthkocmpilkoibaaPureFnExactEtherBytes
import Derived.Test.YthkocmpilkoibaaOp
import Derived.Test.YthkocmpilkoibaaWSized
import Derived.WalkKit
import Derived.ProofKit
import Derived.OpenShut
import Derived.ShutString
import Derived.ChangeOld
import Derived.Below
import Derived.SizedLaws
namespace Go.Proofs.Ythkocmpilkoibaa.fnExactEtherBytes
open Go.ChangeShapes Go.WideShapes Go.ChangeAt Go.RowKit Go.Proofs.YthkocmpilkoibaaW.PrintWords Go.Proofs.Ythkocmpilkoibaa.Op Go.Proofs.Ythkocmpilkoibaa.FFnExactEtherBytes
open Go.ChangeMaps (open_string shut_string)
set_option linter.unusedVariables false
theorem own : ownKnob Try.prog.godebug = none := by kernel_rfl
theorem laidOut : laidOutB Try.prog = true := by kernel_rfl
theorem cells_3 : Try.prog.cellsOf 3 = 1 := by kernel_rfl
theorem cells_5 : Try.prog.cellsOf 5 = 1 := by kernel_rfl
theorem cells_24 : Try.prog.cellsOf 24 = 1 := by kernel_rfl
theorem cells_36 : Try.prog.cellsOf 36 = 5 := by kernel_rfl
section
variable {H : Type} {enc : TypeId × Value → H} {W : World} {fuel : Nat} {cs : List Value} {x : DataW H × List MemPlace}
theorem op_24 (h : DataW.trod enc Try.prog W 0 (fun _ => true) true fuel 24 cs = some x) : ∃ (A : Option Addr) (c : Nat) (l : List Int), cs = [.slice A l.length c] ∧ Kd.C (Kd.int .u8) W A l.length l ∧ l.length ≤ c ∧ l.length ≤ maxLen ∧ ∀ n ∈ l, (Lit.int .u8 n).wf = true :=
  op_ints Try.underlying24 Try.underlying5 cells_5 h
set_option maxRecDepth 10000 in
theorem op_36 (h : DataW.trod enc Try.prog W 0 (fun _ => true) true fuel 36 cs = some x) : ∃ (a0 : Int) (a1 : Int) (a2 : Int) (a3 : Int) (A4 : Option Addr) (c4 : Nat) (l4 : List Int), cs = [.int .i64 a0, .int .i64 a1, .int .i64 a2, .int .i64 a3, .slice A4 l4.length c4] ∧ (Lit.int .i64 a0).wf = true ∧ (Lit.int .i64 a1).wf = true ∧ (Lit.int .i64 a2).wf = true ∧ (Lit.int .i64 a3).wf = true ∧ Kd.C (Kd.int .u8) W A4 l4.length l4 ∧ l4.length ≤ c4 ∧ l4.length ≤ maxLen ∧ (∀ n ∈ l4, (Lit.int .u8 n).wf = true) := by
  obtain ⟨xs, m, _, _, hl, hn, hg⟩ := DataW.trod_struct Try.underlying36 h
  rw [cells_36] at hl
  match cs, hl with
  | [v0, v1, v2, v3, v4], _ =>
    obtain ⟨x0, hx0⟩ := op_field hn (show 0 < _ from by decide)
    have g0 : DataW.trod enc Try.prog W 0 (fun _ => true) true m 3 (([v0, v1, v2, v3, v4].drop 0).take (Try.prog.cellsOf 3)) = some x0 := (hg 0 _ rfl).trans hx0
    rw [cells_3] at g0
    change DataW.trod enc Try.prog W 0 (fun _ => true) true m 3 [v0] = some x0 at g0
    obtain ⟨x1, hx1⟩ := op_field hn (show 1 < _ from by decide)
    have g1 : DataW.trod enc Try.prog W 0 (fun _ => true) true m 3 (([v0, v1, v2, v3, v4].drop 1).take (Try.prog.cellsOf 3)) = some x1 := (hg 1 _ rfl).trans hx1
    rw [cells_3] at g1
    change DataW.trod enc Try.prog W 0 (fun _ => true) true m 3 [v1] = some x1 at g1
    obtain ⟨x2, hx2⟩ := op_field hn (show 2 < _ from by decide)
    have g2 : DataW.trod enc Try.prog W 0 (fun _ => true) true m 3 (([v0, v1, v2, v3, v4].drop 2).take (Try.prog.cellsOf 3)) = some x2 := (hg 2 _ rfl).trans hx2
    rw [cells_3] at g2
    change DataW.trod enc Try.prog W 0 (fun _ => true) true m 3 [v2] = some x2 at g2
    obtain ⟨x3, hx3⟩ := op_field hn (show 3 < _ from by decide)
    have g3 : DataW.trod enc Try.prog W 0 (fun _ => true) true m 3 (([v0, v1, v2, v3, v4].drop 3).take (Try.prog.cellsOf 3)) = some x3 := (hg 3 _ rfl).trans hx3
    rw [cells_3] at g3
    change DataW.trod enc Try.prog W 0 (fun _ => true) true m 3 [v3] = some x3 at g3
    obtain ⟨x4, hx4⟩ := op_field hn (show 4 < _ from by decide)
    have g4 : DataW.trod enc Try.prog W 0 (fun _ => true) true m 24 (([v0, v1, v2, v3, v4].drop 4).take (Try.prog.cellsOf 24)) = some x4 := (hg 4 _ rfl).trans hx4
    rw [cells_24] at g4
    change DataW.trod enc Try.prog W 0 (fun _ => true) true m 24 [v4] = some x4 at g4
    obtain ⟨a0, e0, _, w0_0⟩ := DataW.trod_int Try.underlying3 g0
    obtain rfl := op_one e0
    obtain ⟨a1, e1, _, w1_0⟩ := DataW.trod_int Try.underlying3 g1
    obtain rfl := op_one e1
    obtain ⟨a2, e2, _, w2_0⟩ := DataW.trod_int Try.underlying3 g2
    obtain rfl := op_one e2
    obtain ⟨a3, e3, _, w3_0⟩ := DataW.trod_int Try.underlying3 g3
    obtain rfl := op_one e3
    obtain ⟨A4, c4, l4, e4, w4_0, w4_1, w4_2, w4_3⟩ := op_24 g4
    obtain rfl := op_one e4
    exact ⟨a0, a1, a2, a3, A4, c4, l4, rfl, w0_0, w1_0, w2_0, w3_0, w4_0, w4_1, w4_2, w4_3⟩
end
set_option maxRecDepth 100000 in
theorem lifted (os : Os) (started : os.Started) (H : Type) (enc : TypeId × Value → H) :
    ReturnsInHanded {} Try.checked os 5 .any (Rows.fnExactEtherBytesSpec.pre6 enc Try.prog Try.f5 Rows.fnExactEtherBytesRow.domain false) (Rows.fnExactEtherBytesSpec.post enc Try.prog Try.f5 false true false false) := by
  refine returnsInHanded_of_change_sized (C := Try.checked) own started (by kernel_rfl) Try.func5
    (ChangeSpec.witness6 (enc := enc) (C := Try.checked) false ⟨#[], #[.agg #[.int .i64 0, .int .i64 0, .int .i64 0, .int .i64 0, .slice none 0 0]], []⟩ 8 (by kernel_rfl) (by kernel_rfl) (by kernel_rfl) (by kernel_rfl)) ?_
  intro W base args ds gs before hval0 hW hcnd hsz0 _
  have hsz : (DataW.weightsEach Try.prog (Try.f5.params.toList ++ Rows.fnExactEtherBytesSpec.plain.varTypes Try.prog) (ds ++ gs)).all (· ≤ reachBytes) = true := hsz0
  have hval : ∀ (j : Nat) t v, Try.f5.params[j]? = some t → args[j]? = some v → Value.okWide Try.prog W .any base t v := hval0
  have hW' := hW
  obtain ⟨p, q, hA0, hV, rfl, hfz, hnd⟩ := hW
  have hA : DataW.TrodAll enc Try.prog W 0 (fun _ => true) true Try.f5.params.toList args.toList ds p := hA0
  rw [Try.params5] at hA hval hsz
  obtain ⟨v0, vs0, d0, ds0, p0, q0, hargs, rfl, rfl, h0, r0⟩ := trodAll_cons hA
  obtain ⟨rfl, rfl, rfl⟩ := trodAll_nil r0
  obtain rfl : args = #[v0] := by cases args; simp_all
  obtain ⟨rfl, rfl⟩ := trodVars_none hV
  have k0 := h0
  have lt0 : ∀ x ∈ p0, x.block < W.heap.size := by obtain ⟨m, hm⟩ := k0; exact DataW.trod_lt m _ _ _ hm
  obtain ⟨cs0, rfl, _⟩ := okWide_struct Try.underlying36 (hval 0 36 v0 rfl rfl)
  obtain ⟨fu0, hf0⟩ := h0
  obtain ⟨a0_0, a0_1, a0_2, a0_3, A0_4, c0_4, l0_4, e0, w0_0_0, w0_1_0, w0_2_0, w0_3_0, w0_4_0, w0_4_1, w0_4_2, w0_4_3⟩ := op_36 hf0
  obtain ⟨cs0⟩ := cs0
  obtain rfl : cs0 = _ := e0
  clear hA0 hval0 hsz0 hsz
  obtain ⟨k, hk⟩ := Pure.FnExactEtherBytes a0_0 a0_1 a0_2 a0_3 l0_4 w0_0_0 w0_1_0 w0_2_0 w0_3_0 w0_4_2 w0_4_3
  refine (laws_FnExactEtherBytes.calls k a0_0 a0_1 a0_2 a0_3 _ _ l0_4 true W w0_4_0 w0_4_1 hk).mono fun e W' ⟨he, bel0⟩ => ?_
  have bel : Below W.heap.size W W' := bel0
  subst he
  exact ⟨_, rfl, _, _, _, [], _, [], hW', trodAll_mk1 (shut_bool Try.underlying4 _), (trodAll_cons_mk (Below.trod laidOut (by kernel_rfl) (of_decide_eq_true (by kernel_rfl)) k0 bel lt0) trodAll_mk0), rfl, bel.frame _, fun h => by cases h⟩
theorem over : Rows.fnExactEtherBytesRow.holds Try.pinned (OpenSpec.ofChange Rows.fnExactEtherBytesSpec) :=
  OpenClaim.holds_of_wide 5 Try.f5 rfl rfl rfl rfl rfl rfl rfl ⟨rfl, rfl, rfl, rfl, rfl⟩ rfl rfl rfl rfl rfl (by kernel_rfl) Try.func5 (by kernel_rfl)
    (of_decide_eq_true (by kernel_rfl)) (by unfold Func.isWrapper; first | (rw [if_pos (by decide +kernel)]; kernel_rfl) | (rw [if_neg (by decide +kernel)]; exact ⟨rfl, rfl⟩))
    (fun os started H enc _ => lifted os started H enc)
theorem proved : Rows.FnExactEtherBytesSaid := over
#print axioms proved
end Go.Proofs.Ythkocmpilkoibaa.fnExactEtherBytes
namespace Go.Proofs.Ythkocmpilkoibaa
theorem fnExactEtherBytes_holds : Rows.FnExactEtherBytesSaid := fnExactEtherBytes.proved
end Go.Proofs.Ythkocmpilkoibaa
