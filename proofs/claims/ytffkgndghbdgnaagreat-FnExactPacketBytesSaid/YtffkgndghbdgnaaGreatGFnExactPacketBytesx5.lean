-- Contracts of functions, no condition.
import Derived.Test.YtffkgndghbdgnaaGreatGFnExactPacketBytesx4
namespace Go.Proofs.YtffkgndghbdgnaaGreat.FFnExactPacketBytes
open Go.RowKit Go.Proofs.YtffkgndghbdgnaaGreatW.PrintWords Go.Proofs.YtffkgndghbdgnaaGreatW.PrintLast Go.Proofs.YtffkgndghbdgnaaGreatW.PrintMore Go.Proofs.YtffkgndghbdgnaaGreat.Frame
attribute [local go_sem] max2_int min2_int max_two min_two max_three min_three max_four min_four
set_option linter.unusedVariables false
set_option maxHeartbeats 8000000
set_option maxRecDepth 100000
set_option linter.unusedSimpArgs false

/-! ### laws_toUpper: function 27 -/
def laws_toUpper.f (k : Nat) (a0_0 a0_1 a0_2 a0_3 a0_4 a0_5 a0_6 a0_7 a0_8 a0_9 a0_10 : Int) (a0_11 : Bool) (l0_12 l0_13 : List Int) : Option (Int × Int × Int × Int × Int × Int × Int × Int × Int × Int × Int × Bool × List Int × List Int) := (laws_toByteS.f k l0_12).bind fun t192 => ((laws_toByteS.f k l0_13).bind fun t195 => (some (a0_0, a0_1, a0_2, a0_3, a0_4, a0_5, a0_6, a0_7, a0_8, a0_9, a0_10, a0_11, t192, t195)))
theorem laws_toUpper.calls (k : Nat) (a0_0 a0_1 a0_2 a0_3 a0_4 a0_5 a0_6 a0_7 a0_8 a0_9 a0_10 : Int) (a0_11 : Bool) (A0_12 : Option Addr) (c0_12 : Nat) (l0_12 : List Int) (A0_13 : Option Addr) (c0_13 : Nat) (l0_13 : List Int) (r1 r2 r3 r4 r5 r6 r7 r8 r9 r10 r11 : Int) (r12 : Bool) (r13 r14 : List Int) (w : World) (hr0_12 : Kd.C (Kd.int .u8) w A0_12 l0_12.length l0_12) (hc0_12 : l0_12.length ≤ c0_12) (hr0_13 : Kd.C (Kd.int .u8) w A0_13 l0_13.length l0_13) (hc0_13 : l0_13.length ≤ c0_13) (h : laws_toUpper.f k a0_0 a0_1 a0_2 a0_3 a0_4 a0_5 a0_6 a0_7 a0_8 a0_9 a0_10 a0_11 l0_12 l0_13 = some (r1, r2, r3, r4, r5, r6, r7, r8, r9, r10, r11, r12, r13, r14)) :
  Calls Tryz.prog 27 #[.agg #[.int .i64 a0_0, .int .i64 a0_1, .int .i64 a0_2, .int .i64 a0_3, .int .i64 a0_4, .int .i64 a0_5, .int .i64 a0_6, .int .i64 a0_7, .int .i64 a0_8, .int .i64 a0_9, .int .i64 a0_10, .bool a0_11, .slice A0_12 l0_12.length c0_12, .slice A0_13 l0_13.length c0_13]] w fun e w' => ∃ v12_ v13_ : Value, e = .returned (.agg #[.int .i64 r1, .int .i64 r2, .int .i64 r3, .int .i64 r4, .int .i64 r5, .int .i64 r6, .int .i64 r7, .int .i64 r8, .int .i64 r9, .int .i64 r10, .int .i64 r11, .bool r12, v12_, v13_]) ∧ Kd.R (Kd.int .u8) 5 w' w.heap.size (fun k_ => some k_ ≠ (v13_ : Value).ownBlock) v12_ r13 ∧ Kd.R (Kd.int .u8) 5 w' w.heap.size (fun k_ => some k_ ≠ (v12_ : Value).ownBlock) v13_ r14 ∧ Below w.heap.size w w' := by
 have hu33 := Tryz.underlying33
 have hu45 := Tryz.underlying45
 have O3_ : IsOne Tryz.prog 3 := ⟨⟨_, Tryz.underlying3, rfl⟩, by kernel_rfl⟩
 have O4_ : IsOne Tryz.prog 4 := ⟨⟨_, Tryz.underlying4, rfl⟩, by kernel_rfl⟩
 have O22_ : IsOne Tryz.prog 22 := ⟨⟨_, Tryz.underlying22, rfl⟩, by kernel_rfl⟩
 have R45_ : IsRow Tryz.prog 45 14 := ⟨⟨_, Tryz.underlying45, rfl⟩, by kernel_rfl⟩
 have HR0_12 := Aside0.mk hr0_12
 have HC0_12 := Aside0.mk hc0_12
 have HR0_13 := Aside0.mk hr0_13
 have HC0_13 := Aside0.mk hc0_13
 clear hr0_12 hc0_12 hr0_13 hc0_13
 have HF := Fr.start [33, 45] w
 unfold laws_toUpper.f at h
 obtain ⟨_, A0_, h⟩ := Option.bind_eq_some_iff.mp h
 replace A0_ := Aside0.mk A0_
 obtain ⟨_, A1_, h⟩ := Option.bind_eq_some_iff.mp h
 replace A1_ := Aside0.mk A1_
 simp only [Option.some.injEq, Prod.mk.injEq] at h
 obtain ⟨rfl, rfl, rfl, rfl, rfl, rfl, rfl, rfl, rfl, rfl, rfl, rfl, rfl, rfl⟩ := h
 go_enter Tryz.func27, Tryz.ntmps27
 go_wp2_with (first
  | ((with_reducible refine gate_list ?_); first
  | ((with_reducible apply Fr.box HF rfl rfl rfl); (go_simp; rfl); decide; clear HF; intro g_ w_ HF)
  | ((with_reducible apply Fr.alloc HF rfl rfl rfl); (go_simp; rfl); decide; clear HF; intro g_ w_ HF)
  | ((with_reducible apply Fr.loadOne HF rfl rfl rfl); assumption; rfl; (repeat (first | exact At.head | apply At.tail)); rfl)
  | ((with_reducible apply Fr.loadRow HF rfl rfl rfl); assumption; rfl; (repeat (exact At.head)); (simp only [List.drop_succ_cons, List.drop_zero, List.take_succ_cons, List.take_zero]; rfl); rfl)
  | ((with_reducible apply Fr.storeOne HF rfl rfl rfl); assumption; rfl; (go_simp; rfl); rfl; rfl; (repeat (apply At.head)); (simp only [List.set_cons_succ, List.set_cons_zero]; rfl); simp; clear HF; intro w_ HF)
  | ((with_reducible apply Fr.storeRow HF rfl rfl rfl); assumption; rfl; (go_simp; rfl); rfl; rfl; (repeat (first | apply At.head | apply At.tail)); (simp only [List.drop_succ_cons, List.drop_zero, List.drop_nil, List.take_succ_cons, List.take_zero, List.cons_append, List.nil_append, List.append_nil]; rfl); simp; clear HF; intro w_ HF))
  | (go_at_call 28; (with_reducible refine (laws_toByteS.calls k A0_12 c0_12 l0_12 _ _ (Kd.C_below HR0_12.out HF.below) HC0_12.out A0_.out).mono ?_); rintro e W1_ ⟨v_, rfl, ho1_, hb_⟩; obtain ⟨Av1, cv1, rfl⟩ := Kd.R_slice ho1_; have HO1 := HF.row ho1_; replace HF := (HF.call hb_).mark; clear hb_ ho1_)
  | (go_at_call 28; (with_reducible refine (laws_toByteS.calls k A0_13 c0_13 l0_13 _ _ (Kd.C_below HR0_13.out HF.below) HC0_13.out A1_.out).mono ?_); rintro e W2_ ⟨v_, rfl, ho2_, hb_⟩; obtain ⟨Av2, cv2, rfl⟩ := Kd.R_slice ho2_; have HO2 := HF.row ho2_; have HS2 := HF.since; replace HF := (HF.call hb_).mark; clear hb_ ho2_))
 refine bodyPost_ret (results_cell_row rfl _ _ _ 45 _ (0, 0) _ rfl (HF.get (by repeat (first | exact At.head | apply At.tail))) Tryz.underlying45 rfl (by kernel_rfl)) rfl ?_
 replace HO1 := HF.row_now HO1.out (by simp) (by decide)
 replace HO2 := HF.row_now HO2.out (by simp) (by decide)
 replace HS2 := HS2.out
 exact ⟨_, _, rfl, Kd.R_mono HO1 (by intro k_ hk; (repeat' apply And.intro) <;> (intro e; (have := HO2.1 k_ e.symm; omega))), Kd.R_mono HO2 (by intro k_ hk; (repeat' apply And.intro) <;> (intro e; (have := HO1.1 k_ e.symm; omega))), HF.below⟩

end Go.Proofs.YtffkgndghbdgnaaGreat.FFnExactPacketBytes
