-- Functions and their contracts, written by a program of this claim (wip/tools/oprint.py) out of the translation.
import Derived.Test.YtdbiejkaplndgaaGFnExactUpperBytesx0
import Derived.Test.YtdbiejkaplndgaaVFnExactUpperBytes
import Derived.Test.YtdbiejkaplndgaaGFnExactUpperBytesx1
namespace Go.Proofs.Ytdbiejkaplndgaa.FFnExactUpperBytes
open Go.RowKit Go.Proofs.YtdbiejkaplndgaaW.PrintWords Go.Proofs.YtdbiejkaplndgaaW.PrintLast Go.Proofs.YtdbiejkaplndgaaW.PrintMore Go.Proofs.Ytdbiejkaplndgaa.Frame
attribute [local go_sem] max2_int min2_int max_two min_two max_three min_three max_four min_four   -- for this text's walks alone
set_option linter.unusedVariables false
set_option linter.unusedSimpArgs false

/-! ### laws_markUpper: function 32 -/
def laws_markUpper.f (k : Nat) (a0_0 : Int) (a0_1 : Int) (a0_2 : Int) (a0_3 : Int) (a0_4 : Int) (a0_5 : Int) (a0_6 : Int) (a0_7 : Int) (a0_8 : Int) (a0_9 : Int) (a0_10 : Int) (a0_11 : Bool) (l0_12 : List Int) (l0_13 : List Int) (a1 : Int) : Option (Int × List Int × List Int) := (laws_markByteS.f k l0_12 a1).bind fun bt558 => ((laws_markByteS.f k l0_13 bt558.1).bind fun bt560 => (some (bt560.1, bt558.2, bt560.2)))
theorem laws_markUpper.mono : ∀ a0 a1 a2 a3 a4 a5 a6 a7 a8 a9 a10 a11 a12 a13 a14 k, LeO (laws_markUpper.f k a0 a1 a2 a3 a4 a5 a6 a7 a8 a9 a10 a11 a12 a13 a14) (laws_markUpper.f (k + 1) a0 a1 a2 a3 a4 a5 a6 a7 a8 a9 a10 a11 a12 a13 a14) := by
 intro a0 a1 a2 a3 a4 a5 a6 a7 a8 a9 a10 a11 a12 a13 a14 k
 unfold laws_markUpper.f
 repeat' first
   | (with_reducible exact laws_markByteS.mono _ _ _)
   | (with_reducible exact LeO.refl _)
   | (with_reducible exact LeO.none _)
   | (with_reducible refine LeO.ite ?_ ?_)
   | (with_reducible refine LeO.bind ?_ (fun _ => ?_))
   | exact laws_markByteS.mono _ _ _
   | exact LeO.none _
   | refine LeO.ite ?_ ?_
   | refine LeO.bind ?_ (fun _ => ?_)
set_option maxHeartbeats 8000000 in
set_option maxRecDepth 100000 in
theorem laws_markUpper.calls (k : Nat) (a0_0 : Int) (a0_1 : Int) (a0_2 : Int) (a0_3 : Int) (a0_4 : Int) (a0_5 : Int) (a0_6 : Int) (a0_7 : Int) (a0_8 : Int) (a0_9 : Int) (a0_10 : Int) (a0_11 : Bool) (P0_12_ : Nat → Prop) (u9000_ : Value) (l0_12 : List Int) (P0_13_ : Nat → Prop) (u9001_ : Value) (l0_13 : List Int) (a1 : Int) (r1 : Int) (r2 : List Int) (r3 : List Int) (w0 w : World) (hB : Below w0.heap.size w0 w) (ho0_12 : Kd.R (Kd.int .u8) 5 w w0.heap.size P0_12_ u9000_ l0_12) (hp0_12_0_13 : ∀ k_, P0_12_ k_ → ¬ P0_13_ k_) (ho0_13 : Kd.R (Kd.int .u8) 5 w w0.heap.size P0_13_ u9001_ l0_13) (hp0_13_0_12 : ∀ k_, P0_13_ k_ → ¬ P0_12_ k_) (h : laws_markUpper.f k a0_0 a0_1 a0_2 a0_3 a0_4 a0_5 a0_6 a0_7 a0_8 a0_9 a0_10 a0_11 l0_12 l0_13 a1 = some (r1, r2, r3)) :
  Calls Try.prog 32 #[.agg #[.int .i64 a0_0, .int .i64 a0_1, .int .i64 a0_2, .int .i64 a0_3, .int .i64 a0_4, .int .i64 a0_5, .int .i64 a0_6, .int .i64 a0_7, .int .i64 a0_8, .int .i64 a0_9, .int .i64 a0_10, .bool a0_11, u9000_, u9001_], .int .i64 a1] w fun e w' => e = .returned (.int .i64 r1) ∧ Kd.R (Kd.int .u8) 5 w' w0.heap.size (fun k_ => ((P0_12_ k_ ∨ P0_13_ k_) ∨ w.heap.size ≤ k_)) u9000_ r2 ∧ Kd.R (Kd.int .u8) 5 w' w0.heap.size (fun k_ => ((P0_12_ k_ ∨ P0_13_ k_) ∨ w.heap.size ≤ k_)) u9001_ r3 ∧ Below w0.heap.size w0 w' ∧ Kept w w' (fun k_ => P0_12_ k_ ∨ P0_13_ k_) := by
 obtain ⟨A17_, c17_, rfl⟩ := Kd.R_slice ho0_12
 obtain ⟨A18_, c18_, rfl⟩ := Kd.R_slice ho0_13
 have hu54 := Try.underlying54
 have O22_ : IsOne Try.prog 22 := ⟨⟨_, Try.underlying22, rfl⟩, by kernel_rfl⟩
 unfold laws_markUpper.f at h
 obtain ⟨⟨_, _⟩, A1_, h⟩ := Option.bind_eq_some_iff.mp h
 obtain ⟨⟨_, _⟩, A2_, h⟩ := Option.bind_eq_some_iff.mp h
 simp only [Option.some.injEq, Prod.mk.injEq] at h
 obtain ⟨rfl, rfl, rfl⟩ := h
 have HF := Fr.start [54] w
 go_enter Try.func32, Try.ntmps32
 repeat' (first
   | (((with_reducible refine gate_region (id := 0) ?_); apply plain_region) <;>
    (((with_reducible apply Fr.lbox HF rfl rfl rfl); (go_simp; rfl); decide; clear HF; intro g_ w_ HF); (refine lnorm (a' := ?_) ?_ ?_; rotate_left; (simp only [Act.put, List.setIfInBounds_toArray, List.set_cons_zero, List.set_cons_succ, i64_w, i32_w, tmod_nat]; rfl))) <;>
    (apply lpure rfl rfl; (go_simp; with_reducible rfl); (simp only [Act.put, List.setIfInBounds_toArray, List.set_cons_zero, List.set_cons_succ, i64_w, i32_w, tmod_nat]; rfl)) <;>
    (apply lend))
   | (((with_reducible refine gate_region (id := 1) ?_); apply plain_region) <;>
    (apply lpure rfl rfl; (go_simp; with_reducible rfl); (simp only [Act.put, List.setIfInBounds_toArray, List.set_cons_zero, List.set_cons_succ, i64_w, i32_w, tmod_nat]; rfl)) <;>
    (apply HF.lone rfl rfl rfl O22_ rfl; (repeat (first | exact At.head | apply At.tail)); rfl; (simp only [Act.put, List.setIfInBounds_toArray, List.set_cons_zero, List.set_cons_succ, i64_w, i32_w, tmod_nat]; rfl)) <;>
    (apply lpure rfl rfl; (go_simp; with_reducible rfl); (simp only [Act.put, List.setIfInBounds_toArray, List.set_cons_zero, List.set_cons_succ, i64_w, i32_w, tmod_nat]; rfl)) <;>
    (have HB0 := HF.below; have HFb := HF.rebase hB; have r17_ := R_tight (R_moved ho0_12 (T := [54]) (.below HB0) (by decide)); have r18_ := R_moved ho0_13 (T := [54]) (.below HB0) (by decide); apply lcall rfl rfl rfl Try.func13 (by kernel_rfl) rfl; (with_reducible apply Calls.mono); apply laws_markByteS.calls (w0 := w0) (hB := HFb.below) (ho0 := r17_) (h := A1_); rintro e W1_ ⟨rfl, q1_, b1_, k1_⟩; refine ⟨_, rfl, ?_⟩; have q1t_ := R_tight q1_; have q2_ := Kd.R_kept r18_ k1_ (fun k_ h18_ h17_ => hp0_12_0_13 k_ (ho0_12.1 k_ h17_) h18_); have K1_ := Kept.then_ (Kept.of_below HB0 (fun k_ => P0_12_ k_ ∨ P0_13_ k_)) k1_ (fun k_ h_ => .inl (.inl (ho0_12.1 k_ h_))); replace HFb := HFb.kept b1_ k1_ (R_type r17_) (by decide); clear HF; have HF := HFb; clear HFb; rotate_left; (first | rfl | (simp only [List.map_toArray, List.map_cons, List.map_nil]; first | done | rfl)); (refine lnorm (a' := ?_) ?_ ?_; rotate_left; (simp only [Act.put, List.setIfInBounds_toArray, List.set_cons_zero, List.set_cons_succ, i64_w, i32_w, tmod_nat]; rfl))) <;>
    (apply lpure rfl rfl; (go_simp; with_reducible rfl); (simp only [Act.put, List.setIfInBounds_toArray, List.set_cons_zero, List.set_cons_succ, i64_w, i32_w, tmod_nat]; rfl)) <;>
    (apply lend))
   | (((with_reducible refine gate_region (id := 2) ?_); apply plain_region) <;>
    (apply lpure rfl rfl; (go_simp; with_reducible rfl); (simp only [Act.put, List.setIfInBounds_toArray, List.set_cons_zero, List.set_cons_succ, i64_w, i32_w, tmod_nat]; rfl)) <;>
    (apply HF.lone rfl rfl rfl O22_ rfl; (repeat (first | exact At.head | apply At.tail)); rfl; (simp only [Act.put, List.setIfInBounds_toArray, List.set_cons_zero, List.set_cons_succ, i64_w, i32_w, tmod_nat]; rfl)) <;>
    (apply lpure rfl rfl; (go_simp; with_reducible rfl); (simp only [Act.put, List.setIfInBounds_toArray, List.set_cons_zero, List.set_cons_succ, i64_w, i32_w, tmod_nat]; rfl)) <;>
    (have r18t_ := R_tight q2_; apply lcall rfl rfl rfl Try.func13 (by kernel_rfl) rfl; (with_reducible apply Calls.mono); apply laws_markByteS.calls (w0 := w0) (hB := HF.below) (ho0 := r18t_) (h := A2_); rintro e W2_ ⟨rfl, q3_, b2_, k2_⟩; refine ⟨_, rfl, ?_⟩; have q4_ := Kd.R_kept q1t_ k2_ (fun k_ h17_ h18_ => hp0_12_0_13 k_ (ho0_12.1 k_ h17_) (ho0_13.1 k_ h18_)); have K2_ := Kept.then_ K1_ k2_ (fun k_ h_ => .inl (.inr (ho0_13.1 k_ h_))); replace HF := HF.kept b2_ k2_ (R_type r18t_) (by decide); rotate_left; (first | rfl | (simp only [List.map_toArray, List.map_cons, List.map_nil]; first | done | rfl)); (refine lnorm (a' := ?_) ?_ ?_; rotate_left; (simp only [Act.put, List.setIfInBounds_toArray, List.set_cons_zero, List.set_cons_succ, i64_w, i32_w, tmod_nat]; rfl))) <;>
    (apply lpure rfl rfl; (go_simp; with_reducible rfl); (simp only [Act.put, List.setIfInBounds_toArray, List.set_cons_zero, List.set_cons_succ, i64_w, i32_w, tmod_nat]; rfl)) <;>
    (apply lend))
   | (((with_reducible refine gate_region (id := 3) ?_); apply plain_region) <;>
    (apply lpure rfl rfl; (go_simp; with_reducible rfl); (simp only [Act.put, List.setIfInBounds_toArray, List.set_cons_zero, List.set_cons_succ, i64_w, i32_w, tmod_nat]; rfl)) <;>
    (apply lpure rfl rfl; (go_simp; with_reducible rfl); (simp only [Act.put, List.setIfInBounds_toArray, List.set_cons_zero, List.set_cons_succ, i64_w, i32_w, tmod_nat]; rfl)) <;>
    (apply lend))
   | go_step | fail)
 go_ret
 exact ⟨rfl, Kd.R_mono q4_ (fun k_ h_ => .inl (.inl (ho0_12.1 k_ h_))), Kd.R_mono (R_tight q3_) (fun k_ h_ => .inl (.inr (ho0_13.1 k_ h_))), b2_, K2_⟩

end Go.Proofs.Ytdbiejkaplndgaa.FFnExactUpperBytes
