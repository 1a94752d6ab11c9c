-- Functions and their contracts, written by a program of this claim (wip/tools/oprint.py) out of the translation.
import Derived.Test.YtgkfgichilclgaaFFnExactFourBytesx0
import Derived.Test.YtgkfgichilclgaaFrameK
import Derived.Test.YtgkfgichilclgaaFrameR
import Derived.Test.YtgkfgichilclgaaFrame
import Derived.Test.YtgkfgichilclgaaFrameP
import Derived.Test.YtgkfgichilclgaaFFnExactFourBytesx1
import Derived.Test.YtgkfgichilclgaaFFnExactFourBytesx5
import Derived.Test.YtgkfgichilclgaaFFnExactFourBytesx7
namespace Go.Proofs.Ytgkfgichilclgaa.FFnExactFourBytes
open Go.RowKit Go.Proofs.YtgkfgichilclgaaW.PrintWords Go.Proofs.YtgkfgichilclgaaW.PrintLast Go.Proofs.YtgkfgichilclgaaW.PrintMore Go.Proofs.Ytgkfgichilclgaa.Frame
attribute [local go_sem] max2_int min2_int max_two min_two max_three min_three max_four min_four   -- for this text's walks alone
set_option linter.unusedVariables false
set_option linter.unusedSimpArgs false

/-! ### impl_HeadSum: function 33 -/
def impl_HeadSum.f (k : Nat) (a0_0 : Int) (a0_1 : Int) (a0_2 : Int) (a0_3 : Int) (a0_4 : Int) (a0_5 : Int) (a0_6 : Int) (a0_7 : Int) (a0_8 : Int) (a0_9 : Int) (a0_10 : Int) (a0_11 : Int) (a0_12 : Int) (a0_13 : Int) (a0_14 : Int) (a0_15 : Int) (a0_16 : Int) (l0_17 : List Int) (l0_18 : List Int) : Option (Int) := (impl_FourOk.f a0_0 a0_1 a0_2 a0_3 a0_4 a0_5 a0_6 a0_7 a0_8 a0_9 a0_10 a0_11 a0_12 a0_13 a0_14 a0_15 a0_16 l0_17 l0_18).bind fun t375 => (if t375 = true then ((impl_Four_head.f k a0_0 a0_1 a0_2 a0_3 a0_4 a0_5 a0_6 a0_7 a0_8 a0_9 a0_10 a0_11 a0_12 a0_13 a0_14 a0_15 a0_16 l0_17 l0_18 0).bind fun t376 => ((impl_Checksum.f k t376).bind fun t379 => (some t379))) else (some (-1)))
theorem impl_HeadSum.mono : ∀ a0 a1 a2 a3 a4 a5 a6 a7 a8 a9 a10 a11 a12 a13 a14 a15 a16 a17 a18 k, LeO (impl_HeadSum.f k a0 a1 a2 a3 a4 a5 a6 a7 a8 a9 a10 a11 a12 a13 a14 a15 a16 a17 a18) (impl_HeadSum.f (k + 1) a0 a1 a2 a3 a4 a5 a6 a7 a8 a9 a10 a11 a12 a13 a14 a15 a16 a17 a18) := by
  intro a0 a1 a2 a3 a4 a5 a6 a7 a8 a9 a10 a11 a12 a13 a14 a15 a16 a17 a18 k
  unfold impl_HeadSum.f
  repeat' first
      | (with_reducible exact impl_Checksum.mono _ _)
      | (with_reducible exact impl_Four_head.mono _ _ _ _ _ _ _ _ _ _ _ _ _ _ _ _ _ _ _ _ _)
      | (with_reducible exact LeO.refl _)
      | (with_reducible exact LeO.none _)
      | (with_reducible refine LeO.ite ?_ ?_)
      | (with_reducible refine LeO.bind ?_ (fun _ => ?_))
      | exact impl_Checksum.mono _ _
      | exact impl_Four_head.mono _ _ _ _ _ _ _ _ _ _ _ _ _ _ _ _ _ _ _ _ _
      | exact LeO.none _
      | refine LeO.ite ?_ ?_
      | refine LeO.bind ?_ (fun _ => ?_)
set_option maxHeartbeats 8000000 in
set_option maxRecDepth 100000 in
theorem impl_HeadSum.calls (k : Nat) (a0_0 : Int) (a0_1 : Int) (a0_2 : Int) (a0_3 : Int) (a0_4 : Int) (a0_5 : Int) (a0_6 : Int) (a0_7 : Int) (a0_8 : Int) (a0_9 : Int) (a0_10 : Int) (a0_11 : Int) (a0_12 : Int) (a0_13 : Int) (a0_14 : Int) (a0_15 : Int) (a0_16 : Int) (A0_17 : Option Addr) (c0_17 : Nat) (l0_17 : List Int) (A0_18 : Option Addr) (c0_18 : Nat) (l0_18 : List Int) (r : Int) (w : World) (hr0_17 : Kd.C (Kd.int .u8) w A0_17 l0_17.length l0_17) (hc0_17 : l0_17.length ≤ c0_17) (hr0_18 : Kd.C (Kd.int .u8) w A0_18 l0_18.length l0_18) (hc0_18 : l0_18.length ≤ c0_18) (h : impl_HeadSum.f k a0_0 a0_1 a0_2 a0_3 a0_4 a0_5 a0_6 a0_7 a0_8 a0_9 a0_10 a0_11 a0_12 a0_13 a0_14 a0_15 a0_16 l0_17 l0_18 = some r) :
    Calls Try.prog 33 #[.agg #[.int .i64 a0_0, .int .i64 a0_1, .int .i64 a0_2, .int .i64 a0_3, .int .i64 a0_4, .int .i64 a0_5, .int .i64 a0_6, .int .i64 a0_7, .int .i64 a0_8, .int .i64 a0_9, .int .i64 a0_10, .int .i64 a0_11, .int .i64 a0_12, .int .i64 a0_13, .int .i64 a0_14, .int .i64 a0_15, .int .i64 a0_16, .slice A0_17 l0_17.length c0_17, .slice A0_18 l0_18.length c0_18]] w fun e w' => e = .returned (.int .i64 r) ∧ Below w.heap.size w w' := by
  have R62_ : IsRow Try.prog 62 19 := ⟨⟨_, Try.underlying62, rfl⟩, by kernel_rfl⟩
  have HR0_17 := Aside0.mk hr0_17
  have HC0_17 := Aside0.mk hc0_17
  have HR0_18 := Aside0.mk hr0_18
  have HC0_18 := Aside0.mk hc0_18
  clear hr0_17 hc0_17 hr0_18 hc0_18
  have HF := Fr.start [62] w
  unfold impl_HeadSum.f at h
  have HH := Aside0.mk h
  clear h
  repeat' (first | (have h_ := HH.out; (with_reducible replace h_ := ite_ways h_); clear HH; rcases h_ with ⟨c_, h_⟩ | ⟨c_, h_⟩ <;> (have HH := Aside0.mk h_; clear h_; first | (replace c_ := (show (_ : Bool) = true from c_); subst c_) | (replace c_ := Bool.eq_false_iff.mpr c_; subst c_) | (replace c_ := bne_eq_false_iff_eq.mp (Bool.eq_false_iff.mpr c_); subst c_) | (replace c_ := (show (_ : Bool) = true from c_); try have := beq_eq_false_iff_ne.mpr (bne_iff_ne.mp c_)) | (replace c_ := Bool.eq_false_iff.mpr c_) | (have := beq_iff_eq.mpr c_; have := bne_eq_false_iff_eq.mpr c_; clear c_) | (have := beq_eq_false_iff_ne.mpr c_; have := bne_iff_ne.mpr c_; clear c_) | (have := decide_eq_true (show _ ≤ _ from c_); clear c_) | (have := decide_eq_true (show _ < _ from c_); clear c_) | (have := decide_eq_false (show ¬ (_ ≤ _) from c_); clear c_) | (have := decide_eq_false (show ¬ (_ < _) from c_); clear c_))) | (with_reducible exact (none_ne HH.out).elim) | (with_reducible exact (ft_ne HH.out).elim) | fail)
  all_goals go_enter Try.func33, Try.ntmps33
  all_goals (repeat' (first
        | (((with_reducible refine gate_region (id := 0) ?_); apply plain_region) <;>
        (((with_reducible apply Fr.lbox HF rfl rfl rfl); (go_simp; rfl); decide; clear HF; intro g_ w_ HF); (refine lnorm (a' := ?_) ?_ ?_; rotate_left; (simp only [Act.put, List.setIfInBounds_toArray, List.set_cons_zero, List.set_cons_succ, i64_w, i32_w, tmod_nat]; rfl))) <;>
        (apply lpure rfl rfl; (go_simp; with_reducible rfl); (simp only [Act.put, List.setIfInBounds_toArray, List.set_cons_zero, List.set_cons_succ, i64_w, i32_w, tmod_nat]; rfl)) <;>
        (apply lend))
        | (((with_reducible refine gate_region (id := 1) ?_); apply plain_region) <;>
        (apply HF.lrow rfl rfl rfl R62_ rfl; (repeat (first | exact At.head | apply At.tail)); (simp only [List.drop_succ_cons, List.drop_zero, List.take_succ_cons, List.take_zero]; rfl); rfl; (simp only [Act.put, List.setIfInBounds_toArray, List.set_cons_zero, List.set_cons_succ, i64_w, i32_w, tmod_nat]; rfl)) <;>
        (have h_ := HH.out; (with_reducible replace h_ := Option.bind_eq_some_iff.mp h_); clear HH; obtain ⟨_, A_, h_⟩ := h_; have HH := Aside0.mk h_; clear h_; replace A_ := Aside0.mk A_; apply lcall rfl rfl rfl Try.func83 (by kernel_rfl) rfl; (with_reducible apply Calls.mono); (with_reducible apply impl_FourOk.calls (h := A_.out)); (first | exact Kd.C_below HR0_17.out HF.below | exact Kd.C_below HR0_18.out HF.below | (apply And.left; (with_reducible apply HF.rowC); assumption; simp; decide)); (first | exact HC0_17.out | exact HC0_18.out | (apply And.right; (with_reducible apply HF.rowC); assumption; simp; decide)); (first | exact Kd.C_below HR0_17.out HF.below | exact Kd.C_below HR0_18.out HF.below | (apply And.left; (with_reducible apply HF.rowC); assumption; simp; decide)); (first | exact HC0_17.out | exact HC0_18.out | (apply And.right; (with_reducible apply HF.rowC); assumption; simp; decide)); rintro e w_ ⟨rfl, hb_⟩; refine ⟨_, rfl, ?_⟩; replace HF := HF.call hb_; clear hb_; rotate_left; (first | rfl | (simp only [List.map_toArray, List.map_cons, List.map_nil]; first | done | rfl)); clear A_; (refine lnorm (a' := ?_) ?_ ?_; rotate_left; (simp only [Act.put, List.setIfInBounds_toArray, List.set_cons_zero, List.set_cons_succ, i64_w, i32_w, tmod_nat]; rfl))) <;>
        (repeat' (first | (have h_ := HH.out; (with_reducible replace h_ := ite_ways h_); clear HH; rcases h_ with ⟨c_, h_⟩ | ⟨c_, h_⟩ <;> (have HH := Aside0.mk h_; clear h_; first | (replace c_ := (show (_ : Bool) = true from c_); subst c_) | (replace c_ := Bool.eq_false_iff.mpr c_; subst c_) | (replace c_ := bne_eq_false_iff_eq.mp (Bool.eq_false_iff.mpr c_); subst c_) | (replace c_ := (show (_ : Bool) = true from c_); try have := beq_eq_false_iff_ne.mpr (bne_iff_ne.mp c_)) | (replace c_ := Bool.eq_false_iff.mpr c_) | (have := beq_iff_eq.mpr c_; have := bne_eq_false_iff_eq.mpr c_; clear c_) | (have := beq_eq_false_iff_ne.mpr c_; have := bne_iff_ne.mpr c_; clear c_) | (have := decide_eq_true (show _ ≤ _ from c_); clear c_) | (have := decide_eq_true (show _ < _ from c_); clear c_) | (have := decide_eq_false (show ¬ (_ ≤ _) from c_); clear c_) | (have := decide_eq_false (show ¬ (_ < _) from c_); clear c_))) | (with_reducible exact (none_ne HH.out).elim) | (with_reducible exact (ft_ne HH.out).elim) | fail)) <;>
        (apply lpure rfl rfl; (go_simp; with_reducible rfl); (simp only [Act.put, List.setIfInBounds_toArray, List.set_cons_zero, List.set_cons_succ, i64_w, i32_w, tmod_nat]; rfl)) <;>
        (apply lend))
        | (((with_reducible refine gate_region (id := 2) ?_); apply plain_region) <;>
        (apply lpure rfl rfl; (go_simp; with_reducible rfl); (simp only [Act.put, List.setIfInBounds_toArray, List.set_cons_zero, List.set_cons_succ, i64_w, i32_w, tmod_nat]; rfl)) <;>
        (apply lend))
        | (((with_reducible refine gate_region (id := 3) ?_); apply plain_region) <;>
        (apply HF.lrow rfl rfl rfl R62_ rfl; (repeat (first | exact At.head | apply At.tail)); (simp only [List.drop_succ_cons, List.drop_zero, List.take_succ_cons, List.take_zero]; rfl); rfl; (simp only [Act.put, List.setIfInBounds_toArray, List.set_cons_zero, List.set_cons_succ, i64_w, i32_w, tmod_nat]; rfl)) <;>
        (have h_ := HH.out; (with_reducible replace h_ := Option.bind_eq_some_iff.mp h_); clear HH; obtain ⟨_, A_, h_⟩ := h_; have HH := Aside0.mk h_; clear h_; replace A_ := Aside0.mk A_; apply lcall rfl rfl rfl Try.func85 (by kernel_rfl) rfl; (with_reducible apply Calls.mono); (with_reducible apply impl_Four_head.calls (h := A_.out)); (first | exact Kd.C_below HR0_17.out HF.below | exact Kd.C_below HR0_18.out HF.below | (apply And.left; (with_reducible apply HF.rowC); assumption; simp; decide)); (first | exact HC0_17.out | exact HC0_18.out | (apply And.right; (with_reducible apply HF.rowC); assumption; simp; decide)); (first | exact Kd.C_below HR0_17.out HF.below | exact Kd.C_below HR0_18.out HF.below | (apply And.left; (with_reducible apply HF.rowC); assumption; simp; decide)); (first | exact HC0_17.out | exact HC0_18.out | (apply And.right; (with_reducible apply HF.rowC); assumption; simp; decide)); rintro e w_ ⟨v0_, rfl, ho0_, hb_⟩; obtain ⟨Av_, cv_, rfl⟩ := Kd.R_slice ho0_; have HO_ := HF.row ho0_; clear ho0_; refine ⟨_, rfl, ?_⟩; replace HF := (HF.call hb_).mark; clear hb_; rotate_left; (first | rfl | (simp only [List.map_toArray, List.map_cons, List.map_nil]; first | done | rfl)); clear A_; (refine lnorm (a' := ?_) ?_ ?_; rotate_left; (simp only [Act.put, List.setIfInBounds_toArray, List.set_cons_zero, List.set_cons_succ, i64_w, i32_w, tmod_nat]; rfl))) <;>
        (repeat' (first | (have h_ := HH.out; (with_reducible replace h_ := ite_ways h_); clear HH; rcases h_ with ⟨c_, h_⟩ | ⟨c_, h_⟩ <;> (have HH := Aside0.mk h_; clear h_; first | (replace c_ := (show (_ : Bool) = true from c_); subst c_) | (replace c_ := Bool.eq_false_iff.mpr c_; subst c_) | (replace c_ := bne_eq_false_iff_eq.mp (Bool.eq_false_iff.mpr c_); subst c_) | (replace c_ := (show (_ : Bool) = true from c_); try have := beq_eq_false_iff_ne.mpr (bne_iff_ne.mp c_)) | (replace c_ := Bool.eq_false_iff.mpr c_) | (have := beq_iff_eq.mpr c_; have := bne_eq_false_iff_eq.mpr c_; clear c_) | (have := beq_eq_false_iff_ne.mpr c_; have := bne_iff_ne.mpr c_; clear c_) | (have := decide_eq_true (show _ ≤ _ from c_); clear c_) | (have := decide_eq_true (show _ < _ from c_); clear c_) | (have := decide_eq_false (show ¬ (_ ≤ _) from c_); clear c_) | (have := decide_eq_false (show ¬ (_ < _) from c_); clear c_))) | (with_reducible exact (none_ne HH.out).elim) | (with_reducible exact (ft_ne HH.out).elim) | fail)) <;>
        (have h_ := HH.out; (with_reducible replace h_ := Option.bind_eq_some_iff.mp h_); clear HH; obtain ⟨_, A_, h_⟩ := h_; have HH := Aside0.mk h_; clear h_; replace A_ := Aside0.mk A_; apply lcall rfl rfl rfl Try.func84 (by kernel_rfl) rfl; (with_reducible apply Calls.mono); (with_reducible apply impl_Checksum.calls (h := A_.out)); (first | exact Kd.C_below HR0_17.out HF.below | exact Kd.C_below HR0_18.out HF.below | (apply And.left; (with_reducible apply HF.rowC); assumption; simp; decide)); (first | exact HC0_17.out | exact HC0_18.out | (apply And.right; (with_reducible apply HF.rowC); assumption; simp; decide)); rintro e w_ ⟨rfl, hb_⟩; refine ⟨_, rfl, ?_⟩; replace HF := HF.drawn hb_; clear hb_; rotate_left; (first | rfl | (simp only [List.map_toArray, List.map_cons, List.map_nil]; first | done | rfl)); clear A_; (refine lnorm (a' := ?_) ?_ ?_; rotate_left; (simp only [Act.put, List.setIfInBounds_toArray, List.set_cons_zero, List.set_cons_succ, i64_w, i32_w, tmod_nat]; rfl))) <;>
        (repeat' (first | (have h_ := HH.out; (with_reducible replace h_ := ite_ways h_); clear HH; rcases h_ with ⟨c_, h_⟩ | ⟨c_, h_⟩ <;> (have HH := Aside0.mk h_; clear h_; first | (replace c_ := (show (_ : Bool) = true from c_); subst c_) | (replace c_ := Bool.eq_false_iff.mpr c_; subst c_) | (replace c_ := bne_eq_false_iff_eq.mp (Bool.eq_false_iff.mpr c_); subst c_) | (replace c_ := (show (_ : Bool) = true from c_); try have := beq_eq_false_iff_ne.mpr (bne_iff_ne.mp c_)) | (replace c_ := Bool.eq_false_iff.mpr c_) | (have := beq_iff_eq.mpr c_; have := bne_eq_false_iff_eq.mpr c_; clear c_) | (have := beq_eq_false_iff_ne.mpr c_; have := bne_iff_ne.mpr c_; clear c_) | (have := decide_eq_true (show _ ≤ _ from c_); clear c_) | (have := decide_eq_true (show _ < _ from c_); clear c_) | (have := decide_eq_false (show ¬ (_ ≤ _) from c_); clear c_) | (have := decide_eq_false (show ¬ (_ < _) from c_); clear c_))) | (with_reducible exact (none_ne HH.out).elim) | (with_reducible exact (ft_ne HH.out).elim) | fail)) <;>
        (apply lpure rfl rfl; (go_simp; with_reducible rfl); (simp only [Act.put, List.setIfInBounds_toArray, List.set_cons_zero, List.set_cons_succ, i64_w, i32_w, tmod_nat]; rfl)) <;>
        (apply lend))
        | go_step | fail))
  all_goals (have h_ := HH.out; clear HH; cases h_ <;> (go_ret; exact ⟨by first | rfl | (simp [errW_none, errW_some] <;> rfl) | (simp [*, errW_none, errW_some] <;> rfl), HF.below⟩))

/-! ### impl_FourBytes: function 36 -/
def impl_FourBytes.f (k : Nat) (a0_0 : Int) (a0_1 : Int) (a0_2 : Int) (a0_3 : Int) (a0_4 : Int) (a0_5 : Int) (a0_6 : Int) (a0_7 : Int) (a0_8 : Int) (a0_9 : Int) (a0_10 : Int) (a0_11 : Int) (a0_12 : Int) (a0_13 : Int) (a0_14 : Int) (a0_15 : Int) (a0_16 : Int) (l0_17 : List Int) (l0_18 : List Int) : Option (List Int) := (impl_FourOk.f a0_0 a0_1 a0_2 a0_3 a0_4 a0_5 a0_6 a0_7 a0_8 a0_9 a0_10 a0_11 a0_12 a0_13 a0_14 a0_15 a0_16 l0_17 l0_18).bind fun t381 => (if t381 = true then ((impl_HeadSum.f k a0_0 a0_1 a0_2 a0_3 a0_4 a0_5 a0_6 a0_7 a0_8 a0_9 a0_10 a0_11 a0_12 a0_13 a0_14 a0_15 a0_16 l0_17 l0_18).bind fun t382 => ((impl_Four_head.f k a0_0 a0_1 a0_2 a0_3 a0_4 a0_5 a0_6 a0_7 a0_8 a0_9 a0_10 a0_11 a0_12 a0_13 a0_14 a0_15 a0_16 l0_17 l0_18 t382).bind fun t383 => ((slices_Concat_byte_byte.f k (([t383, l0_18] : List (List Int)))).bind fun t389 => (some t389)))) else (some ([] : List Int)))
theorem impl_FourBytes.mono : ∀ a0 a1 a2 a3 a4 a5 a6 a7 a8 a9 a10 a11 a12 a13 a14 a15 a16 a17 a18 k, LeO (impl_FourBytes.f k a0 a1 a2 a3 a4 a5 a6 a7 a8 a9 a10 a11 a12 a13 a14 a15 a16 a17 a18) (impl_FourBytes.f (k + 1) a0 a1 a2 a3 a4 a5 a6 a7 a8 a9 a10 a11 a12 a13 a14 a15 a16 a17 a18) := by
  intro a0 a1 a2 a3 a4 a5 a6 a7 a8 a9 a10 a11 a12 a13 a14 a15 a16 a17 a18 k
  unfold impl_FourBytes.f
  repeat' first
      | (with_reducible exact impl_Four_head.mono _ _ _ _ _ _ _ _ _ _ _ _ _ _ _ _ _ _ _ _ _)
      | (with_reducible exact impl_HeadSum.mono _ _ _ _ _ _ _ _ _ _ _ _ _ _ _ _ _ _ _ _)
      | (with_reducible exact slices_Concat_byte_byte.mono _ _)
      | (with_reducible exact LeO.refl _)
      | (with_reducible exact LeO.none _)
      | (with_reducible refine LeO.ite ?_ ?_)
      | (with_reducible refine LeO.bind ?_ (fun _ => ?_))
      | exact impl_Four_head.mono _ _ _ _ _ _ _ _ _ _ _ _ _ _ _ _ _ _ _ _ _
      | exact impl_HeadSum.mono _ _ _ _ _ _ _ _ _ _ _ _ _ _ _ _ _ _ _ _
      | exact slices_Concat_byte_byte.mono _ _
      | exact LeO.none _
      | refine LeO.ite ?_ ?_
      | refine LeO.bind ?_ (fun _ => ?_)
def impl_FourBytes.T3 : Bool × List (List Nat × List Nat) := (true, [([], []), ([], []), ([1], [1]), ([0, 2, 2], [0, 2]), ([], []), ([4], [4]), ([3, 5], [3, 5]), ([6, 3], [6]), ([7, 7, 0, 1, 2, 3, 4, 5, 6, 7], [7])])
def impl_FourBytes.B3 : List Nat := [0, 0, 2, 7, 0, 16, 63, 127, 255]
theorem impl_FourBytes.tab3 : rtab .any (opsOf Try.f36 3) = impl_FourBytes.T3 := by kernel_rfl
theorem impl_FourBytes.bits3 : waitsOk impl_FourBytes.T3.2 impl_FourBytes.B3 = true := by kernel_rfl
set_option maxHeartbeats 8000000 in
set_option maxRecDepth 100000 in
theorem impl_FourBytes.calls (k : Nat) (a0_0 : Int) (a0_1 : Int) (a0_2 : Int) (a0_3 : Int) (a0_4 : Int) (a0_5 : Int) (a0_6 : Int) (a0_7 : Int) (a0_8 : Int) (a0_9 : Int) (a0_10 : Int) (a0_11 : Int) (a0_12 : Int) (a0_13 : Int) (a0_14 : Int) (a0_15 : Int) (a0_16 : Int) (A0_17 : Option Addr) (c0_17 : Nat) (l0_17 : List Int) (A0_18 : Option Addr) (c0_18 : Nat) (l0_18 : List Int) (r : List Int) (w : World) (hr0_17 : Kd.C (Kd.int .u8) w A0_17 l0_17.length l0_17) (hc0_17 : l0_17.length ≤ c0_17) (hr0_18 : Kd.C (Kd.int .u8) w A0_18 l0_18.length l0_18) (hc0_18 : l0_18.length ≤ c0_18) (h : impl_FourBytes.f k a0_0 a0_1 a0_2 a0_3 a0_4 a0_5 a0_6 a0_7 a0_8 a0_9 a0_10 a0_11 a0_12 a0_13 a0_14 a0_15 a0_16 l0_17 l0_18 = some r) :
    Calls Try.prog 36 #[.agg #[.int .i64 a0_0, .int .i64 a0_1, .int .i64 a0_2, .int .i64 a0_3, .int .i64 a0_4, .int .i64 a0_5, .int .i64 a0_6, .int .i64 a0_7, .int .i64 a0_8, .int .i64 a0_9, .int .i64 a0_10, .int .i64 a0_11, .int .i64 a0_12, .int .i64 a0_13, .int .i64 a0_14, .int .i64 a0_15, .int .i64 a0_16, .slice A0_17 l0_17.length c0_17, .slice A0_18 l0_18.length c0_18]] w fun e w' => ∃ v0_ : Value, e = .returned (v0_) ∧ Kd.R (Kd.int .u8) 5 w' w.heap.size (fun _ => True) v0_ r ∧ Below w.heap.size w w' := by
  have hu62 := Try.underlying62
  have hu135 := Try.underlying135
  have O36_ : IsOne Try.prog 36 := ⟨⟨_, Try.underlying36, rfl⟩, by kernel_rfl⟩
  have R62_ : IsRow Try.prog 62 19 := ⟨⟨_, Try.underlying62, rfl⟩, by kernel_rfl⟩
  have HR0_17 := Aside0.mk hr0_17
  have HC0_17 := Aside0.mk hc0_17
  have HR0_18 := Aside0.mk hr0_18
  have HC0_18 := Aside0.mk hc0_18
  clear hr0_17 hc0_17 hr0_18 hc0_18
  have HF := Fr.start [62] w
  unfold impl_FourBytes.f at h
  have HH := Aside0.mk h
  clear h
  go_enter Try.func36, Try.ntmps36
  all_goals (repeat' (first
        | (((with_reducible refine gate_region (id := 0) ?_); apply plain_region) <;>
        (((with_reducible apply Fr.lbox HF rfl rfl rfl); (go_simp; rfl); decide; clear HF; intro g_ w_ HF); (refine lnorm (a' := ?_) ?_ ?_; rotate_left; (simp only [Act.put, List.setIfInBounds_toArray, List.set_cons_zero, List.set_cons_succ, i64_w, i32_w, u8_wr, tmod_nat]; rfl))) <;>
        (apply lpure rfl rfl; (go_simp; with_reducible rfl); (simp only [Act.put, List.setIfInBounds_toArray, List.set_cons_zero, List.set_cons_succ, i64_w, i32_w, u8_wr, tmod_nat]; rfl)) <;>
        (apply lend))
        | (((with_reducible refine gate_region (id := 1) ?_); apply plain_region) <;>
        (apply HF.lrow rfl rfl rfl R62_ rfl; (repeat (first | exact At.head | apply At.tail)); (simp only [List.drop_succ_cons, List.drop_zero, List.take_succ_cons, List.take_zero]; rfl); rfl; (simp only [Act.put, List.setIfInBounds_toArray, List.set_cons_zero, List.set_cons_succ, i64_w, i32_w, u8_wr, tmod_nat]; rfl)) <;>
        (have h_ := HH.out; (with_reducible replace h_ := Option.bind_eq_some_iff.mp h_); clear HH; obtain ⟨_, A_, h_⟩ := h_; have HH := Aside0.mk h_; clear h_; replace A_ := Aside0.mk A_; apply lcall rfl rfl rfl Try.func83 (by kernel_rfl) rfl; (with_reducible apply Calls.mono); (with_reducible apply impl_FourOk.calls (h := A_.out)); (first | exact Kd.C_below HR0_17.out HF.below | exact Kd.C_below HR0_18.out HF.below); (first | exact HC0_17.out | exact HC0_18.out); (first | exact Kd.C_below HR0_17.out HF.below | exact Kd.C_below HR0_18.out HF.below); (first | exact HC0_17.out | exact HC0_18.out); rintro e w_ ⟨rfl, hb_⟩; refine ⟨_, rfl, ?_⟩; replace HF := HF.call hb_; clear hb_; rotate_left; (first | rfl | (simp only [List.map_toArray, List.map_cons, List.map_nil]; first | done | rfl)); clear A_; (refine lnorm (a' := ?_) ?_ ?_; rotate_left; (simp only [Act.put, List.setIfInBounds_toArray, List.set_cons_zero, List.set_cons_succ, i64_w, i32_w, u8_wr, tmod_nat]; rfl))) <;>
        (repeat' (first | (have h_ := HH.out; (with_reducible replace h_ := ite_ways h_); clear HH; rcases h_ with ⟨c_, h_⟩ | ⟨c_, h_⟩ <;> (have HH := Aside0.mk h_; clear h_; first | (replace c_ := (show (_ : Bool) = true from c_); subst c_) | (replace c_ := Bool.eq_false_iff.mpr c_; subst c_) | (replace c_ := bne_eq_false_iff_eq.mp (Bool.eq_false_iff.mpr c_); subst c_) | (replace c_ := (show (_ : Bool) = true from c_); try have := beq_eq_false_iff_ne.mpr (bne_iff_ne.mp c_)) | (replace c_ := Bool.eq_false_iff.mpr c_) | (have := beq_iff_eq.mpr c_; have := bne_eq_false_iff_eq.mpr c_; clear c_) | (have := beq_eq_false_iff_ne.mpr c_; have := bne_iff_ne.mpr c_; clear c_) | (have := decide_eq_true (show _ ≤ _ from c_); clear c_) | (have := decide_eq_true (show _ < _ from c_); clear c_) | (have := decide_eq_false (show ¬ (_ ≤ _) from c_); clear c_) | (have := decide_eq_false (show ¬ (_ < _) from c_); clear c_))) | (with_reducible exact (none_ne HH.out).elim) | (with_reducible exact (ft_ne HH.out).elim) | fail)) <;>
        (apply lpure rfl rfl; (go_simp; with_reducible rfl); (simp only [Act.put, List.setIfInBounds_toArray, List.set_cons_zero, List.set_cons_succ, i64_w, i32_w, u8_wr, tmod_nat]; rfl)) <;>
        (apply lend))
        | (((with_reducible refine gate_region (id := 2) ?_); apply plain_region) <;>
        (apply lpure rfl rfl; (go_simp; with_reducible rfl); (simp only [Act.put, List.setIfInBounds_toArray, List.set_cons_zero, List.set_cons_succ, i64_w, i32_w, u8_wr, tmod_nat]; rfl)) <;>
        (apply lend))
        | (((with_reducible refine gate_region (id := 3) ?_); refine HF.region (by kernel_rfl) rfl ?_; clear HF; intro w_ HF; have HG := HF; refine with_tabW impl_FourBytes.tab3 impl_FourBytes.bits3 (fun HT_ HW_ => ?_)) <;>
        (apply HF.rrow 0 rfl rfl rfl rfl (take_ofW HT_.out HW_.out (by kernel_rfl)) (fun _ _ _ h => h) R62_ rfl; (repeat (first | exact At.head | apply At.tail)); (simp only [List.drop_succ_cons, List.drop_zero, List.take_succ_cons, List.take_zero]; rfl); rfl; (simp only [Act.put, List.setIfInBounds_toArray, List.set_cons_zero, List.set_cons_succ, i64_w, i32_w, u8_wr, tmod_nat]; rfl)) <;>
        (apply HF.rrow 1 rfl rfl rfl rfl (take_ofW HT_.out HW_.out (by kernel_rfl)) (fun _ _ _ h => h) R62_ rfl; (repeat (first | exact At.head | apply At.tail)); (simp only [List.drop_succ_cons, List.drop_zero, List.take_succ_cons, List.take_zero]; rfl); rfl; (simp only [Act.put, List.setIfInBounds_toArray, List.set_cons_zero, List.set_cons_succ, i64_w, i32_w, u8_wr, tmod_nat]; rfl)) <;>
        (apply Fr.rpure 4 rfl rfl rfl (any_of HT_.out (by kernel_rfl)) (fun _ _ _ h => h); (intro w_; go_simp; with_reducible rfl); (simp only [Act.put, List.setIfInBounds_toArray, List.set_cons_zero, List.set_cons_succ, i64_w, i32_w, u8_wr, tmod_nat]; rfl)) <;>
        (apply HF.rone 5 rfl rfl rfl rfl (take_ofW HT_.out HW_.out (by kernel_rfl)) (fun _ _ _ h => h) O36_ rfl; (repeat (first | exact At.head | apply At.tail)); rfl; (simp only [Act.put, List.setIfInBounds_toArray, List.set_cons_zero, List.set_cons_succ, i64_w, i32_w, u8_wr, tmod_nat]; rfl)) <;>
        (have h_ := HH.out; (with_reducible replace h_ := Option.bind_eq_some_iff.mp h_); clear HH; obtain ⟨_, A_, h_⟩ := h_; have HH := Aside0.mk h_; clear h_; replace A_ := Aside0.mk A_; apply rcall 2 rfl rfl rfl rfl (one_of HT_.out (by kernel_rfl)) (by simp) Try.func33 (by kernel_rfl) rfl; (with_reducible apply Calls.mono); (with_reducible apply impl_HeadSum.calls (h := A_.out)); (first | exact Kd.C_below HR0_17.out HF.below | exact Kd.C_below HR0_18.out HF.below); (first | exact HC0_17.out | exact HC0_18.out); (first | exact Kd.C_below HR0_17.out HF.below | exact Kd.C_below HR0_18.out HF.below); (first | exact HC0_17.out | exact HC0_18.out); rintro e w_ ⟨rfl, hb_⟩; refine ⟨_, rfl, HF.call hb_, ?_⟩; replace HG := HG.call hb_; clear HF hb_; intro HF; rotate_left; (first | rfl | (simp only [List.map_toArray, List.map_cons, List.map_nil]; first | done | rfl)); clear A_; refine norm_ (a' := ?_) ?_ ?_; rotate_left; (simp only [Act.put, List.setIfInBounds_toArray, List.set_cons_zero, List.set_cons_succ, i64_w, i32_w, u8_wr, tmod_nat]; rfl)) <;>
        (have h_ := HH.out; (with_reducible replace h_ := Option.bind_eq_some_iff.mp h_); clear HH; obtain ⟨_, A_, h_⟩ := h_; have HH := Aside0.mk h_; clear h_; replace A_ := Aside0.mk A_; apply rcall 3 rfl rfl rfl rfl (one_of HT_.out (by kernel_rfl)) (by simp) Try.func85 (by kernel_rfl) rfl; (with_reducible apply Calls.mono); (with_reducible apply impl_Four_head.calls (h := A_.out)); (first | exact Kd.C_below HR0_17.out HF.below | exact Kd.C_below HR0_18.out HF.below); (first | exact HC0_17.out | exact HC0_18.out); (first | exact Kd.C_below HR0_17.out HF.below | exact Kd.C_below HR0_18.out HF.below); (first | exact HC0_17.out | exact HC0_18.out); rintro e w_ ⟨v0_, rfl, ho0_, hb_⟩; obtain ⟨Av_, cv_, rfl⟩ := Kd.R_slice ho0_; have HO_ := HG.row ho0_; clear ho0_; refine ⟨_, rfl, HF.call hb_, ?_⟩; replace HG := (HG.call hb_).mark; clear HF hb_; intro HF; rotate_left; (first | rfl | (simp only [List.map_toArray, List.map_cons, List.map_nil]; first | done | rfl)); clear A_; refine norm_ (a' := ?_) ?_ ?_; rotate_left; (simp only [Act.put, List.setIfInBounds_toArray, List.set_cons_zero, List.set_cons_succ, i64_w, i32_w, u8_wr, tmod_nat]; rfl)) <;>
        (apply rbuild HF 6 rfl rfl rfl (one_of HT_.out (by kernel_rfl)) (by simp); (go_simp; first | exact ⟨rfl, rfl⟩ | exact ⟨rfl, rfl, rfl⟩ | rfl); clear HF; intro g_ w_ hg_ hb_ hh_ HF; replace HG := (HG.call hb_).mark; (try simp only [u8_wr, i64_w] at hh_); have HL_ := Aside0.mk hh_; clear hh_ hb_; refine norm_ (a' := ?_) ?_ ?_; rotate_left; (simp only [Act.put, List.setIfInBounds_toArray, List.set_cons_zero, List.set_cons_succ, i64_w, i32_w, u8_wr, tmod_nat]; rfl)) <;>
        (have h_ := HH.out; (with_reducible replace h_ := Option.bind_eq_some_iff.mp h_); clear HH; obtain ⟨_, A_, h_⟩ := h_; have HH := Aside0.mk h_; clear h_; replace A_ := Aside0.mk A_; have HZ_ := Aside0.mk HG.below.size; apply rcall 7 rfl rfl rfl rfl (one_of HT_.out (by kernel_rfl)) (by simp) Try.func86 (by kernel_rfl) rfl; (with_reducible apply Calls.mono); (with_reducible apply slices_Concat_byte_byte.calls (A0 := some ⟨g_, 0, none⟩) (c0 := 2) (h := A_.out)); exact rowsC (HG.lit HL_ (by simp) (by decide)) (by (repeat' (first | exact RowsAt.nil | refine RowsAt.cons rfl ?_ ?_ ?_)); all_goals first | exact HC0_18.out | exact Kd.C_below HR0_18.out HG.below | exact HC0_17.out | exact Kd.C_below HR0_17.out HG.below | (apply And.right; (with_reducible apply HG.rowC); assumption; simp; decide) | (apply And.left; (with_reducible apply HG.rowC); assumption; simp; decide) | exact bytesC (xs := [_, _]) (HG.lit (by assumption) (by simp) (by decide)) (by simp) | exact Nat.le_refl _) (by simp); exact Nat.le_refl _; rintro e w_ ⟨v0_, rfl, ho0_, hb_⟩; obtain ⟨Av_, cv_, rfl⟩ := Kd.R_slice ho0_; have HO_ := HG.row ho0_; clear ho0_; refine ⟨_, rfl, HF.call hb_, ?_⟩; replace HG := (HG.call hb_).mark; clear HF hb_; intro HF; rotate_left; (first | rfl | (simp only [List.map_toArray, List.map_cons, List.map_nil]; first | done | rfl)); clear A_; refine norm_ (a' := ?_) ?_ ?_; rotate_left; (simp only [Act.put, List.setIfInBounds_toArray, List.set_cons_zero, List.set_cons_succ, i64_w, i32_w, u8_wr, tmod_nat]; rfl)) <;>
        (apply Fr.rpure 8 rfl rfl rfl (any_of HT_.out (by kernel_rfl)) (fun _ _ _ h => h); (intro w_; go_simp; with_reducible rfl); (simp only [Act.put, List.setIfInBounds_toArray, List.set_cons_zero, List.set_cons_succ, i64_w, i32_w, u8_wr, tmod_nat]; rfl)) <;>
        (refine done_ (done_of HT_.out (by kernel_rfl)) ?_; replace HF := HG; clear HG))
        | go_step | fail))
  all_goals (go_ret; obtain rfl := Option.some.inj HH.out; first | exact ⟨_, rfl, Kd.R_mono (HF.row_now HO_.out (by simp) (by decide)) (fun _ _ => trivial), HF.below⟩ | exact ⟨_, rfl, Kd.R_nil _ _ _ _ _, HF.below⟩)

/-! ### laws_markFour: function 37 -/
def laws_markFour.f (k : Nat) (a0_0 : Int) (a0_1 : Int) (a0_2 : Int) (a0_3 : Int) (a0_4 : Int) (a0_5 : Int) (a0_6 : Int) (a0_7 : Int) (a0_8 : Int) (a0_9 : Int) (a0_10 : Int) (a0_11 : Int) (a0_12 : Int) (a0_13 : Int) (a0_14 : Int) (a0_15 : Int) (a0_16 : Int) (l0_17 : List Int) (l0_18 : List Int) (a1 : Int) : Option (Int × List Int × List Int) := (laws_markByteS.f k l0_17 a1).bind fun bt393 => ((laws_markByteS.f k l0_18 bt393.1).bind fun bt395 => (some (bt395.1, bt393.2, bt395.2)))
theorem laws_markFour.mono : ∀ a0 a1 a2 a3 a4 a5 a6 a7 a8 a9 a10 a11 a12 a13 a14 a15 a16 a17 a18 a19 k, LeO (laws_markFour.f k a0 a1 a2 a3 a4 a5 a6 a7 a8 a9 a10 a11 a12 a13 a14 a15 a16 a17 a18 a19) (laws_markFour.f (k + 1) a0 a1 a2 a3 a4 a5 a6 a7 a8 a9 a10 a11 a12 a13 a14 a15 a16 a17 a18 a19) := by
  intro a0 a1 a2 a3 a4 a5 a6 a7 a8 a9 a10 a11 a12 a13 a14 a15 a16 a17 a18 a19 k
  unfold laws_markFour.f
  repeat' first
      | (with_reducible exact laws_markByteS.mono _ _ _)
      | (with_reducible exact LeO.refl _)
      | (with_reducible exact LeO.none _)
      | (with_reducible refine LeO.ite ?_ ?_)
      | (with_reducible refine LeO.bind ?_ (fun _ => ?_))
      | exact laws_markByteS.mono _ _ _
      | exact LeO.none _
      | refine LeO.ite ?_ ?_
      | refine LeO.bind ?_ (fun _ => ?_)
set_option maxHeartbeats 8000000 in
set_option maxRecDepth 100000 in
theorem laws_markFour.calls (k : Nat) (a0_0 : Int) (a0_1 : Int) (a0_2 : Int) (a0_3 : Int) (a0_4 : Int) (a0_5 : Int) (a0_6 : Int) (a0_7 : Int) (a0_8 : Int) (a0_9 : Int) (a0_10 : Int) (a0_11 : Int) (a0_12 : Int) (a0_13 : Int) (a0_14 : Int) (a0_15 : Int) (a0_16 : Int) (P0_17_ : Nat → Prop) (u9000_ : Value) (l0_17 : List Int) (P0_18_ : Nat → Prop) (u9001_ : Value) (l0_18 : List Int) (a1 : Int) (r1 : Int) (r2 : List Int) (r3 : List Int) (w0 w : World) (hB : Below w0.heap.size w0 w) (ho0_17 : Kd.R (Kd.int .u8) 5 w w0.heap.size P0_17_ u9000_ l0_17) (hp0_17_0_18 : ∀ k_, P0_17_ k_ → ¬ P0_18_ k_) (ho0_18 : Kd.R (Kd.int .u8) 5 w w0.heap.size P0_18_ u9001_ l0_18) (hp0_18_0_17 : ∀ k_, P0_18_ k_ → ¬ P0_17_ k_) (h : laws_markFour.f k a0_0 a0_1 a0_2 a0_3 a0_4 a0_5 a0_6 a0_7 a0_8 a0_9 a0_10 a0_11 a0_12 a0_13 a0_14 a0_15 a0_16 l0_17 l0_18 a1 = some (r1, r2, r3)) :
    Calls Try.prog 37 #[.agg #[.int .i64 a0_0, .int .i64 a0_1, .int .i64 a0_2, .int .i64 a0_3, .int .i64 a0_4, .int .i64 a0_5, .int .i64 a0_6, .int .i64 a0_7, .int .i64 a0_8, .int .i64 a0_9, .int .i64 a0_10, .int .i64 a0_11, .int .i64 a0_12, .int .i64 a0_13, .int .i64 a0_14, .int .i64 a0_15, .int .i64 a0_16, u9000_, u9001_], .int .i64 a1] w fun e w' => e = .returned (.int .i64 r1) ∧ Kd.R (Kd.int .u8) 5 w' w0.heap.size (fun k_ => ((P0_17_ k_ ∨ P0_18_ k_) ∨ w.heap.size ≤ k_)) u9000_ r2 ∧ Kd.R (Kd.int .u8) 5 w' w0.heap.size (fun k_ => ((P0_17_ k_ ∨ P0_18_ k_) ∨ w.heap.size ≤ k_)) u9001_ r3 ∧ Below w0.heap.size w0 w' ∧ Kept w w' (fun k_ => P0_17_ k_ ∨ P0_18_ k_) := by
  obtain ⟨A17_, c17_, rfl⟩ := Kd.R_slice ho0_17
  obtain ⟨A18_, c18_, rfl⟩ := Kd.R_slice ho0_18
  have hu62 := Try.underlying62
  have O36_ : IsOne Try.prog 36 := ⟨⟨_, Try.underlying36, rfl⟩, by kernel_rfl⟩
  unfold laws_markFour.f at h
  obtain ⟨⟨_, _⟩, A1_, h⟩ := Option.bind_eq_some_iff.mp h
  obtain ⟨⟨_, _⟩, A2_, h⟩ := Option.bind_eq_some_iff.mp h
  simp only [Option.some.injEq, Prod.mk.injEq] at h
  obtain ⟨rfl, rfl, rfl⟩ := h
  have HF := Fr.start [62] w
  go_enter Try.func37, Try.ntmps37
  repeat' (first
      | (((with_reducible refine gate_region (id := 0) ?_); apply plain_region) <;>
        (((with_reducible apply Fr.lbox HF rfl rfl rfl); (go_simp; rfl); decide; clear HF; intro g_ w_ HF); (refine lnorm (a' := ?_) ?_ ?_; rotate_left; (simp only [Act.put, List.setIfInBounds_toArray, List.set_cons_zero, List.set_cons_succ, i64_w, i32_w, tmod_nat]; rfl))) <;>
        (apply lpure rfl rfl; (go_simp; with_reducible rfl); (simp only [Act.put, List.setIfInBounds_toArray, List.set_cons_zero, List.set_cons_succ, i64_w, i32_w, tmod_nat]; rfl)) <;>
        (apply lend))
      | (((with_reducible refine gate_region (id := 1) ?_); apply plain_region) <;>
        (apply lpure rfl rfl; (go_simp; with_reducible rfl); (simp only [Act.put, List.setIfInBounds_toArray, List.set_cons_zero, List.set_cons_succ, i64_w, i32_w, tmod_nat]; rfl)) <;>
        (apply HF.lone rfl rfl rfl O36_ rfl; (repeat (first | exact At.head | apply At.tail)); rfl; (simp only [Act.put, List.setIfInBounds_toArray, List.set_cons_zero, List.set_cons_succ, i64_w, i32_w, tmod_nat]; rfl)) <;>
        (apply lpure rfl rfl; (go_simp; with_reducible rfl); (simp only [Act.put, List.setIfInBounds_toArray, List.set_cons_zero, List.set_cons_succ, i64_w, i32_w, tmod_nat]; rfl)) <;>
        (have HB0 := HF.below; have HFb := HF.rebase hB; have r17_ := R_tight (R_moved ho0_17 (T := [62]) (.below HB0) (by decide)); have r18_ := R_moved ho0_18 (T := [62]) (.below HB0) (by decide); apply lcall rfl rfl rfl Try.func21 (by kernel_rfl) rfl; (with_reducible apply Calls.mono); apply laws_markByteS.calls (w0 := w0) (hB := HFb.below) (ho0 := r17_) (h := A1_); rintro e W1_ ⟨rfl, q1_, b1_, k1_⟩; refine ⟨_, rfl, ?_⟩; have q1t_ := R_tight q1_; have q2_ := Kd.R_kept r18_ k1_ (fun k_ h18_ h17_ => hp0_17_0_18 k_ (ho0_17.1 k_ h17_) h18_); have K1_ := Kept.then_ (Kept.of_below HB0 (fun k_ => P0_17_ k_ ∨ P0_18_ k_)) k1_ (fun k_ h_ => .inl (.inl (ho0_17.1 k_ h_))); replace HFb := HFb.kept b1_ k1_ (R_type r17_) (by decide); clear HF; have HF := HFb; clear HFb; rotate_left; (first | rfl | (simp only [List.map_toArray, List.map_cons, List.map_nil]; first | done | rfl)); (refine lnorm (a' := ?_) ?_ ?_; rotate_left; (simp only [Act.put, List.setIfInBounds_toArray, List.set_cons_zero, List.set_cons_succ, i64_w, i32_w, tmod_nat]; rfl))) <;>
        (apply lpure rfl rfl; (go_simp; with_reducible rfl); (simp only [Act.put, List.setIfInBounds_toArray, List.set_cons_zero, List.set_cons_succ, i64_w, i32_w, tmod_nat]; rfl)) <;>
        (apply lend))
      | (((with_reducible refine gate_region (id := 2) ?_); apply plain_region) <;>
        (apply lpure rfl rfl; (go_simp; with_reducible rfl); (simp only [Act.put, List.setIfInBounds_toArray, List.set_cons_zero, List.set_cons_succ, i64_w, i32_w, tmod_nat]; rfl)) <;>
        (apply HF.lone rfl rfl rfl O36_ rfl; (repeat (first | exact At.head | apply At.tail)); rfl; (simp only [Act.put, List.setIfInBounds_toArray, List.set_cons_zero, List.set_cons_succ, i64_w, i32_w, tmod_nat]; rfl)) <;>
        (apply lpure rfl rfl; (go_simp; with_reducible rfl); (simp only [Act.put, List.setIfInBounds_toArray, List.set_cons_zero, List.set_cons_succ, i64_w, i32_w, tmod_nat]; rfl)) <;>
        (have r18t_ := R_tight q2_; apply lcall rfl rfl rfl Try.func21 (by kernel_rfl) rfl; (with_reducible apply Calls.mono); apply laws_markByteS.calls (w0 := w0) (hB := HF.below) (ho0 := r18t_) (h := A2_); rintro e W2_ ⟨rfl, q3_, b2_, k2_⟩; refine ⟨_, rfl, ?_⟩; have q4_ := Kd.R_kept q1t_ k2_ (fun k_ h17_ h18_ => hp0_17_0_18 k_ (ho0_17.1 k_ h17_) (ho0_18.1 k_ h18_)); have K2_ := Kept.then_ K1_ k2_ (fun k_ h_ => .inl (.inr (ho0_18.1 k_ h_))); replace HF := HF.kept b2_ k2_ (R_type r18t_) (by decide); rotate_left; (first | rfl | (simp only [List.map_toArray, List.map_cons, List.map_nil]; first | done | rfl)); (refine lnorm (a' := ?_) ?_ ?_; rotate_left; (simp only [Act.put, List.setIfInBounds_toArray, List.set_cons_zero, List.set_cons_succ, i64_w, i32_w, tmod_nat]; rfl))) <;>
        (apply lpure rfl rfl; (go_simp; with_reducible rfl); (simp only [Act.put, List.setIfInBounds_toArray, List.set_cons_zero, List.set_cons_succ, i64_w, i32_w, tmod_nat]; rfl)) <;>
        (apply lend))
      | (((with_reducible refine gate_region (id := 3) ?_); apply plain_region) <;>
        (apply lpure rfl rfl; (go_simp; with_reducible rfl); (simp only [Act.put, List.setIfInBounds_toArray, List.set_cons_zero, List.set_cons_succ, i64_w, i32_w, tmod_nat]; rfl)) <;>
        (apply lpure rfl rfl; (go_simp; with_reducible rfl); (simp only [Act.put, List.setIfInBounds_toArray, List.set_cons_zero, List.set_cons_succ, i64_w, i32_w, tmod_nat]; rfl)) <;>
        (apply lend))
      | go_step | fail)
  go_ret
  exact ⟨rfl, Kd.R_mono q4_ (fun k_ h_ => .inl (.inl (ho0_17.1 k_ h_))), Kd.R_mono (R_tight q3_) (fun k_ h_ => .inl (.inr (ho0_18.1 k_ h_))), b2_, K2_⟩

end Go.Proofs.Ytgkfgichilclgaa.FFnExactFourBytes
