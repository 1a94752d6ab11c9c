-- Contracts of functions, no condition.
import Derived.Test.YtffkgndghbdgnaaGreatGFnExactPacketBytesx11
import Derived.Test.YtffkgndghbdgnaaGreatGFnExactPacketBytesx12
namespace Go.Proofs.YtffkgndghbdgnaaGreat.FFnExactPacketBytes
open Go.RowKit Go.Proofs.YtffkgndghbdgnaaGreatW.PrintWords Go.Proofs.YtffkgndghbdgnaaGreatW.PrintLast Go.Proofs.YtffkgndghbdgnaaGreatW.PrintMore Go.Proofs.YtffkgndghbdgnaaGreat.Frame
attribute [local go_sem] max2_int min2_int max_two min_two max_three min_three max_four min_four
set_option linter.unusedVariables false
set_option maxHeartbeats 8000000
set_option maxRecDepth 100000
set_option linter.unusedSimpArgs false

/-! ### spec_UpperSum: function 53 -/
def spec_UpperSum.f (k : Nat) (a0_0 a0_1 a0_2 a0_3 a0_4 a0_5 a0_6 a0_7 a0_8 a0_9 a0_10 : Int) (a0_11 : Bool) (l0_12 l0_13 : List Int) (a1_0 a1_1 a1_2 a1_3 a1_4 a2_0 a2_1 a2_2 a2_3 a2_4 : Int) : Option (Int) := (spec_l07Pair.f a1_0 a1_1 a1_2 a1_3 a1_4 a2_0 a2_1 a2_2 a2_3 a2_4).bind fun t512 => (if t512 = true then ((spec_UpperOk.f a0_0 a0_1 a0_2 a0_3 a0_4 a0_5 a0_6 a0_7 a0_8 a0_9 a0_10 a0_11 l0_12 l0_13 a1_0).bind fun t513 => (if t513 = true then (if a0_0 = 0 then (some 0) else (if a0_11 = true then (some 0) else (if a0_0 = 1 then ((spec_UpperSize.f a0_0 a0_1 a0_2 a0_3 a0_4 a0_5 a0_6 a0_7 a0_8 a0_9 a0_10 a0_11 l0_12 l0_13).bind fun t514 => ((spec_PseudoSum.f k a1_0 a1_1 a1_2 a1_3 a1_4 a2_0 a2_1 a2_2 a2_3 a2_4 6 t514).bind fun t515 => ((spec_l07Bytes.f a0_0 a0_1 a0_2 a0_3 a0_4 a0_5 a0_6 a0_7 a0_8 a0_9 a0_10 a0_11 l0_12 l0_13 0).bind fun t516 => ((spec_OnesSum.f k t516).bind fun t519 => ((spec_SumAdd.f t515 t519).bind fun t520 => (if (wrap64 (65535 - t520)) = 0 then (if a0_0 = 2 then (some 65535) else (some (wrap64 (65535 - t520)))) else (some (wrap64 (65535 - t520))))))))) else (if a0_0 = 2 then ((spec_UpperSize.f a0_0 a0_1 a0_2 a0_3 a0_4 a0_5 a0_6 a0_7 a0_8 a0_9 a0_10 a0_11 l0_12 l0_13).bind fun t521 => ((spec_PseudoSum.f k a1_0 a1_1 a1_2 a1_3 a1_4 a2_0 a2_1 a2_2 a2_3 a2_4 17 t521).bind fun t522 => ((spec_l07Bytes.f a0_0 a0_1 a0_2 a0_3 a0_4 a0_5 a0_6 a0_7 a0_8 a0_9 a0_10 a0_11 l0_12 l0_13 0).bind fun t523 => ((spec_OnesSum.f k t523).bind fun t526 => ((spec_SumAdd.f t522 t526).bind fun t527 => (if (wrap64 (65535 - t527)) = 0 then (some 65535) else (some (wrap64 (65535 - t527))))))))) else (if a1_0 = 6 then ((spec_UpperSize.f a0_0 a0_1 a0_2 a0_3 a0_4 a0_5 a0_6 a0_7 a0_8 a0_9 a0_10 a0_11 l0_12 l0_13).bind fun t528 => ((spec_PseudoSum.f k a1_0 a1_1 a1_2 a1_3 a1_4 a2_0 a2_1 a2_2 a2_3 a2_4 58 t528).bind fun t529 => ((spec_l07Bytes.f a0_0 a0_1 a0_2 a0_3 a0_4 a0_5 a0_6 a0_7 a0_8 a0_9 a0_10 a0_11 l0_12 l0_13 0).bind fun t530 => ((spec_OnesSum.f k t530).bind fun t533 => ((spec_SumAdd.f t529 t533).bind fun t534 => (if (wrap64 (65535 - t534)) = 0 then (some (wrap64 (65535 - t534))) else (some (wrap64 (65535 - t534))))))))) else ((spec_l07Bytes.f a0_0 a0_1 a0_2 a0_3 a0_4 a0_5 a0_6 a0_7 a0_8 a0_9 a0_10 a0_11 l0_12 l0_13 0).bind fun t535 => ((spec_OnesSum.f k t535).bind fun t538 => ((spec_SumAdd.f 0 t538).bind fun t539 => (if (wrap64 (65535 - t539)) = 0 then (some (wrap64 (65535 - t539))) else (some (wrap64 (65535 - t539)))))))))))) else (some (-1)))) else (some (-1)))
theorem spec_UpperSum.calls (k : Nat) (a0_0 a0_1 a0_2 a0_3 a0_4 a0_5 a0_6 a0_7 a0_8 a0_9 a0_10 : Int) (a0_11 : Bool) (A0_12 : Option Addr) (c0_12 : Nat) (l0_12 : List Int) (A0_13 : Option Addr) (c0_13 : Nat) (l0_13 : List Int) (a1_0 a1_1 a1_2 a1_3 a1_4 a2_0 a2_1 a2_2 a2_3 a2_4 r : Int) (w : World) (hr0_12 : Kd.C (Kd.int .u8) w A0_12 l0_12.length l0_12) (hc0_12 : l0_12.length ≤ c0_12) (hr0_13 : Kd.C (Kd.int .u8) w A0_13 l0_13.length l0_13) (hc0_13 : l0_13.length ≤ c0_13) (h : spec_UpperSum.f k a0_0 a0_1 a0_2 a0_3 a0_4 a0_5 a0_6 a0_7 a0_8 a0_9 a0_10 a0_11 l0_12 l0_13 a1_0 a1_1 a1_2 a1_3 a1_4 a2_0 a2_1 a2_2 a2_3 a2_4 = some r) :
  Calls Tryz.prog 53 #[.agg #[.int .i64 a0_0, .int .i64 a0_1, .int .i64 a0_2, .int .i64 a0_3, .int .i64 a0_4, .int .i64 a0_5, .int .i64 a0_6, .int .i64 a0_7, .int .i64 a0_8, .int .i64 a0_9, .int .i64 a0_10, .bool a0_11, .slice A0_12 l0_12.length c0_12, .slice A0_13 l0_13.length c0_13], .agg #[.int .i64 a1_0, .int .i64 a1_1, .int .i64 a1_2, .int .i64 a1_3, .int .i64 a1_4], .agg #[.int .i64 a2_0, .int .i64 a2_1, .int .i64 a2_2, .int .i64 a2_3, .int .i64 a2_4]] w fun e w' => e = .returned (.int .i64 r) ∧ Below w.heap.size w w' := by
 have hu39 := Tryz.underlying39
 have hu45 := Tryz.underlying45
 have HR0_12 := Aside0.mk hr0_12
 have HC0_12 := Aside0.mk hc0_12
 have HR0_13 := Aside0.mk hr0_13
 have HC0_13 := Aside0.mk hc0_13
 clear hr0_12 hc0_12 hr0_13 hc0_13
 have HF := Fr.start [39, 45] w
 have HP := Aside0.mk True.intro
 unfold spec_UpperSum.f at h
 have HH := Aside0.mk h
 clear h
 go_enter Tryz.func53, Tryz.ntmps53
 all_goals (repeat' (first
    | ((with_reducible refine gA 0 ?_) <;> (refine HF.bA ?_; clear HF; intro g_ w_ HF; refine nA ?_) <;> (refine HF.bA ?_; clear HF; intro g_ w_ HF; refine nA ?_) <;> (refine HF.bA ?_; clear HF; intro g_ w_ HF; refine nA ?_) <;> (refine sA ?_) <;> (apply lend))
    | ((with_reducible refine gA 1 ?_) <;> (iterate 2 refine sA ?_) <;> ((replace HH := bA HH); obtain ⟨_, A11_, HH⟩ := HH) <;> (repeat' (with_reducible first | (replace HH := iA HP HH; clear HP; rcases HH with ⟨p, HP, HH⟩ | ⟨p, HP, HH⟩ <;> subst p) | fail)) <;> (refine HF.cB Tryz.func88 (by (with_reducible apply spec_l07Pair.calls (h := A11_.out))) ?_; clear HF A11_; intro w_ HF) <;> (iterate 5 refine sA ?_) <;> (first | (((replace HH := bA HH); obtain ⟨_, A17_, HH⟩ := HH) <;> (repeat' (with_reducible first | (replace HH := iA HP HH; clear HP; rcases HH with ⟨p, HP, HH⟩ | ⟨p, HP, HH⟩ <;> first | subst p | cases p) | fail)) <;> (refine HF.cB Tryz.func89 (by (with_reducible apply spec_UpperOk.calls (h := A17_.out)) <;> exact gP) ?_; clear HF A17_; intro w_ HF)) | (refine oA ?_)) <;> (iterate 2 refine sA ?_) <;> (apply lend))
    | ((with_reducible refine gA 2 ?_) <;> (refine sA ?_) <;> (apply lend))
    | ((with_reducible refine gA 3 ?_) <;> (iterate 7 refine sA ?_) <;> (apply lend))
    | ((with_reducible refine gA 4 ?_) <;> (refine sA ?_) <;> (apply lend))
    | ((with_reducible refine gA 5 ?_) <;> (refine sA ?_) <;> (apply lend))
    | ((with_reducible refine gA 6 ?_) <;> (iterate 4 refine sA ?_) <;> (apply lend))
    | (((with_reducible refine gate_region (id := 7) ?_); have HG := HF; refine HG.region2 HF (by kernel_rfl) rfl ?_; clear HF HG; intro w_ HF HG) <;> ((replace HH := bA HH); obtain ⟨_, A34_, HH⟩ := HH) <;> ((replace HH := bA HH); obtain ⟨_, A35_, HH⟩ := HH) <;> (refine dA 0 ?_; refine dA 1 ?_; refine dA 2 ?_) <;> (refine HF.cD HG 3 Tryz.func91 (by (with_reducible apply spec_UpperSize.calls (h := A34_.out)) <;> exact gP) ?_; clear HF HG A34_; intro w_ HG HF) <;> (refine HF.cD HG 4 Tryz.func90 (by (with_reducible apply spec_PseudoSum.calls (h := A35_.out))) ?_; clear HF HG A35_; intro w_ HG HF) <;> (refine dA 5 ?_) <;> (refine done_ (by kernel_rfl) ?_; clear HF; have HF := HG; clear HG))
    | ((with_reducible refine gA 12 ?_) <;> (iterate 2 refine sA ?_) <;> ((replace HH := bA HH); obtain ⟨_, A56_, HH⟩ := HH) <;> (refine HF.rB Tryz.func94 (by (with_reducible apply spec_l07Bytes.calls (h := A56_.out)) <;> exact gP) ?_; clear HF A56_; intro Av56_0 cv56_0 w_ HO56_0 HB56 HF; refine nA ?_) <;> ((replace HH := bA HH); obtain ⟨_, A57_, HH⟩ := HH) <;> (refine HF.dB Tryz.func93 (by (with_reducible apply spec_OnesSum.calls (h := A57_.out)) <;> exact gP) ?_; clear HF A57_; intro w_ HF) <;> ((replace HH := bA HH); obtain ⟨_, A58_, HH⟩ := HH) <;> (repeat' (with_reducible first | (replace HH := iA HP HH; clear HP; rcases HH with ⟨p, HP, HH⟩ | ⟨p, HP, HH⟩ <;> cases p) | fail)) <;> (refine HF.dB Tryz.func92 (by (with_reducible apply spec_SumAdd.calls (h := A58_.out))) ?_; clear HF A58_; intro w_ HF) <;> (iterate 2 refine sA ?_) <;> (apply lend))
    | ((with_reducible refine gA 13 ?_) <;> (iterate 7 refine sA ?_) <;> (apply lend))
    | ((with_reducible refine gA 14 ?_) <;> (refine sA ?_) <;> (apply lend))
    | ((with_reducible refine gA 15 ?_) <;> (iterate 2 refine sA ?_) <;> (apply lend))
    | ((with_reducible refine gA 8 ?_) <;> (iterate 4 refine sA ?_) <;> (apply lend))
    | (((with_reducible refine gate_region (id := 9) ?_); have HG := HF; refine HG.region2 HF (by kernel_rfl) rfl ?_; clear HF HG; intro w_ HF HG) <;> ((replace HH := bA HH); obtain ⟨_, A43_, HH⟩ := HH) <;> ((replace HH := bA HH); obtain ⟨_, A44_, HH⟩ := HH) <;> (refine dA 0 ?_; refine dA 1 ?_; refine dA 2 ?_) <;> (refine HF.cD HG 3 Tryz.func91 (by (with_reducible apply spec_UpperSize.calls (h := A43_.out)) <;> exact gP) ?_; clear HF HG A43_; intro w_ HG HF) <;> (refine HF.cD HG 4 Tryz.func90 (by (with_reducible apply spec_PseudoSum.calls (h := A44_.out))) ?_; clear HF HG A44_; intro w_ HG HF) <;> (refine dA 5 ?_) <;> (refine done_ (by kernel_rfl) ?_; clear HF; have HF := HG; clear HG))
    | ((with_reducible refine gA 10 ?_) <;> (iterate 4 refine sA ?_) <;> (apply lend))
    | (((with_reducible refine gate_region (id := 11) ?_); have HG := HF; refine HG.region2 HF (by kernel_rfl) rfl ?_; clear HF HG; intro w_ HF HG) <;> ((replace HH := bA HH); obtain ⟨_, A52_, HH⟩ := HH) <;> ((replace HH := bA HH); obtain ⟨_, A53_, HH⟩ := HH) <;> (refine dA 0 ?_; refine dA 1 ?_; refine dA 2 ?_) <;> (refine HF.cD HG 3 Tryz.func91 (by (with_reducible apply spec_UpperSize.calls (h := A52_.out)) <;> exact gP) ?_; clear HF HG A52_; intro w_ HG HF) <;> (refine HF.cD HG 4 Tryz.func90 (by (with_reducible apply spec_PseudoSum.calls (h := A53_.out))) ?_; clear HF HG A53_; intro w_ HG HF) <;> (refine dA 5 ?_) <;> (refine done_ (by kernel_rfl) ?_; clear HF; have HF := HG; clear HG))
    | go_step | fail))
 all_goals (have h_ := HH.out; clear HH; cases h_ <;> (go_ret; first
   | exact ⟨vE, HF.below⟩))

end Go.Proofs.YtffkgndghbdgnaaGreat.FFnExactPacketBytes
