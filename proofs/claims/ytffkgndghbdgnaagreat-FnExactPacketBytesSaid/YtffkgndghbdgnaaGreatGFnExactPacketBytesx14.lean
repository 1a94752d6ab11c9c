-- Contracts of functions, no condition.
import Derived.Test.YtffkgndghbdgnaaGreatGFnExactPacketBytesx13
namespace Go.Proofs.YtffkgndghbdgnaaGreat.FFnExactPacketBytes
open Go.RowKit Go.Proofs.YtffkgndghbdgnaaGreatW.PrintWords Go.Proofs.YtffkgndghbdgnaaGreatW.PrintLast Go.Proofs.YtffkgndghbdgnaaGreatW.PrintMore Go.Proofs.YtffkgndghbdgnaaGreat.Frame
attribute [local go_sem] max2_int min2_int max_two min_two max_three min_three max_four min_four
set_option linter.unusedVariables false
set_option maxHeartbeats 8000000
set_option maxRecDepth 100000
set_option linter.unusedSimpArgs false

/-! ### spec_l08Src: function 54 -/
def spec_l08Src.f (a0_0 a0_1 a0_2 a0_3 a0_4 : Int) (l0_5 : List Int) (a0_6 a0_7 a0_8 a0_9 a0_10 a0_11 a0_12 a0_13 a0_14 a0_15 a0_16 a0_17 a0_18 a0_19 a0_20 a0_21 a0_22 : Int) (l0_23 l0_24 : List Int) (a0_25 a0_26 a0_27 a0_28 a0_29 a0_30 a0_31 a0_32 a0_33 a0_34 a0_35 a0_36 a0_37 a0_38 : Int) (l0_39 : List (S102)) (l0_40 : List Int) (a0_41 a0_42 a0_43 a0_44 a0_45 a0_46 a0_47 a0_48 a0_49 a0_50 a0_51 : Int) (a0_52 : Bool) (l0_53 l0_54 l0_55 : List Int) : Option (Int × Int × Int × Int × Int) := if a0_0 = 4 then (some (a0_13, a0_14, a0_15, a0_16, a0_17)) else (some (a0_29, a0_30, a0_31, a0_32, a0_33))
theorem spec_l08Src.calls (a0_0 a0_1 a0_2 a0_3 a0_4 : Int) (A0_5 : Option Addr) (c0_5 : Nat) (l0_5 : List Int) (a0_6 a0_7 a0_8 a0_9 a0_10 a0_11 a0_12 a0_13 a0_14 a0_15 a0_16 a0_17 a0_18 a0_19 a0_20 a0_21 a0_22 : Int) (A0_23 : Option Addr) (c0_23 : Nat) (l0_23 : List Int) (A0_24 : Option Addr) (c0_24 : Nat) (l0_24 : List Int) (a0_25 a0_26 a0_27 a0_28 a0_29 a0_30 a0_31 a0_32 a0_33 a0_34 a0_35 a0_36 a0_37 a0_38 : Int) (A0_39 : Option Addr) (c0_39 : Nat) (l0_39 : List (S102)) (A0_40 : Option Addr) (c0_40 : Nat) (l0_40 : List Int) (a0_41 a0_42 a0_43 a0_44 a0_45 a0_46 a0_47 a0_48 a0_49 a0_50 a0_51 : Int) (a0_52 : Bool) (A0_53 : Option Addr) (c0_53 : Nat) (l0_53 : List Int) (A0_54 : Option Addr) (c0_54 : Nat) (l0_54 : List Int) (A0_55 : Option Addr) (c0_55 : Nat) (l0_55 : List Int) (r1 r2 r3 r4 r5 : Int) (w : World) (hr0_5 : Kd.C (Kd.int .u8) w A0_5 l0_5.length l0_5) (hc0_5 : l0_5.length ≤ c0_5) (hr0_23 : Kd.C (Kd.int .u8) w A0_23 l0_23.length l0_23) (hc0_23 : l0_23.length ≤ c0_23) (hr0_24 : Kd.C (Kd.int .u8) w A0_24 l0_24.length l0_24) (hc0_24 : l0_24.length ≤ c0_24) (hr0_39 : Kd.C k102 w A0_39 l0_39.length l0_39) (hc0_39 : l0_39.length ≤ c0_39) (hr0_40 : Kd.C (Kd.int .u8) w A0_40 l0_40.length l0_40) (hc0_40 : l0_40.length ≤ c0_40) (hr0_53 : Kd.C (Kd.int .u8) w A0_53 l0_53.length l0_53) (hc0_53 : l0_53.length ≤ c0_53) (hr0_54 : Kd.C (Kd.int .u8) w A0_54 l0_54.length l0_54) (hc0_54 : l0_54.length ≤ c0_54) (hr0_55 : Kd.C (Kd.int .u8) w A0_55 l0_55.length l0_55) (hc0_55 : l0_55.length ≤ c0_55) (h : spec_l08Src.f a0_0 a0_1 a0_2 a0_3 a0_4 l0_5 a0_6 a0_7 a0_8 a0_9 a0_10 a0_11 a0_12 a0_13 a0_14 a0_15 a0_16 a0_17 a0_18 a0_19 a0_20 a0_21 a0_22 l0_23 l0_24 a0_25 a0_26 a0_27 a0_28 a0_29 a0_30 a0_31 a0_32 a0_33 a0_34 a0_35 a0_36 a0_37 a0_38 l0_39 l0_40 a0_41 a0_42 a0_43 a0_44 a0_45 a0_46 a0_47 a0_48 a0_49 a0_50 a0_51 a0_52 l0_53 l0_54 l0_55 = some (r1, r2, r3, r4, r5)) :
  Calls Tryz.prog 54 #[.agg #[.int .i64 a0_0, .int .i64 a0_1, .int .i64 a0_2, .int .i64 a0_3, .int .i64 a0_4, .slice A0_5 l0_5.length c0_5, .int .i64 a0_6, .int .i64 a0_7, .int .i64 a0_8, .int .i64 a0_9, .int .i64 a0_10, .int .i64 a0_11, .int .i64 a0_12, .int .i64 a0_13, .int .i64 a0_14, .int .i64 a0_15, .int .i64 a0_16, .int .i64 a0_17, .int .i64 a0_18, .int .i64 a0_19, .int .i64 a0_20, .int .i64 a0_21, .int .i64 a0_22, .slice A0_23 l0_23.length c0_23, .slice A0_24 l0_24.length c0_24, .int .i64 a0_25, .int .i64 a0_26, .int .i64 a0_27, .int .i64 a0_28, .int .i64 a0_29, .int .i64 a0_30, .int .i64 a0_31, .int .i64 a0_32, .int .i64 a0_33, .int .i64 a0_34, .int .i64 a0_35, .int .i64 a0_36, .int .i64 a0_37, .int .i64 a0_38, .slice A0_39 l0_39.length c0_39, .slice A0_40 l0_40.length c0_40, .int .i64 a0_41, .int .i64 a0_42, .int .i64 a0_43, .int .i64 a0_44, .int .i64 a0_45, .int .i64 a0_46, .int .i64 a0_47, .int .i64 a0_48, .int .i64 a0_49, .int .i64 a0_50, .int .i64 a0_51, .bool a0_52, .slice A0_53 l0_53.length c0_53, .slice A0_54 l0_54.length c0_54, .slice A0_55 l0_55.length c0_55]] w fun e w' => e = .returned (.agg #[.int .i64 r1, .int .i64 r2, .int .i64 r3, .int .i64 r4, .int .i64 r5]) ∧ Below w.heap.size w w' := by
 have hu41 := Tryz.underlying41
 have hu44 := Tryz.underlying44
 have hu47 := Tryz.underlying47
 have HR0_5 := Aside0.mk hr0_5
 have HC0_5 := Aside0.mk hc0_5
 have HR0_23 := Aside0.mk hr0_23
 have HC0_23 := Aside0.mk hc0_23
 have HR0_24 := Aside0.mk hr0_24
 have HC0_24 := Aside0.mk hc0_24
 have HR0_39 := Aside0.mk hr0_39
 have HC0_39 := Aside0.mk hc0_39
 have HR0_40 := Aside0.mk hr0_40
 have HC0_40 := Aside0.mk hc0_40
 have HR0_53 := Aside0.mk hr0_53
 have HC0_53 := Aside0.mk hc0_53
 have HR0_54 := Aside0.mk hr0_54
 have HC0_54 := Aside0.mk hc0_54
 have HR0_55 := Aside0.mk hr0_55
 have HC0_55 := Aside0.mk hc0_55
 clear hr0_5 hc0_5 hr0_23 hc0_23 hr0_24 hc0_24 hr0_39 hc0_39 hr0_40 hc0_40 hr0_53 hc0_53 hr0_54 hc0_54 hr0_55 hc0_55
 have HF := Fr.start [39, 47] w
 have HP := Aside0.mk True.intro
 unfold spec_l08Src.f at h
 have HH := Aside0.mk h
 clear h
 go_enter Tryz.func54, Tryz.ntmps54
 repeat' (with_reducible first | (replace HH := iA HP HH; clear HP; rcases HH with ⟨p, HP, HH⟩ | ⟨p, HP, HH⟩ <;> cases p) | fail)
 all_goals (repeat' (first
    | ((with_reducible refine gA 0 ?_) <;> (refine HF.bA ?_; clear HF; intro g_ w_ HF; refine nA ?_) <;> (refine HF.aA ?_; clear HF; intro g_ w_ HF; refine nA ?_) <;> (apply lend))
    | ((with_reducible refine gA 1 ?_) <;> (iterate 3 refine sA ?_) <;> (apply lend))
    | ((with_reducible refine gA 2 ?_) <;> (iterate 3 refine sA ?_) <;> (refine HF.tA ?_; clear HF; intro w_ HF) <;> (apply lend))
    | ((with_reducible refine gA 3 ?_) <;> (iterate 3 refine sA ?_) <;> (refine HF.tA ?_; clear HF; intro w_ HF) <;> (apply lend))
    | go_step | fail))
 all_goals (have h_ := HH.out; clear HH; cases h_ <;> (refine bodyPost_ret (results_cell_row rfl _ _ _ 39 _ (0, 0) _ rfl (HF.get (by repeat (exact At.head))) Tryz.underlying39 rfl (by kernel_rfl)) rfl ?_; first
   | exact ⟨vE, HF.below⟩))

/-! ### spec_l08Dst: function 55 -/
def spec_l08Dst.f (a0_0 a0_1 a0_2 a0_3 a0_4 : Int) (l0_5 : List Int) (a0_6 a0_7 a0_8 a0_9 a0_10 a0_11 a0_12 a0_13 a0_14 a0_15 a0_16 a0_17 a0_18 a0_19 a0_20 a0_21 a0_22 : Int) (l0_23 l0_24 : List Int) (a0_25 a0_26 a0_27 a0_28 a0_29 a0_30 a0_31 a0_32 a0_33 a0_34 a0_35 a0_36 a0_37 a0_38 : Int) (l0_39 : List (S102)) (l0_40 : List Int) (a0_41 a0_42 a0_43 a0_44 a0_45 a0_46 a0_47 a0_48 a0_49 a0_50 a0_51 : Int) (a0_52 : Bool) (l0_53 l0_54 l0_55 : List Int) : Option (Int × Int × Int × Int × Int) := if a0_0 = 4 then (some (a0_18, a0_19, a0_20, a0_21, a0_22)) else (some (a0_34, a0_35, a0_36, a0_37, a0_38))
theorem spec_l08Dst.calls (a0_0 a0_1 a0_2 a0_3 a0_4 : Int) (A0_5 : Option Addr) (c0_5 : Nat) (l0_5 : List Int) (a0_6 a0_7 a0_8 a0_9 a0_10 a0_11 a0_12 a0_13 a0_14 a0_15 a0_16 a0_17 a0_18 a0_19 a0_20 a0_21 a0_22 : Int) (A0_23 : Option Addr) (c0_23 : Nat) (l0_23 : List Int) (A0_24 : Option Addr) (c0_24 : Nat) (l0_24 : List Int) (a0_25 a0_26 a0_27 a0_28 a0_29 a0_30 a0_31 a0_32 a0_33 a0_34 a0_35 a0_36 a0_37 a0_38 : Int) (A0_39 : Option Addr) (c0_39 : Nat) (l0_39 : List (S102)) (A0_40 : Option Addr) (c0_40 : Nat) (l0_40 : List Int) (a0_41 a0_42 a0_43 a0_44 a0_45 a0_46 a0_47 a0_48 a0_49 a0_50 a0_51 : Int) (a0_52 : Bool) (A0_53 : Option Addr) (c0_53 : Nat) (l0_53 : List Int) (A0_54 : Option Addr) (c0_54 : Nat) (l0_54 : List Int) (A0_55 : Option Addr) (c0_55 : Nat) (l0_55 : List Int) (r1 r2 r3 r4 r5 : Int) (w : World) (hr0_5 : Kd.C (Kd.int .u8) w A0_5 l0_5.length l0_5) (hc0_5 : l0_5.length ≤ c0_5) (hr0_23 : Kd.C (Kd.int .u8) w A0_23 l0_23.length l0_23) (hc0_23 : l0_23.length ≤ c0_23) (hr0_24 : Kd.C (Kd.int .u8) w A0_24 l0_24.length l0_24) (hc0_24 : l0_24.length ≤ c0_24) (hr0_39 : Kd.C k102 w A0_39 l0_39.length l0_39) (hc0_39 : l0_39.length ≤ c0_39) (hr0_40 : Kd.C (Kd.int .u8) w A0_40 l0_40.length l0_40) (hc0_40 : l0_40.length ≤ c0_40) (hr0_53 : Kd.C (Kd.int .u8) w A0_53 l0_53.length l0_53) (hc0_53 : l0_53.length ≤ c0_53) (hr0_54 : Kd.C (Kd.int .u8) w A0_54 l0_54.length l0_54) (hc0_54 : l0_54.length ≤ c0_54) (hr0_55 : Kd.C (Kd.int .u8) w A0_55 l0_55.length l0_55) (hc0_55 : l0_55.length ≤ c0_55) (h : spec_l08Dst.f a0_0 a0_1 a0_2 a0_3 a0_4 l0_5 a0_6 a0_7 a0_8 a0_9 a0_10 a0_11 a0_12 a0_13 a0_14 a0_15 a0_16 a0_17 a0_18 a0_19 a0_20 a0_21 a0_22 l0_23 l0_24 a0_25 a0_26 a0_27 a0_28 a0_29 a0_30 a0_31 a0_32 a0_33 a0_34 a0_35 a0_36 a0_37 a0_38 l0_39 l0_40 a0_41 a0_42 a0_43 a0_44 a0_45 a0_46 a0_47 a0_48 a0_49 a0_50 a0_51 a0_52 l0_53 l0_54 l0_55 = some (r1, r2, r3, r4, r5)) :
  Calls Tryz.prog 55 #[.agg #[.int .i64 a0_0, .int .i64 a0_1, .int .i64 a0_2, .int .i64 a0_3, .int .i64 a0_4, .slice A0_5 l0_5.length c0_5, .int .i64 a0_6, .int .i64 a0_7, .int .i64 a0_8, .int .i64 a0_9, .int .i64 a0_10, .int .i64 a0_11, .int .i64 a0_12, .int .i64 a0_13, .int .i64 a0_14, .int .i64 a0_15, .int .i64 a0_16, .int .i64 a0_17, .int .i64 a0_18, .int .i64 a0_19, .int .i64 a0_20, .int .i64 a0_21, .int .i64 a0_22, .slice A0_23 l0_23.length c0_23, .slice A0_24 l0_24.length c0_24, .int .i64 a0_25, .int .i64 a0_26, .int .i64 a0_27, .int .i64 a0_28, .int .i64 a0_29, .int .i64 a0_30, .int .i64 a0_31, .int .i64 a0_32, .int .i64 a0_33, .int .i64 a0_34, .int .i64 a0_35, .int .i64 a0_36, .int .i64 a0_37, .int .i64 a0_38, .slice A0_39 l0_39.length c0_39, .slice A0_40 l0_40.length c0_40, .int .i64 a0_41, .int .i64 a0_42, .int .i64 a0_43, .int .i64 a0_44, .int .i64 a0_45, .int .i64 a0_46, .int .i64 a0_47, .int .i64 a0_48, .int .i64 a0_49, .int .i64 a0_50, .int .i64 a0_51, .bool a0_52, .slice A0_53 l0_53.length c0_53, .slice A0_54 l0_54.length c0_54, .slice A0_55 l0_55.length c0_55]] w fun e w' => e = .returned (.agg #[.int .i64 r1, .int .i64 r2, .int .i64 r3, .int .i64 r4, .int .i64 r5]) ∧ Below w.heap.size w w' := by
 have hu41 := Tryz.underlying41
 have hu44 := Tryz.underlying44
 have hu47 := Tryz.underlying47
 have HR0_5 := Aside0.mk hr0_5
 have HC0_5 := Aside0.mk hc0_5
 have HR0_23 := Aside0.mk hr0_23
 have HC0_23 := Aside0.mk hc0_23
 have HR0_24 := Aside0.mk hr0_24
 have HC0_24 := Aside0.mk hc0_24
 have HR0_39 := Aside0.mk hr0_39
 have HC0_39 := Aside0.mk hc0_39
 have HR0_40 := Aside0.mk hr0_40
 have HC0_40 := Aside0.mk hc0_40
 have HR0_53 := Aside0.mk hr0_53
 have HC0_53 := Aside0.mk hc0_53
 have HR0_54 := Aside0.mk hr0_54
 have HC0_54 := Aside0.mk hc0_54
 have HR0_55 := Aside0.mk hr0_55
 have HC0_55 := Aside0.mk hc0_55
 clear hr0_5 hc0_5 hr0_23 hc0_23 hr0_24 hc0_24 hr0_39 hc0_39 hr0_40 hc0_40 hr0_53 hc0_53 hr0_54 hc0_54 hr0_55 hc0_55
 have HF := Fr.start [39, 47] w
 have HP := Aside0.mk True.intro
 unfold spec_l08Dst.f at h
 have HH := Aside0.mk h
 clear h
 go_enter Tryz.func55, Tryz.ntmps55
 repeat' (with_reducible first | (replace HH := iA HP HH; clear HP; rcases HH with ⟨p, HP, HH⟩ | ⟨p, HP, HH⟩ <;> cases p) | fail)
 all_goals (repeat' (first
    | ((with_reducible refine gA 0 ?_) <;> (refine HF.bA ?_; clear HF; intro g_ w_ HF; refine nA ?_) <;> (refine HF.aA ?_; clear HF; intro g_ w_ HF; refine nA ?_) <;> (apply lend))
    | ((with_reducible refine gA 1 ?_) <;> (iterate 3 refine sA ?_) <;> (apply lend))
    | ((with_reducible refine gA 2 ?_) <;> (iterate 3 refine sA ?_) <;> (refine HF.tA ?_; clear HF; intro w_ HF) <;> (apply lend))
    | ((with_reducible refine gA 3 ?_) <;> (iterate 3 refine sA ?_) <;> (refine HF.tA ?_; clear HF; intro w_ HF) <;> (apply lend))
    | go_step | fail))
 all_goals (have h_ := HH.out; clear HH; cases h_ <;> (refine bodyPost_ret (results_cell_row rfl _ _ _ 39 _ (0, 0) _ rfl (HF.get (by repeat (exact At.head))) Tryz.underlying39 rfl (by kernel_rfl)) rfl ?_; first
   | exact ⟨vE, HF.below⟩))

/-! ### spec_UpperBytes: function 56 -/
def spec_UpperBytes.f (k : Nat) (a0_0 a0_1 a0_2 a0_3 a0_4 a0_5 a0_6 a0_7 a0_8 a0_9 a0_10 : Int) (a0_11 : Bool) (l0_12 l0_13 : List Int) (a1_0 a1_1 a1_2 a1_3 a1_4 a2_0 a2_1 a2_2 a2_3 a2_4 : Int) : Option (List Int) := (spec_UpperSum.f k a0_0 a0_1 a0_2 a0_3 a0_4 a0_5 a0_6 a0_7 a0_8 a0_9 a0_10 a0_11 l0_12 l0_13 a1_0 a1_1 a1_2 a1_3 a1_4 a2_0 a2_1 a2_2 a2_3 a2_4).bind fun t547 => (if t547 < 0 then (some ([] : List Int)) else ((spec_l07Bytes.f a0_0 a0_1 a0_2 a0_3 a0_4 a0_5 a0_6 a0_7 a0_8 a0_9 a0_10 a0_11 l0_12 l0_13 t547).bind fun t548 => (some t548)))
theorem spec_UpperBytes.calls (k : Nat) (a0_0 a0_1 a0_2 a0_3 a0_4 a0_5 a0_6 a0_7 a0_8 a0_9 a0_10 : Int) (a0_11 : Bool) (A0_12 : Option Addr) (c0_12 : Nat) (l0_12 : List Int) (A0_13 : Option Addr) (c0_13 : Nat) (l0_13 : List Int) (a1_0 a1_1 a1_2 a1_3 a1_4 a2_0 a2_1 a2_2 a2_3 a2_4 : Int) (r : List Int) (w : World) (hr0_12 : Kd.C (Kd.int .u8) w A0_12 l0_12.length l0_12) (hc0_12 : l0_12.length ≤ c0_12) (hr0_13 : Kd.C (Kd.int .u8) w A0_13 l0_13.length l0_13) (hc0_13 : l0_13.length ≤ c0_13) (h : spec_UpperBytes.f k a0_0 a0_1 a0_2 a0_3 a0_4 a0_5 a0_6 a0_7 a0_8 a0_9 a0_10 a0_11 l0_12 l0_13 a1_0 a1_1 a1_2 a1_3 a1_4 a2_0 a2_1 a2_2 a2_3 a2_4 = some r) :
  Calls Tryz.prog 56 #[.agg #[.int .i64 a0_0, .int .i64 a0_1, .int .i64 a0_2, .int .i64 a0_3, .int .i64 a0_4, .int .i64 a0_5, .int .i64 a0_6, .int .i64 a0_7, .int .i64 a0_8, .int .i64 a0_9, .int .i64 a0_10, .bool a0_11, .slice A0_12 l0_12.length c0_12, .slice A0_13 l0_13.length c0_13], .agg #[.int .i64 a1_0, .int .i64 a1_1, .int .i64 a1_2, .int .i64 a1_3, .int .i64 a1_4], .agg #[.int .i64 a2_0, .int .i64 a2_1, .int .i64 a2_2, .int .i64 a2_3, .int .i64 a2_4]] w fun e w' => ∃ v0_ : Value, e = .returned (v0_) ∧ Kd.R (Kd.int .u8) 5 w' w.heap.size (fun _ => True) v0_ r ∧ Below w.heap.size w w' := by
 have HR0_12 := Aside0.mk hr0_12
 have HC0_12 := Aside0.mk hc0_12
 have HR0_13 := Aside0.mk hr0_13
 have HC0_13 := Aside0.mk hc0_13
 clear hr0_12 hc0_12 hr0_13 hc0_13
 have HF := Fr.start [39, 45] w
 have HP := Aside0.mk True.intro
 unfold spec_UpperBytes.f at h
 have HH := Aside0.mk h
 clear h
 go_enter Tryz.func56, Tryz.ntmps56
 all_goals (repeat' (first
    | ((with_reducible refine gA 0 ?_) <;> (refine HF.bA ?_; clear HF; intro g_ w_ HF; refine nA ?_) <;> (refine HF.bA ?_; clear HF; intro g_ w_ HF; refine nA ?_) <;> (refine HF.bA ?_; clear HF; intro g_ w_ HF; refine nA ?_) <;> (refine sA ?_) <;> (apply lend))
    | ((with_reducible refine gA 1 ?_) <;> (iterate 3 refine sA ?_) <;> ((replace HH := bA HH); obtain ⟨_, A11_, HH⟩ := HH) <;> (repeat' (with_reducible first | (replace HH := iA HP HH; clear HP; rcases HH with ⟨p, HP, HH⟩ | ⟨p, HP, HH⟩) | fail)) <;> (refine HF.cB Tryz.func53 (by (with_reducible apply spec_UpperSum.calls (h := A11_.out)) <;> exact gP) ?_; clear HF A11_; intro w_ HF) <;> (refine sA ?_) <;> (apply lend))
    | ((with_reducible refine gA 2 ?_) <;> (iterate 2 refine sA ?_) <;> (apply lend))
    | ((with_reducible refine gA 3 ?_) <;> (refine sA ?_) <;> (apply lend))
    | ((with_reducible refine gA 4 ?_) <;> (iterate 2 refine sA ?_) <;> ((replace HH := bA HH); obtain ⟨_, A16_, HH⟩ := HH) <;> (refine HF.rB Tryz.func94 (by (with_reducible apply spec_l07Bytes.calls (h := A16_.out)) <;> exact gP) ?_; clear HF A16_; intro Av16_0 cv16_0 w_ HO16_0 HB16 HF; refine nA ?_) <;> ((refine pA ?_); have HO6_0 := HO16_0) <;> (apply lend))
    | go_step | fail))
 all_goals (have h_ := HH.out; clear HH; cases h_ <;> (go_ret; first
   | exact ⟨_, rfl, (Kd.R_nil _ _ _ _ _), HF.below⟩
   | exact ⟨_, rfl, (rN HF HO6_0), HF.below⟩))

/-! ### spec_UpperKind: function 57 -/
def spec_UpperKind.f (a0 a1 : Int) : Option (Int) := (spec_l05In.f a0 255).bind fun t551 => (if t551 = true then (if a1 = 4 then (if a0 = 6 then (some 1) else (if a0 = 17 then (some 2) else (if a0 = 1 then (some 3) else (if a0 = 58 then (if a1 = 6 then (some 3) else (some 0)) else (some 0))))) else (if a1 = 6 then (if a0 = 6 then (some 1) else (if a0 = 17 then (some 2) else (if a0 = 1 then (if a0 = 58 then (some 3) else (some 0)) else (if a0 = 58 then (some 3) else (some 0))))) else (some (-1)))) else (some (-1)))
theorem spec_UpperKind.calls (a0 a1 r : Int) (w : World) (h : spec_UpperKind.f a0 a1 = some r) :
  Calls Tryz.prog 57 #[.int .i64 a0, .int .i64 a1] w fun e w' => e = .returned (.int .i64 r) ∧ Below w.heap.size w w' := by
 have HF := Fr.start [] w
 have HP := Aside0.mk True.intro
 unfold spec_UpperKind.f at h
 have HH := Aside0.mk h
 clear h
 go_enter Tryz.func57, Tryz.ntmps57
 all_goals (repeat' (first
    | ((with_reducible refine gA 0 ?_) <;> (refine sA ?_) <;> (apply lend))
    | ((with_reducible refine gA 1 ?_) <;> (refine sA ?_) <;> ((replace HH := bA HH); obtain ⟨_, A6_, HH⟩ := HH) <;> (repeat' (with_reducible first | (replace HH := iA HP HH; clear HP; rcases HH with ⟨p, HP, HH⟩ | ⟨p, HP, HH⟩ <;> first | subst p | cases p) | fail)) <;> (refine HF.dB Tryz.func95 (by (with_reducible apply spec_l05In.calls (h := A6_.out))) ?_; clear HF A6_; intro w_ HF) <;> (iterate 9 refine sA ?_) <;> (apply lend))
    | ((with_reducible refine gA 2 ?_) <;> (refine sA ?_) <;> (apply lend))
    | ((with_reducible refine gA 3 ?_) <;> (iterate 2 refine sA ?_) <;> (apply lend))
    | ((with_reducible refine gA 4 ?_) <;> (refine sA ?_) <;> (apply lend))
    | ((with_reducible refine gA 5 ?_) <;> (iterate 2 refine sA ?_) <;> (apply lend))
    | ((with_reducible refine gA 6 ?_) <;> (refine sA ?_) <;> (apply lend))
    | ((with_reducible refine gA 7 ?_) <;> (iterate 14 refine sA ?_) <;> (apply lend))
    | ((with_reducible refine gA 8 ?_) <;> (refine sA ?_) <;> (apply lend))
    | ((with_reducible refine gA 9 ?_) <;> (refine sA ?_) <;> (apply lend))
    | go_step | fail))
 all_goals (have h_ := HH.out; clear HH; cases h_ <;> (go_ret; first
   | exact ⟨vE, HF.below⟩))

end Go.Proofs.YtffkgndghbdgnaaGreat.FFnExactPacketBytes
