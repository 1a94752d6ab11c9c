-- Contracts of functions, no condition.
import Derived.Test.YtffkgndghbdgnaaGreatGFnExactPacketBytesx7
namespace Go.Proofs.YtffkgndghbdgnaaGreat.FFnExactPacketBytes
open Go.RowKit Go.Proofs.YtffkgndghbdgnaaGreatW.PrintWords Go.Proofs.YtffkgndghbdgnaaGreatW.PrintLast Go.Proofs.YtffkgndghbdgnaaGreatW.PrintMore Go.Proofs.YtffkgndghbdgnaaGreat.Frame
attribute [local go_sem] max2_int min2_int max_two min_two max_three min_three max_four min_four
set_option linter.unusedVariables false
set_option maxHeartbeats 8000000
set_option maxRecDepth 100000
set_option linter.unusedSimpArgs false

/-! ### laws_eqSix: function 33 -/
def laws_eqSix.f (k : Nat) (a0_0 a0_1 a0_2 a0_3 a0_4 a0_5 a0_6 a0_7 a0_8 a0_9 a0_10 a0_11 a0_12 a0_13 : Int) (l0_14 : List (S102)) (l0_15 : List Int) (a1_0 a1_1 a1_2 a1_3 a1_4 a1_5 a1_6 a1_7 a1_8 a1_9 a1_10 a1_11 a1_12 a1_13 : Int) (l1_14 : List (S102)) (l1_15 : List Int) : Option (Bool) := if a0_0 = a1_0 then (if a0_1 = a1_1 then (if a0_2 = a1_2 then (if a0_3 = a1_3 then ((laws_eqAddr.f a0_4 a0_5 a0_6 a0_7 a0_8 a1_4 a1_5 a1_6 a1_7 a1_8).bind fun t293 => (if t293 = true then ((laws_eqAddr.f a0_9 a0_10 a0_11 a0_12 a0_13 a1_9 a1_10 a1_11 a1_12 a1_13).bind fun t294 => (if t294 = true then ((laws_eqExtS.f k l0_14 l1_14).bind fun t295 => (if t295 = true then ((laws_eqByteS.f k l0_15 l1_15).bind fun t296 => (if t296 = true then (some true) else (some false))) else (some false))) else (some false))) else (some false))) else (some false)) else (some false)) else (some false)) else (some false)
theorem laws_eqSix.calls (k : Nat) (a0_0 a0_1 a0_2 a0_3 a0_4 a0_5 a0_6 a0_7 a0_8 a0_9 a0_10 a0_11 a0_12 a0_13 : Int) (A0_14 : Option Addr) (c0_14 : Nat) (l0_14 : List (S102)) (A0_15 : Option Addr) (c0_15 : Nat) (l0_15 : List Int) (a1_0 a1_1 a1_2 a1_3 a1_4 a1_5 a1_6 a1_7 a1_8 a1_9 a1_10 a1_11 a1_12 a1_13 : Int) (A1_14 : Option Addr) (c1_14 : Nat) (l1_14 : List (S102)) (A1_15 : Option Addr) (c1_15 : Nat) (l1_15 : List Int) (_r : Bool) (w : World) (hr0_14 : Kd.C k102 w A0_14 l0_14.length l0_14) (hc0_14 : l0_14.length ≤ c0_14) (hr0_15 : Kd.C (Kd.int .u8) w A0_15 l0_15.length l0_15) (hc0_15 : l0_15.length ≤ c0_15) (hr1_14 : Kd.C k102 w A1_14 l1_14.length l1_14) (hc1_14 : l1_14.length ≤ c1_14) (hr1_15 : Kd.C (Kd.int .u8) w A1_15 l1_15.length l1_15) (hc1_15 : l1_15.length ≤ c1_15) (h : laws_eqSix.f k a0_0 a0_1 a0_2 a0_3 a0_4 a0_5 a0_6 a0_7 a0_8 a0_9 a0_10 a0_11 a0_12 a0_13 l0_14 l0_15 a1_0 a1_1 a1_2 a1_3 a1_4 a1_5 a1_6 a1_7 a1_8 a1_9 a1_10 a1_11 a1_12 a1_13 l1_14 l1_15 = some true) :
  Calls Tryz.prog 33 #[.agg #[.int .i64 a0_0, .int .i64 a0_1, .int .i64 a0_2, .int .i64 a0_3, .int .i64 a0_4, .int .i64 a0_5, .int .i64 a0_6, .int .i64 a0_7, .int .i64 a0_8, .int .i64 a0_9, .int .i64 a0_10, .int .i64 a0_11, .int .i64 a0_12, .int .i64 a0_13, .slice A0_14 l0_14.length c0_14, .slice A0_15 l0_15.length c0_15], .agg #[.int .i64 a1_0, .int .i64 a1_1, .int .i64 a1_2, .int .i64 a1_3, .int .i64 a1_4, .int .i64 a1_5, .int .i64 a1_6, .int .i64 a1_7, .int .i64 a1_8, .int .i64 a1_9, .int .i64 a1_10, .int .i64 a1_11, .int .i64 a1_12, .int .i64 a1_13, .slice A1_14 l1_14.length c1_14, .slice A1_15 l1_15.length c1_15]] w fun e w' => e = .returned (.bool true) ∧ Below w.heap.size w w' := by
 have hu44 := Tryz.underlying44
 have HR0_14 := Aside0.mk hr0_14
 have HC0_14 := Aside0.mk hc0_14
 have HR0_15 := Aside0.mk hr0_15
 have HC0_15 := Aside0.mk hc0_15
 have HR1_14 := Aside0.mk hr1_14
 have HC1_14 := Aside0.mk hc1_14
 have HR1_15 := Aside0.mk hr1_15
 have HC1_15 := Aside0.mk hc1_15
 clear hr0_14 hc0_14 hr0_15 hc0_15 hr1_14 hc1_14 hr1_15 hc1_15
 have HF := Fr.start [44] w
 have HP := Aside0.mk True.intro
 unfold laws_eqSix.f at h
 have HH := Aside0.mk h
 clear h
 go_enter Tryz.func33, Tryz.ntmps33
 repeat' (with_reducible first | exact xE HH | (replace HH := iA HP HH; clear HP; rcases HH with ⟨p, HP, HH⟩ | ⟨p, HP, HH⟩ <;> cases p) | fail)
 all_goals (repeat' (first
    | ((with_reducible refine gA 0 ?_) <;> (refine HF.bA ?_; clear HF; intro g_ w_ HF; refine nA ?_) <;> (refine HF.bA ?_; clear HF; intro g_ w_ HF; refine nA ?_) <;> (refine sA ?_) <;> (apply lend))
    | ((with_reducible refine gA 1 ?_) <;> (iterate 5 refine sA ?_) <;> (apply lend))
    | ((with_reducible refine gA 3 ?_) <;> (iterate 5 refine sA ?_) <;> (apply lend))
    | ((with_reducible refine gA 5 ?_) <;> (iterate 5 refine sA ?_) <;> (apply lend))
    | ((with_reducible refine gA 7 ?_) <;> (iterate 5 refine sA ?_) <;> (apply lend))
    | ((with_reducible refine gA 9 ?_) <;> (iterate 4 refine sA ?_) <;> ((replace HH := bA HH); obtain ⟨_, A29_, HH⟩ := HH) <;> (repeat' (with_reducible first | exact xE HH | (replace HH := iA HP HH; clear HP; rcases HH with ⟨p, HP, HH⟩ | ⟨p, HP, HH⟩ <;> subst p) | fail)) <;> (refine HF.cB Tryz.func51 (by (with_reducible apply laws_eqAddr.calls (_r := true) (h := A29_.out))) ?_; clear HF A29_; intro w_ HF) <;> (refine sA ?_) <;> (apply lend))
    | ((with_reducible refine gA 11 ?_) <;> (iterate 4 refine sA ?_) <;> ((replace HH := bA HH); obtain ⟨_, A35_, HH⟩ := HH) <;> (repeat' (with_reducible first | exact xE HH | (replace HH := iA HP HH; clear HP; rcases HH with ⟨p, HP, HH⟩ | ⟨p, HP, HH⟩ <;> subst p) | fail)) <;> (refine HF.cB Tryz.func51 (by (with_reducible apply laws_eqAddr.calls (_r := true) (h := A35_.out))) ?_; clear HF A35_; intro w_ HF) <;> (refine sA ?_) <;> (apply lend))
    | ((with_reducible refine gA 13 ?_) <;> (iterate 4 refine sA ?_) <;> ((replace HH := bA HH); obtain ⟨_, A41_, HH⟩ := HH) <;> (repeat' (with_reducible first | exact xE HH | (replace HH := iA HP HH; clear HP; rcases HH with ⟨p, HP, HH⟩ | ⟨p, HP, HH⟩ <;> subst p) | fail)) <;> (refine HF.cB Tryz.func52 (by (with_reducible apply laws_eqExtS.calls (_r := true) (h := A41_.out)) <;> exact gP) ?_; clear HF A41_; intro w_ HF) <;> (refine sA ?_) <;> (apply lend))
    | ((with_reducible refine gA 15 ?_) <;> (iterate 4 refine sA ?_) <;> ((replace HH := bA HH); obtain ⟨_, A47_, HH⟩ := HH) <;> (repeat' (with_reducible first | exact xE HH | (replace HH := iA HP HH; clear HP; rcases HH with ⟨p, HP, HH⟩ | ⟨p, HP, HH⟩ <;> subst p) | fail)) <;> (refine HF.dB Tryz.func13 (by (with_reducible apply laws_eqByteS.calls (_r := true) (h := A47_.out)) <;> exact gP) ?_; clear HF A47_; intro w_ HF) <;> (refine sA ?_) <;> (apply lend))
    | ((with_reducible refine gA 17 ?_) <;> (refine sA ?_) <;> (apply lend))
    | go_step | fail))
 all_goals (have h_ := HH.out; clear HH; cases h_ <;> (go_ret; first
   | exact ⟨vE, HF.below⟩))

/-! ### laws_eqUpper: function 34 -/
def laws_eqUpper.f (k : Nat) (a0_0 a0_1 a0_2 a0_3 a0_4 a0_5 a0_6 a0_7 a0_8 a0_9 a0_10 : Int) (a0_11 : Bool) (l0_12 l0_13 : List Int) (a1_0 a1_1 a1_2 a1_3 a1_4 a1_5 a1_6 a1_7 a1_8 a1_9 a1_10 : Int) (a1_11 : Bool) (l1_12 l1_13 : List Int) : Option (Bool) := if a0_0 = a1_0 then (if a0_1 = a1_1 then (if a0_2 = a1_2 then (if a0_3 = a1_3 then (if a0_4 = a1_4 then (if a0_5 = a1_5 then (if a0_6 = a1_6 then (if a0_7 = a1_7 then (if a0_8 = a1_8 then (if a0_9 = a1_9 then (if a0_10 = a1_10 then (if (a0_11 != a1_11) = true then (some false) else ((laws_eqByteS.f k l0_12 l1_12).bind fun t299 => (if t299 = true then ((laws_eqByteS.f k l0_13 l1_13).bind fun t300 => (if t300 = true then (some true) else (some false))) else (some false)))) else (some false)) else (some false)) else (some false)) else (some false)) else (some false)) else (some false)) else (some false)) else (some false)) else (some false)) else (some false)) else (some false)
theorem laws_eqUpper.calls (k : Nat) (a0_0 a0_1 a0_2 a0_3 a0_4 a0_5 a0_6 a0_7 a0_8 a0_9 a0_10 : Int) (a0_11 : Bool) (A0_12 : Option Addr) (c0_12 : Nat) (l0_12 : List Int) (A0_13 : Option Addr) (c0_13 : Nat) (l0_13 : List Int) (a1_0 a1_1 a1_2 a1_3 a1_4 a1_5 a1_6 a1_7 a1_8 a1_9 a1_10 : Int) (a1_11 : Bool) (A1_12 : Option Addr) (c1_12 : Nat) (l1_12 : List Int) (A1_13 : Option Addr) (c1_13 : Nat) (l1_13 : List Int) (_r : Bool) (w : World) (hr0_12 : Kd.C (Kd.int .u8) w A0_12 l0_12.length l0_12) (hc0_12 : l0_12.length ≤ c0_12) (hr0_13 : Kd.C (Kd.int .u8) w A0_13 l0_13.length l0_13) (hc0_13 : l0_13.length ≤ c0_13) (hr1_12 : Kd.C (Kd.int .u8) w A1_12 l1_12.length l1_12) (hc1_12 : l1_12.length ≤ c1_12) (hr1_13 : Kd.C (Kd.int .u8) w A1_13 l1_13.length l1_13) (hc1_13 : l1_13.length ≤ c1_13) (h : laws_eqUpper.f k a0_0 a0_1 a0_2 a0_3 a0_4 a0_5 a0_6 a0_7 a0_8 a0_9 a0_10 a0_11 l0_12 l0_13 a1_0 a1_1 a1_2 a1_3 a1_4 a1_5 a1_6 a1_7 a1_8 a1_9 a1_10 a1_11 l1_12 l1_13 = some true) :
  Calls Tryz.prog 34 #[.agg #[.int .i64 a0_0, .int .i64 a0_1, .int .i64 a0_2, .int .i64 a0_3, .int .i64 a0_4, .int .i64 a0_5, .int .i64 a0_6, .int .i64 a0_7, .int .i64 a0_8, .int .i64 a0_9, .int .i64 a0_10, .bool a0_11, .slice A0_12 l0_12.length c0_12, .slice A0_13 l0_13.length c0_13], .agg #[.int .i64 a1_0, .int .i64 a1_1, .int .i64 a1_2, .int .i64 a1_3, .int .i64 a1_4, .int .i64 a1_5, .int .i64 a1_6, .int .i64 a1_7, .int .i64 a1_8, .int .i64 a1_9, .int .i64 a1_10, .bool a1_11, .slice A1_12 l1_12.length c1_12, .slice A1_13 l1_13.length c1_13]] w fun e w' => e = .returned (.bool true) ∧ Below w.heap.size w w' := by
 have hu45 := Tryz.underlying45
 have HR0_12 := Aside0.mk hr0_12
 have HC0_12 := Aside0.mk hc0_12
 have HR0_13 := Aside0.mk hr0_13
 have HC0_13 := Aside0.mk hc0_13
 have HR1_12 := Aside0.mk hr1_12
 have HC1_12 := Aside0.mk hc1_12
 have HR1_13 := Aside0.mk hr1_13
 have HC1_13 := Aside0.mk hc1_13
 clear hr0_12 hc0_12 hr0_13 hc0_13 hr1_12 hc1_12 hr1_13 hc1_13
 have HF := Fr.start [45] w
 have HP := Aside0.mk True.intro
 unfold laws_eqUpper.f at h
 have HH := Aside0.mk h
 clear h
 go_enter Tryz.func34, Tryz.ntmps34
 repeat' (with_reducible first | exact xE HH | (replace HH := iA HP HH; clear HP; rcases HH with ⟨p, HP, HH⟩ | ⟨p, HP, HH⟩ <;> first | subst p | cases p) | fail)
 all_goals (repeat' (first
    | ((with_reducible refine gA 0 ?_) <;> (refine HF.bA ?_; clear HF; intro g_ w_ HF; refine nA ?_) <;> (refine HF.bA ?_; clear HF; intro g_ w_ HF; refine nA ?_) <;> (refine sA ?_) <;> (apply lend))
    | ((with_reducible refine gA 1 ?_) <;> (iterate 5 refine sA ?_) <;> (apply lend))
    | ((with_reducible refine gA 3 ?_) <;> (iterate 5 refine sA ?_) <;> (apply lend))
    | ((with_reducible refine gA 5 ?_) <;> (iterate 5 refine sA ?_) <;> (apply lend))
    | ((with_reducible refine gA 7 ?_) <;> (iterate 5 refine sA ?_) <;> (apply lend))
    | ((with_reducible refine gA 9 ?_) <;> (iterate 5 refine sA ?_) <;> (apply lend))
    | ((with_reducible refine gA 11 ?_) <;> (iterate 5 refine sA ?_) <;> (apply lend))
    | ((with_reducible refine gA 13 ?_) <;> (iterate 5 refine sA ?_) <;> (apply lend))
    | ((with_reducible refine gA 15 ?_) <;> (iterate 5 refine sA ?_) <;> (apply lend))
    | ((with_reducible refine gA 17 ?_) <;> (iterate 5 refine sA ?_) <;> (apply lend))
    | ((with_reducible refine gA 19 ?_) <;> (iterate 5 refine sA ?_) <;> (apply lend))
    | ((with_reducible refine gA 21 ?_) <;> (iterate 5 refine sA ?_) <;> (apply lend))
    | ((with_reducible refine gA 23 ?_) <;> (iterate 5 refine sA ?_) <;> (apply lend))
    | ((with_reducible refine gA 25 ?_) <;> (iterate 4 refine sA ?_) <;> ((replace HH := bA HH); obtain ⟨_, A69_, HH⟩ := HH) <;> (repeat' (with_reducible first | exact xE HH | (replace HH := iA HP HH; clear HP; rcases HH with ⟨p, HP, HH⟩ | ⟨p, HP, HH⟩ <;> subst p) | fail)) <;> (refine HF.dB Tryz.func13 (by (with_reducible apply laws_eqByteS.calls (_r := true) (h := A69_.out)) <;> exact gP) ?_; clear HF A69_; intro w_ HF) <;> (refine sA ?_) <;> (apply lend))
    | ((with_reducible refine gA 27 ?_) <;> (iterate 4 refine sA ?_) <;> ((replace HH := bA HH); obtain ⟨_, A75_, HH⟩ := HH) <;> (repeat' (with_reducible first | exact xE HH | (replace HH := iA HP HH; clear HP; rcases HH with ⟨p, HP, HH⟩ | ⟨p, HP, HH⟩ <;> subst p) | fail)) <;> (refine HF.dB Tryz.func13 (by (with_reducible apply laws_eqByteS.calls (_r := true) (h := A75_.out)) <;> exact gP) ?_; clear HF A75_; intro w_ HF) <;> (refine sA ?_) <;> (apply lend))
    | ((with_reducible refine gA 29 ?_) <;> (refine sA ?_) <;> (apply lend))
    | go_step | fail))
 all_goals (have h_ := HH.out; clear HH; cases h_ <;> (go_ret; first
   | exact ⟨vE, HF.below⟩))

/-! ### laws_eqPacket: function 10 -/
def laws_eqPacket.f (k : Nat) (a0_0 a0_1 a0_2 a0_3 a0_4 : Int) (l0_5 : List Int) (a0_6 a0_7 a0_8 a0_9 a0_10 a0_11 a0_12 a0_13 a0_14 a0_15 a0_16 a0_17 a0_18 a0_19 a0_20 a0_21 a0_22 : Int) (l0_23 l0_24 : List Int) (a0_25 a0_26 a0_27 a0_28 a0_29 a0_30 a0_31 a0_32 a0_33 a0_34 a0_35 a0_36 a0_37 a0_38 : Int) (l0_39 : List (S102)) (l0_40 : List Int) (a0_41 a0_42 a0_43 a0_44 a0_45 a0_46 a0_47 a0_48 a0_49 a0_50 a0_51 : Int) (a0_52 : Bool) (l0_53 l0_54 l0_55 : List Int) (a1_0 a1_1 a1_2 a1_3 a1_4 : Int) (l1_5 : List Int) (a1_6 a1_7 a1_8 a1_9 a1_10 a1_11 a1_12 a1_13 a1_14 a1_15 a1_16 a1_17 a1_18 a1_19 a1_20 a1_21 a1_22 : Int) (l1_23 l1_24 : List Int) (a1_25 a1_26 a1_27 a1_28 a1_29 a1_30 a1_31 a1_32 a1_33 a1_34 a1_35 a1_36 a1_37 a1_38 : Int) (l1_39 : List (S102)) (l1_40 : List Int) (a1_41 a1_42 a1_43 a1_44 a1_45 a1_46 a1_47 a1_48 a1_49 a1_50 a1_51 : Int) (a1_52 : Bool) (l1_53 l1_54 l1_55 : List Int) : Option (Bool) := if a0_0 = a1_0 then ((laws_eqEther.f k a0_1 a0_2 a0_3 a0_4 l0_5 a1_1 a1_2 a1_3 a1_4 l1_5).bind fun t303 => (if t303 = true then ((laws_eqFour.f k a0_6 a0_7 a0_8 a0_9 a0_10 a0_11 a0_12 a0_13 a0_14 a0_15 a0_16 a0_17 a0_18 a0_19 a0_20 a0_21 a0_22 l0_23 l0_24 a1_6 a1_7 a1_8 a1_9 a1_10 a1_11 a1_12 a1_13 a1_14 a1_15 a1_16 a1_17 a1_18 a1_19 a1_20 a1_21 a1_22 l1_23 l1_24).bind fun t304 => (if t304 = true then ((laws_eqSix.f k a0_25 a0_26 a0_27 a0_28 a0_29 a0_30 a0_31 a0_32 a0_33 a0_34 a0_35 a0_36 a0_37 a0_38 l0_39 l0_40 a1_25 a1_26 a1_27 a1_28 a1_29 a1_30 a1_31 a1_32 a1_33 a1_34 a1_35 a1_36 a1_37 a1_38 l1_39 l1_40).bind fun t305 => (if t305 = true then ((laws_eqUpper.f k a0_41 a0_42 a0_43 a0_44 a0_45 a0_46 a0_47 a0_48 a0_49 a0_50 a0_51 a0_52 l0_53 l0_54 a1_41 a1_42 a1_43 a1_44 a1_45 a1_46 a1_47 a1_48 a1_49 a1_50 a1_51 a1_52 l1_53 l1_54).bind fun t306 => (if t306 = true then ((laws_eqByteS.f k l0_55 l1_55).bind fun t307 => (if t307 = true then (some true) else (some false))) else (some false))) else (some false))) else (some false))) else (some false))) else (some false)
theorem laws_eqPacket.calls (k : Nat) (a0_0 a0_1 a0_2 a0_3 a0_4 : Int) (A0_5 : Option Addr) (c0_5 : Nat) (l0_5 : List Int) (a0_6 a0_7 a0_8 a0_9 a0_10 a0_11 a0_12 a0_13 a0_14 a0_15 a0_16 a0_17 a0_18 a0_19 a0_20 a0_21 a0_22 : Int) (A0_23 : Option Addr) (c0_23 : Nat) (l0_23 : List Int) (A0_24 : Option Addr) (c0_24 : Nat) (l0_24 : List Int) (a0_25 a0_26 a0_27 a0_28 a0_29 a0_30 a0_31 a0_32 a0_33 a0_34 a0_35 a0_36 a0_37 a0_38 : Int) (A0_39 : Option Addr) (c0_39 : Nat) (l0_39 : List (S102)) (A0_40 : Option Addr) (c0_40 : Nat) (l0_40 : List Int) (a0_41 a0_42 a0_43 a0_44 a0_45 a0_46 a0_47 a0_48 a0_49 a0_50 a0_51 : Int) (a0_52 : Bool) (A0_53 : Option Addr) (c0_53 : Nat) (l0_53 : List Int) (A0_54 : Option Addr) (c0_54 : Nat) (l0_54 : List Int) (A0_55 : Option Addr) (c0_55 : Nat) (l0_55 : List Int) (a1_0 a1_1 a1_2 a1_3 a1_4 : Int) (A1_5 : Option Addr) (c1_5 : Nat) (l1_5 : List Int) (a1_6 a1_7 a1_8 a1_9 a1_10 a1_11 a1_12 a1_13 a1_14 a1_15 a1_16 a1_17 a1_18 a1_19 a1_20 a1_21 a1_22 : Int) (A1_23 : Option Addr) (c1_23 : Nat) (l1_23 : List Int) (A1_24 : Option Addr) (c1_24 : Nat) (l1_24 : List Int) (a1_25 a1_26 a1_27 a1_28 a1_29 a1_30 a1_31 a1_32 a1_33 a1_34 a1_35 a1_36 a1_37 a1_38 : Int) (A1_39 : Option Addr) (c1_39 : Nat) (l1_39 : List (S102)) (A1_40 : Option Addr) (c1_40 : Nat) (l1_40 : List Int) (a1_41 a1_42 a1_43 a1_44 a1_45 a1_46 a1_47 a1_48 a1_49 a1_50 a1_51 : Int) (a1_52 : Bool) (A1_53 : Option Addr) (c1_53 : Nat) (l1_53 : List Int) (A1_54 : Option Addr) (c1_54 : Nat) (l1_54 : List Int) (A1_55 : Option Addr) (c1_55 : Nat) (l1_55 : List Int) (_r : Bool) (w : World) (hr0_5 : Kd.C (Kd.int .u8) w A0_5 l0_5.length l0_5) (hc0_5 : l0_5.length ≤ c0_5) (hr0_23 : Kd.C (Kd.int .u8) w A0_23 l0_23.length l0_23) (hc0_23 : l0_23.length ≤ c0_23) (hr0_24 : Kd.C (Kd.int .u8) w A0_24 l0_24.length l0_24) (hc0_24 : l0_24.length ≤ c0_24) (hr0_39 : Kd.C k102 w A0_39 l0_39.length l0_39) (hc0_39 : l0_39.length ≤ c0_39) (hr0_40 : Kd.C (Kd.int .u8) w A0_40 l0_40.length l0_40) (hc0_40 : l0_40.length ≤ c0_40) (hr0_53 : Kd.C (Kd.int .u8) w A0_53 l0_53.length l0_53) (hc0_53 : l0_53.length ≤ c0_53) (hr0_54 : Kd.C (Kd.int .u8) w A0_54 l0_54.length l0_54) (hc0_54 : l0_54.length ≤ c0_54) (hr0_55 : Kd.C (Kd.int .u8) w A0_55 l0_55.length l0_55) (hc0_55 : l0_55.length ≤ c0_55) (hr1_5 : Kd.C (Kd.int .u8) w A1_5 l1_5.length l1_5) (hc1_5 : l1_5.length ≤ c1_5) (hr1_23 : Kd.C (Kd.int .u8) w A1_23 l1_23.length l1_23) (hc1_23 : l1_23.length ≤ c1_23) (hr1_24 : Kd.C (Kd.int .u8) w A1_24 l1_24.length l1_24) (hc1_24 : l1_24.length ≤ c1_24) (hr1_39 : Kd.C k102 w A1_39 l1_39.length l1_39) (hc1_39 : l1_39.length ≤ c1_39) (hr1_40 : Kd.C (Kd.int .u8) w A1_40 l1_40.length l1_40) (hc1_40 : l1_40.length ≤ c1_40) (hr1_53 : Kd.C (Kd.int .u8) w A1_53 l1_53.length l1_53) (hc1_53 : l1_53.length ≤ c1_53) (hr1_54 : Kd.C (Kd.int .u8) w A1_54 l1_54.length l1_54) (hc1_54 : l1_54.length ≤ c1_54) (hr1_55 : Kd.C (Kd.int .u8) w A1_55 l1_55.length l1_55) (hc1_55 : l1_55.length ≤ c1_55) (h : laws_eqPacket.f k a0_0 a0_1 a0_2 a0_3 a0_4 l0_5 a0_6 a0_7 a0_8 a0_9 a0_10 a0_11 a0_12 a0_13 a0_14 a0_15 a0_16 a0_17 a0_18 a0_19 a0_20 a0_21 a0_22 l0_23 l0_24 a0_25 a0_26 a0_27 a0_28 a0_29 a0_30 a0_31 a0_32 a0_33 a0_34 a0_35 a0_36 a0_37 a0_38 l0_39 l0_40 a0_41 a0_42 a0_43 a0_44 a0_45 a0_46 a0_47 a0_48 a0_49 a0_50 a0_51 a0_52 l0_53 l0_54 l0_55 a1_0 a1_1 a1_2 a1_3 a1_4 l1_5 a1_6 a1_7 a1_8 a1_9 a1_10 a1_11 a1_12 a1_13 a1_14 a1_15 a1_16 a1_17 a1_18 a1_19 a1_20 a1_21 a1_22 l1_23 l1_24 a1_25 a1_26 a1_27 a1_28 a1_29 a1_30 a1_31 a1_32 a1_33 a1_34 a1_35 a1_36 a1_37 a1_38 l1_39 l1_40 a1_41 a1_42 a1_43 a1_44 a1_45 a1_46 a1_47 a1_48 a1_49 a1_50 a1_51 a1_52 l1_53 l1_54 l1_55 = some true) :
  Calls Tryz.prog 10 #[.agg #[.int .i64 a0_0, .int .i64 a0_1, .int .i64 a0_2, .int .i64 a0_3, .int .i64 a0_4, .slice A0_5 l0_5.length c0_5, .int .i64 a0_6, .int .i64 a0_7, .int .i64 a0_8, .int .i64 a0_9, .int .i64 a0_10, .int .i64 a0_11, .int .i64 a0_12, .int .i64 a0_13, .int .i64 a0_14, .int .i64 a0_15, .int .i64 a0_16, .int .i64 a0_17, .int .i64 a0_18, .int .i64 a0_19, .int .i64 a0_20, .int .i64 a0_21, .int .i64 a0_22, .slice A0_23 l0_23.length c0_23, .slice A0_24 l0_24.length c0_24, .int .i64 a0_25, .int .i64 a0_26, .int .i64 a0_27, .int .i64 a0_28, .int .i64 a0_29, .int .i64 a0_30, .int .i64 a0_31, .int .i64 a0_32, .int .i64 a0_33, .int .i64 a0_34, .int .i64 a0_35, .int .i64 a0_36, .int .i64 a0_37, .int .i64 a0_38, .slice A0_39 l0_39.length c0_39, .slice A0_40 l0_40.length c0_40, .int .i64 a0_41, .int .i64 a0_42, .int .i64 a0_43, .int .i64 a0_44, .int .i64 a0_45, .int .i64 a0_46, .int .i64 a0_47, .int .i64 a0_48, .int .i64 a0_49, .int .i64 a0_50, .int .i64 a0_51, .bool a0_52, .slice A0_53 l0_53.length c0_53, .slice A0_54 l0_54.length c0_54, .slice A0_55 l0_55.length c0_55], .agg #[.int .i64 a1_0, .int .i64 a1_1, .int .i64 a1_2, .int .i64 a1_3, .int .i64 a1_4, .slice A1_5 l1_5.length c1_5, .int .i64 a1_6, .int .i64 a1_7, .int .i64 a1_8, .int .i64 a1_9, .int .i64 a1_10, .int .i64 a1_11, .int .i64 a1_12, .int .i64 a1_13, .int .i64 a1_14, .int .i64 a1_15, .int .i64 a1_16, .int .i64 a1_17, .int .i64 a1_18, .int .i64 a1_19, .int .i64 a1_20, .int .i64 a1_21, .int .i64 a1_22, .slice A1_23 l1_23.length c1_23, .slice A1_24 l1_24.length c1_24, .int .i64 a1_25, .int .i64 a1_26, .int .i64 a1_27, .int .i64 a1_28, .int .i64 a1_29, .int .i64 a1_30, .int .i64 a1_31, .int .i64 a1_32, .int .i64 a1_33, .int .i64 a1_34, .int .i64 a1_35, .int .i64 a1_36, .int .i64 a1_37, .int .i64 a1_38, .slice A1_39 l1_39.length c1_39, .slice A1_40 l1_40.length c1_40, .int .i64 a1_41, .int .i64 a1_42, .int .i64 a1_43, .int .i64 a1_44, .int .i64 a1_45, .int .i64 a1_46, .int .i64 a1_47, .int .i64 a1_48, .int .i64 a1_49, .int .i64 a1_50, .int .i64 a1_51, .bool a1_52, .slice A1_53 l1_53.length c1_53, .slice A1_54 l1_54.length c1_54, .slice A1_55 l1_55.length c1_55]] w fun e w' => e = .returned (.bool true) ∧ Below w.heap.size w w' := by
 have hu47 := Tryz.underlying47
 have HR0_5 := Aside0.mk hr0_5
 have HC0_5 := Aside0.mk hc0_5
 have HR0_23 := Aside0.mk hr0_23
 have HC0_23 := Aside0.mk hc0_23
 have HR0_24 := Aside0.mk hr0_24
 have HC0_24 := Aside0.mk hc0_24
 have HR0_39 := Aside0.mk hr0_39
 have HC0_39 := Aside0.mk hc0_39
 have HR0_40 := Aside0.mk hr0_40
 have HC0_40 := Aside0.mk hc0_40
 have HR0_53 := Aside0.mk hr0_53
 have HC0_53 := Aside0.mk hc0_53
 have HR0_54 := Aside0.mk hr0_54
 have HC0_54 := Aside0.mk hc0_54
 have HR0_55 := Aside0.mk hr0_55
 have HC0_55 := Aside0.mk hc0_55
 have HR1_5 := Aside0.mk hr1_5
 have HC1_5 := Aside0.mk hc1_5
 have HR1_23 := Aside0.mk hr1_23
 have HC1_23 := Aside0.mk hc1_23
 have HR1_24 := Aside0.mk hr1_24
 have HC1_24 := Aside0.mk hc1_24
 have HR1_39 := Aside0.mk hr1_39
 have HC1_39 := Aside0.mk hc1_39
 have HR1_40 := Aside0.mk hr1_40
 have HC1_40 := Aside0.mk hc1_40
 have HR1_53 := Aside0.mk hr1_53
 have HC1_53 := Aside0.mk hc1_53
 have HR1_54 := Aside0.mk hr1_54
 have HC1_54 := Aside0.mk hc1_54
 have HR1_55 := Aside0.mk hr1_55
 have HC1_55 := Aside0.mk hc1_55
 clear hr0_5 hc0_5 hr0_23 hc0_23 hr0_24 hc0_24 hr0_39 hc0_39 hr0_40 hc0_40 hr0_53 hc0_53 hr0_54 hc0_54 hr0_55 hc0_55 hr1_5 hc1_5 hr1_23 hc1_23 hr1_24 hc1_24 hr1_39 hc1_39 hr1_40 hc1_40 hr1_53 hc1_53 hr1_54 hc1_54 hr1_55 hc1_55
 have HF := Fr.start [47] w
 have HP := Aside0.mk True.intro
 unfold laws_eqPacket.f at h
 have HH := Aside0.mk h
 clear h
 go_enter Tryz.func10, Tryz.ntmps10
 repeat' (with_reducible first | exact xE HH | (replace HH := iA HP HH; clear HP; rcases HH with ⟨p, HP, HH⟩ | ⟨p, HP, HH⟩ <;> cases p) | fail)
 all_goals (repeat' (first
    | ((with_reducible refine gA 0 ?_) <;> (refine HF.bA ?_; clear HF; intro g_ w_ HF; refine nA ?_) <;> (refine HF.bA ?_; clear HF; intro g_ w_ HF; refine nA ?_) <;> (refine sA ?_) <;> (apply lend))
    | ((with_reducible refine gA 1 ?_) <;> (iterate 5 refine sA ?_) <;> (apply lend))
    | ((with_reducible refine gA 3 ?_) <;> (iterate 4 refine sA ?_) <;> ((replace HH := bA HH); obtain ⟨_, A14_, HH⟩ := HH) <;> (repeat' (with_reducible first | exact xE HH | (replace HH := iA HP HH; clear HP; rcases HH with ⟨p, HP, HH⟩ | ⟨p, HP, HH⟩ <;> subst p) | fail)) <;> (refine HF.cB Tryz.func31 (by (with_reducible apply laws_eqEther.calls (_r := true) (h := A14_.out)) <;> exact gP) ?_; clear HF A14_; intro w_ HF) <;> (refine sA ?_) <;> (apply lend))
    | ((with_reducible refine gA 5 ?_) <;> (iterate 4 refine sA ?_) <;> ((replace HH := bA HH); obtain ⟨_, A20_, HH⟩ := HH) <;> (repeat' (with_reducible first | exact xE HH | (replace HH := iA HP HH; clear HP; rcases HH with ⟨p, HP, HH⟩ | ⟨p, HP, HH⟩ <;> subst p) | fail)) <;> (refine HF.cB Tryz.func32 (by (with_reducible apply laws_eqFour.calls (_r := true) (h := A20_.out)) <;> exact gP) ?_; clear HF A20_; intro w_ HF) <;> (refine sA ?_) <;> (apply lend))
    | ((with_reducible refine gA 7 ?_) <;> (iterate 4 refine sA ?_) <;> ((replace HH := bA HH); obtain ⟨_, A26_, HH⟩ := HH) <;> (repeat' (with_reducible first | exact xE HH | (replace HH := iA HP HH; clear HP; rcases HH with ⟨p, HP, HH⟩ | ⟨p, HP, HH⟩ <;> subst p) | fail)) <;> (refine HF.cB Tryz.func33 (by (with_reducible apply laws_eqSix.calls (_r := true) (h := A26_.out)) <;> exact gP) ?_; clear HF A26_; intro w_ HF) <;> (refine sA ?_) <;> (apply lend))
    | ((with_reducible refine gA 9 ?_) <;> (iterate 4 refine sA ?_) <;> ((replace HH := bA HH); obtain ⟨_, A32_, HH⟩ := HH) <;> (repeat' (with_reducible first | exact xE HH | (replace HH := iA HP HH; clear HP; rcases HH with ⟨p, HP, HH⟩ | ⟨p, HP, HH⟩ <;> subst p) | fail)) <;> (refine HF.cB Tryz.func34 (by (with_reducible apply laws_eqUpper.calls (_r := true) (h := A32_.out)) <;> exact gP) ?_; clear HF A32_; intro w_ HF) <;> (refine sA ?_) <;> (apply lend))
    | ((with_reducible refine gA 11 ?_) <;> (iterate 4 refine sA ?_) <;> ((replace HH := bA HH); obtain ⟨_, A38_, HH⟩ := HH) <;> (repeat' (with_reducible first | exact xE HH | (replace HH := iA HP HH; clear HP; rcases HH with ⟨p, HP, HH⟩ | ⟨p, HP, HH⟩ <;> subst p) | fail)) <;> (refine HF.dB Tryz.func13 (by (with_reducible apply laws_eqByteS.calls (_r := true) (h := A38_.out)) <;> exact gP) ?_; clear HF A38_; intro w_ HF) <;> (refine sA ?_) <;> (apply lend))
    | ((with_reducible refine gA 13 ?_) <;> (refine sA ?_) <;> (apply lend))
    | go_step | fail))
 all_goals (have h_ := HH.out; clear HH; cases h_ <;> (go_ret; first
   | exact ⟨vE, HF.below⟩))

/-! ### spec_l03Half: function 125 -/
def spec_l03Half.f (a0 : Int) : Option (Bool) := if a0 ≥ 0 then (some (decide (a0 ≤ 4294967295))) else (some false)
theorem spec_l03Half.calls (a0 : Int) (r : Bool) (w : World) (h : spec_l03Half.f a0 = some r) :
  Calls Tryz.prog 125 #[.int .i64 a0] w fun e w' => e = .returned (.bool r) ∧ Drawn0 w w' := by
 have H : (if a0 ≥ 0 then (some (decide (a0 ≤ 4294967295))) else (some false)) = some r := h
 clear h
 by_cases c2 : a0 ≥ 0
 ·rw [if_pos c2] at H
  have c2b0 : decide (0 ≤ a0) = true := decide_eq_true c2
  clear c2
  obtain rfl := Option.some.inj H
  go_enter Tryz.func125, Tryz.ntmps125
  go_wp2
  go_ret
  exact ⟨vF, vD⟩
 ·rw [if_neg c2] at H
  have c2b0 : decide (0 ≤ a0) = false := decide_eq_false c2
  clear c2
  obtain rfl := Option.some.inj H
  go_enter Tryz.func125, Tryz.ntmps125
  go_wp2
  go_ret
  exact ⟨vF, vD⟩

/-! ### spec_AddrOk: function 96 -/
def spec_AddrOk.f (a0_0 a0_1 a0_2 a0_3 a0_4 : Int) : Option (Bool) := if a0_0 = 4 then (if a0_1 = 0 then (if a0_2 = 0 then (if a0_3 = 0 then ((spec_l03Half.f a0_4).bind fun t309 => (some t309)) else (some false)) else (some false)) else (some false)) else (if a0_0 = 6 then ((spec_l03Half.f a0_1).bind fun t310 => (if t310 = true then ((spec_l03Half.f a0_2).bind fun t311 => (if t311 = true then ((spec_l03Half.f a0_3).bind fun t312 => (if t312 = true then ((spec_l03Half.f a0_4).bind fun t313 => (some t313)) else (some false))) else (some false))) else (some false))) else (some false))
theorem spec_AddrOk.calls (a0_0 a0_1 a0_2 a0_3 a0_4 : Int) (r : Bool) (w : World) (h : spec_AddrOk.f a0_0 a0_1 a0_2 a0_3 a0_4 = some r) :
  Calls Tryz.prog 96 #[.agg #[.int .i64 a0_0, .int .i64 a0_1, .int .i64 a0_2, .int .i64 a0_3, .int .i64 a0_4]] w fun e w' => e = .returned (.bool r) ∧ Below w.heap.size w w' := by
 have hu39 := Tryz.underlying39
 have HF := Fr.start [39] w
 have HP := Aside0.mk True.intro
 unfold spec_AddrOk.f at h
 have HH := Aside0.mk h
 clear h
 go_enter Tryz.func96, Tryz.ntmps96
 repeat' (with_reducible first | (replace HH := iA HP HH; clear HP; rcases HH with ⟨p, HP, HH⟩ | ⟨p, HP, HH⟩ <;> cases p) | fail)
 all_goals (repeat' (first
    | ((with_reducible refine gA 0 ?_) <;> (refine HF.bA ?_; clear HF; intro g_ w_ HF; refine nA ?_) <;> (refine sA ?_) <;> (apply lend))
    | ((with_reducible refine gA 1 ?_) <;> (iterate 3 refine sA ?_) <;> (apply lend))
    | ((with_reducible refine gA 2 ?_) <;> (iterate 16 refine sA ?_) <;> (first | (((replace HH := bA HH); obtain ⟨_, A22_, HH⟩ := HH) <;> (refine HF.dB Tryz.func125 (by (with_reducible apply spec_l03Half.calls (h := A22_.out))) ?_; clear HF A22_; intro w_ HF)) | (refine oA ?_)) <;> (iterate 2 refine sA ?_) <;> (apply lend))
    | ((with_reducible refine gA 3 ?_) <;> (iterate 6 refine sA ?_) <;> (first | (((replace HH := bA HH); obtain ⟨_, A30_, HH⟩ := HH) <;> (repeat' (with_reducible first | (replace HH := iA HP HH; clear HP; rcases HH with ⟨p, HP, HH⟩ | ⟨p, HP, HH⟩ <;> subst p) | fail)) <;> (refine HF.dB Tryz.func125 (by (with_reducible apply spec_l03Half.calls (h := A30_.out))) ?_; clear HF A30_; intro w_ HF)) | (refine oA ?_)) <;> (iterate 4 refine sA ?_) <;> (first | (((replace HH := bA HH); obtain ⟨_, A35_, HH⟩ := HH) <;> (repeat' (with_reducible first | (replace HH := iA HP HH; clear HP; rcases HH with ⟨p, HP, HH⟩ | ⟨p, HP, HH⟩ <;> subst p) | fail)) <;> (refine HF.dB Tryz.func125 (by (with_reducible apply spec_l03Half.calls (h := A35_.out))) ?_; clear HF A35_; intro w_ HF)) | (refine oA ?_)) <;> (iterate 4 refine sA ?_) <;> (first | (((replace HH := bA HH); obtain ⟨_, A40_, HH⟩ := HH) <;> (repeat' (with_reducible first | (replace HH := iA HP HH; clear HP; rcases HH with ⟨p, HP, HH⟩ | ⟨p, HP, HH⟩ <;> subst p) | fail)) <;> (refine HF.dB Tryz.func125 (by (with_reducible apply spec_l03Half.calls (h := A40_.out))) ?_; clear HF A40_; intro w_ HF)) | (refine oA ?_)) <;> (iterate 4 refine sA ?_) <;> (first | (((replace HH := bA HH); obtain ⟨_, A45_, HH⟩ := HH) <;> (refine HF.dB Tryz.func125 (by (with_reducible apply spec_l03Half.calls (h := A45_.out))) ?_; clear HF A45_; intro w_ HF)) | (refine oA ?_)) <;> (iterate 2 refine sA ?_) <;> (apply lend))
    | go_step | fail))
 all_goals (have h_ := HH.out; clear HH; cases h_ <;> (go_ret; first
   | exact ⟨vE, HF.below⟩))

end Go.Proofs.YtffkgndghbdgnaaGreat.FFnExactPacketBytes
