-- Functions and their contracts, written by a program of this claim (wip/tools/oprint.py) out of the translation.
import Derived.Test.YtffkgndghbdgnaaGreatGFnExactPacketSizex16
namespace Go.Proofs.YtffkgndghbdgnaaGreat.FFnExactPacketSize
open Go.RowKit Go.Proofs.YtffkgndghbdgnaaGreatW.PrintWords Go.Proofs.YtffkgndghbdgnaaGreatW.PrintLast Go.Proofs.YtffkgndghbdgnaaGreatW.PrintMore Go.Proofs.YtffkgndghbdgnaaGreat.Frame
attribute [local go_sem] max2_int min2_int max_two min_two max_three min_three max_four min_four   -- for this text's walks alone
set_option linter.unusedVariables false
set_option maxHeartbeats 8000000
set_option maxRecDepth 100000
set_option linter.unusedSimpArgs false

/-! ### spec_PacketBytes: function 11 -/
def spec_PacketBytes.f (k : Nat) (a0_0 a0_1 : Int) (a0_2 a0_3 a0_4 : Int) (l0_5 : List Int) (a0_6 a0_7 : Int) (a0_8 a0_9 : Int) (a0_10 a0_11 : Int) (a0_12 a0_13 : Int) (a0_14 a0_15 : Int) (a0_16 a0_17 : Int) (a0_18 a0_19 : Int) (a0_20 a0_21 a0_22 : Int) (l0_23 l0_24 : List Int) (a0_25 a0_26 : Int) (a0_27 a0_28 : Int) (a0_29 a0_30 : Int) (a0_31 a0_32 : Int) (a0_33 a0_34 : Int) (a0_35 a0_36 : Int) (a0_37 a0_38 : Int) (l0_39 : List (S102)) (l0_40 : List Int) (a0_41 a0_42 : Int) (a0_43 a0_44 : Int) (a0_45 a0_46 : Int) (a0_47 a0_48 : Int) (a0_49 a0_50 a0_51 : Int) (a0_52 : Bool) (l0_53 l0_54 l0_55 : List Int) : Option (List Int) := (spec_l08Whole.f k a0_0 a0_1 a0_2 a0_3 a0_4 l0_5 a0_6 a0_7 a0_8 a0_9 a0_10 a0_11 a0_12 a0_13 a0_14 a0_15 a0_16 a0_17 a0_18 a0_19 a0_20 a0_21 a0_22 l0_23 l0_24 a0_25 a0_26 a0_27 a0_28 a0_29 a0_30 a0_31 a0_32 a0_33 a0_34 a0_35 a0_36 a0_37 a0_38 l0_39 l0_40 a0_41 a0_42 a0_43 a0_44 a0_45 a0_46 a0_47 a0_48 a0_49 a0_50 a0_51 a0_52 l0_53 l0_54 l0_55).bind fun bt560 => (if bt560.2.2.2.2.2 = true then ((spec_EtherBytes.f bt560.1 bt560.2.1 bt560.2.2.1 bt560.2.2.2.1 bt560.2.2.2.2.1).bind fun t569 => (some t569)) else (some ([] : List Int)))
theorem spec_PacketBytes.calls (k : Nat) (a0_0 a0_1 : Int) (a0_2 a0_3 a0_4 : Int) (A0_5 : Option Addr) (c0_5 : Nat) (l0_5 : List Int) (a0_6 a0_7 : Int) (a0_8 a0_9 : Int) (a0_10 a0_11 : Int) (a0_12 a0_13 : Int) (a0_14 a0_15 : Int) (a0_16 a0_17 : Int) (a0_18 a0_19 : Int) (a0_20 a0_21 a0_22 : Int) (A0_23 : Option Addr) (c0_23 : Nat) (l0_23 : List Int) (A0_24 : Option Addr) (c0_24 : Nat) (l0_24 : List Int) (a0_25 a0_26 : Int) (a0_27 a0_28 : Int) (a0_29 a0_30 : Int) (a0_31 a0_32 : Int) (a0_33 a0_34 : Int) (a0_35 a0_36 : Int) (a0_37 a0_38 : Int) (A0_39 : Option Addr) (c0_39 : Nat) (l0_39 : List (S102)) (A0_40 : Option Addr) (c0_40 : Nat) (l0_40 : List Int) (a0_41 a0_42 : Int) (a0_43 a0_44 : Int) (a0_45 a0_46 : Int) (a0_47 a0_48 : Int) (a0_49 a0_50 a0_51 : Int) (a0_52 : Bool) (A0_53 : Option Addr) (c0_53 : Nat) (l0_53 : List Int) (A0_54 : Option Addr) (c0_54 : Nat) (l0_54 : List Int) (A0_55 : Option Addr) (c0_55 : Nat) (l0_55 r : List Int) (w : World) (hr0_5 : Kd.C (Kd.int .u8) w A0_5 l0_5.length l0_5) (hc0_5 : l0_5.length ≤ c0_5) (hr0_23 : Kd.C (Kd.int .u8) w A0_23 l0_23.length l0_23) (hc0_23 : l0_23.length ≤ c0_23) (hr0_24 : Kd.C (Kd.int .u8) w A0_24 l0_24.length l0_24) (hc0_24 : l0_24.length ≤ c0_24) (hr0_39 : Kd.C k102 w A0_39 l0_39.length l0_39) (hc0_39 : l0_39.length ≤ c0_39) (hr0_40 : Kd.C (Kd.int .u8) w A0_40 l0_40.length l0_40) (hc0_40 : l0_40.length ≤ c0_40) (hr0_53 : Kd.C (Kd.int .u8) w A0_53 l0_53.length l0_53) (hc0_53 : l0_53.length ≤ c0_53) (hr0_54 : Kd.C (Kd.int .u8) w A0_54 l0_54.length l0_54) (hc0_54 : l0_54.length ≤ c0_54) (hr0_55 : Kd.C (Kd.int .u8) w A0_55 l0_55.length l0_55) (hc0_55 : l0_55.length ≤ c0_55) (h : spec_PacketBytes.f k a0_0 a0_1 a0_2 a0_3 a0_4 l0_5 a0_6 a0_7 a0_8 a0_9 a0_10 a0_11 a0_12 a0_13 a0_14 a0_15 a0_16 a0_17 a0_18 a0_19 a0_20 a0_21 a0_22 l0_23 l0_24 a0_25 a0_26 a0_27 a0_28 a0_29 a0_30 a0_31 a0_32 a0_33 a0_34 a0_35 a0_36 a0_37 a0_38 l0_39 l0_40 a0_41 a0_42 a0_43 a0_44 a0_45 a0_46 a0_47 a0_48 a0_49 a0_50 a0_51 a0_52 l0_53 l0_54 l0_55 = some r) :
  Calls Tryz.prog 11 #[.agg #[.int .i64 a0_0, .int .i64 a0_1, .int .i64 a0_2, .int .i64 a0_3, .int .i64 a0_4, .slice A0_5 l0_5.length c0_5, .int .i64 a0_6, .int .i64 a0_7, .int .i64 a0_8, .int .i64 a0_9, .int .i64 a0_10, .int .i64 a0_11, .int .i64 a0_12, .int .i64 a0_13, .int .i64 a0_14, .int .i64 a0_15, .int .i64 a0_16, .int .i64 a0_17, .int .i64 a0_18, .int .i64 a0_19, .int .i64 a0_20, .int .i64 a0_21, .int .i64 a0_22, .slice A0_23 l0_23.length c0_23, .slice A0_24 l0_24.length c0_24, .int .i64 a0_25, .int .i64 a0_26, .int .i64 a0_27, .int .i64 a0_28, .int .i64 a0_29, .int .i64 a0_30, .int .i64 a0_31, .int .i64 a0_32, .int .i64 a0_33, .int .i64 a0_34, .int .i64 a0_35, .int .i64 a0_36, .int .i64 a0_37, .int .i64 a0_38, .slice A0_39 l0_39.length c0_39, .slice A0_40 l0_40.length c0_40, .int .i64 a0_41, .int .i64 a0_42, .int .i64 a0_43, .int .i64 a0_44, .int .i64 a0_45, .int .i64 a0_46, .int .i64 a0_47, .int .i64 a0_48, .int .i64 a0_49, .int .i64 a0_50, .int .i64 a0_51, .bool a0_52, .slice A0_53 l0_53.length c0_53, .slice A0_54 l0_54.length c0_54, .slice A0_55 l0_55.length c0_55]] w fun e w' => ∃ v0_ : Value, e = .returned (v0_) ∧ Kd.R (Kd.int .u8) 5 w' w.heap.size (fun _ => True) v0_ r ∧ Below w.heap.size w w' := by
 have HR0_5 := Aside0.mk hr0_5
 have HC0_5 := Aside0.mk hc0_5
 have HR0_23 := Aside0.mk hr0_23
 have HC0_23 := Aside0.mk hc0_23
 have HR0_24 := Aside0.mk hr0_24
 have HC0_24 := Aside0.mk hc0_24
 have HR0_39 := Aside0.mk hr0_39
 have HC0_39 := Aside0.mk hc0_39
 have HR0_40 := Aside0.mk hr0_40
 have HC0_40 := Aside0.mk hc0_40
 have HR0_53 := Aside0.mk hr0_53
 have HC0_53 := Aside0.mk hc0_53
 have HR0_54 := Aside0.mk hr0_54
 have HC0_54 := Aside0.mk hc0_54
 have HR0_55 := Aside0.mk hr0_55
 have HC0_55 := Aside0.mk hc0_55
 clear hr0_5 hc0_5 hr0_23 hc0_23 hr0_24 hc0_24 hr0_39 hc0_39 hr0_40 hc0_40 hr0_53 hc0_53 hr0_54 hc0_54 hr0_55 hc0_55
 have HF := Fr.start [38, 47] w
 have HP := Aside0.mk True.intro
 unfold spec_PacketBytes.f at h
 have HH := Aside0.mk h
 clear h
 go_enter Tryz.func11, Tryz.ntmps11
 repeat' (with_reducible first | exact xE HH | (replace HH := iA HP HH; clear HP; rcases HH with ⟨p, HP, HH⟩ | ⟨p, HP, HH⟩ <;> first | subst p | cases p | skip) | fail)
 all_goals (repeat' (first
    | ((with_reducible refine gA 0 ?_) <;> (refine HF.bA ?_; clear HF; intro g_ w_ HF; refine nA ?_) <;> (refine sA ?_) <;> (apply lend))
    | ((with_reducible refine gA 1 ?_) <;> (refine sA ?_) <;> ((replace HH := bA HH); obtain ⟨⟨_, _, _, _, _, b_⟩, A7_, HH⟩ := HH; (try dsimp only at HH); cases b_) <;> (repeat' (with_reducible first | exact xE HH | (replace HH := iA HP HH; clear HP; rcases HH with ⟨p, HP, HH⟩ | ⟨p, HP, HH⟩ <;> first | subst p | cases p | skip) | fail)) <;> (apply cA Tryz.func35 (by kernel_rfl) rfl rfl rfl rfl; (with_reducible apply spec_l08Whole.calls (h := A7_.out)); exact (Kd.C_below HR0_5.out HF.below); exact HC0_5.out; exact (Kd.C_below HR0_23.out HF.below); exact HC0_23.out; exact (Kd.C_below HR0_24.out HF.below); exact HC0_24.out; exact (Kd.C_below HR0_39.out HF.below); exact HC0_39.out; exact (Kd.C_below HR0_40.out HF.below); exact HC0_40.out; exact (Kd.C_below HR0_53.out HF.below); exact HC0_53.out; exact (Kd.C_below HR0_54.out HF.below); exact HC0_54.out; exact (Kd.C_below HR0_55.out HF.below); exact HC0_55.out; (first | (rintro e w_ ⟨v4_, rfl, -, hq_, hb_⟩; have ho_ := hq_ rfl; clear hq_; obtain ⟨Av7_4, cv7_4, rfl⟩ := Kd.R_slice ho_; have HO7_4 := HF.row2 ho_; clear ho_) | (rintro e w_ ⟨_, rfl, ⟨A_, n_, c_, rfl⟩, hq_, hb_⟩; clear hq_; have HO7_4 := Aside0.mk True.intro)); have HB7 := Aside0.mk hb_.size; refine ⟨_, rfl, ?_⟩; replace HF := (HF.call hb_).mark; clear hb_; rotate_left; exact hA; clear A7_; refine nA ?_) <;> (iterate 3 refine sA ?_) <;> (refine HF.aA ?_; clear HF; intro g_ w_ HF; refine nA ?_) <;> (refine HF.tA ?_; clear HF; intro w_ HF) <;> (refine sA ?_) <;> (apply lend))
    | ((with_reducible refine gA 2 ?_; have k_ := HO7_4; clear k_) <;> (iterate 2 refine sA ?_) <;> (apply lend))
    | ((with_reducible refine gA 3 ?_; have k_ := HO7_4; clear k_) <;> (refine sA ?_) <;> (apply lend))
    | ((with_reducible refine gA 4 ?_; have k_ := HO7_4; clear k_) <;> (refine sA ?_) <;> ((replace HH := bA HH); obtain ⟨_, A13_, HH⟩ := HH; (try dsimp only at HH)) <;> (repeat' (with_reducible first | exact xE HH | (replace HH := iA HP HH; clear HP; rcases HH with ⟨p, HP, HH⟩ | ⟨p, HP, HH⟩ <;> first | subst p | cases p | skip) | fail)) <;> (have HS13 := HF.since; refine HF.rB Tryz.func36 (by (with_reducible apply spec_EtherBytes.calls (h := A13_.out)) <;> exact gP) ?_; clear HF A13_; intro Av13_0 cv13_0 w_ HO13_0 HB13 HF; refine nA ?_) <;> ((refine pA ?_); (try clear HO2_0); have HO2_0 := HO13_0) <;> (apply lend))
    | go_step | fail))
 all_goals (have h_ := HH.out; clear HH; cases h_ <;> (go_ret; first
   | exact ⟨_, rfl, (Kd.R_nil _ _ _ _ _), HF.below⟩
   | exact ⟨_, rfl, (rN HF HO2_0), HF.below⟩))

/-! ### spec_PacketOk: function 17 -/
def spec_PacketOk.f (k : Nat) (a0_0 a0_1 : Int) (a0_2 a0_3 a0_4 : Int) (l0_5 : List Int) (a0_6 a0_7 : Int) (a0_8 a0_9 : Int) (a0_10 a0_11 : Int) (a0_12 a0_13 : Int) (a0_14 a0_15 : Int) (a0_16 a0_17 : Int) (a0_18 a0_19 : Int) (a0_20 a0_21 a0_22 : Int) (l0_23 l0_24 : List Int) (a0_25 a0_26 : Int) (a0_27 a0_28 : Int) (a0_29 a0_30 : Int) (a0_31 a0_32 : Int) (a0_33 a0_34 : Int) (a0_35 a0_36 : Int) (a0_37 a0_38 : Int) (l0_39 : List (S102)) (l0_40 : List Int) (a0_41 a0_42 : Int) (a0_43 a0_44 : Int) (a0_45 a0_46 : Int) (a0_47 a0_48 : Int) (a0_49 a0_50 a0_51 : Int) (a0_52 : Bool) (l0_53 l0_54 l0_55 : List Int) : Option (Bool) := (spec_l08Whole.f k a0_0 a0_1 a0_2 a0_3 a0_4 l0_5 a0_6 a0_7 a0_8 a0_9 a0_10 a0_11 a0_12 a0_13 a0_14 a0_15 a0_16 a0_17 a0_18 a0_19 a0_20 a0_21 a0_22 l0_23 l0_24 a0_25 a0_26 a0_27 a0_28 a0_29 a0_30 a0_31 a0_32 a0_33 a0_34 a0_35 a0_36 a0_37 a0_38 l0_39 l0_40 a0_41 a0_42 a0_43 a0_44 a0_45 a0_46 a0_47 a0_48 a0_49 a0_50 a0_51 a0_52 l0_53 l0_54 l0_55).bind fun bt573 => (some bt573.2.2.2.2.2)
theorem spec_PacketOk.calls (k : Nat) (a0_0 a0_1 : Int) (a0_2 a0_3 a0_4 : Int) (A0_5 : Option Addr) (c0_5 : Nat) (l0_5 : List Int) (a0_6 a0_7 : Int) (a0_8 a0_9 : Int) (a0_10 a0_11 : Int) (a0_12 a0_13 : Int) (a0_14 a0_15 : Int) (a0_16 a0_17 : Int) (a0_18 a0_19 : Int) (a0_20 a0_21 a0_22 : Int) (A0_23 : Option Addr) (c0_23 : Nat) (l0_23 : List Int) (A0_24 : Option Addr) (c0_24 : Nat) (l0_24 : List Int) (a0_25 a0_26 : Int) (a0_27 a0_28 : Int) (a0_29 a0_30 : Int) (a0_31 a0_32 : Int) (a0_33 a0_34 : Int) (a0_35 a0_36 : Int) (a0_37 a0_38 : Int) (A0_39 : Option Addr) (c0_39 : Nat) (l0_39 : List (S102)) (A0_40 : Option Addr) (c0_40 : Nat) (l0_40 : List Int) (a0_41 a0_42 : Int) (a0_43 a0_44 : Int) (a0_45 a0_46 : Int) (a0_47 a0_48 : Int) (a0_49 a0_50 a0_51 : Int) (a0_52 : Bool) (A0_53 : Option Addr) (c0_53 : Nat) (l0_53 : List Int) (A0_54 : Option Addr) (c0_54 : Nat) (l0_54 : List Int) (A0_55 : Option Addr) (c0_55 : Nat) (l0_55 : List Int) (r : Bool) (w : World) (hr0_5 : Kd.C (Kd.int .u8) w A0_5 l0_5.length l0_5) (hc0_5 : l0_5.length ≤ c0_5) (hr0_23 : Kd.C (Kd.int .u8) w A0_23 l0_23.length l0_23) (hc0_23 : l0_23.length ≤ c0_23) (hr0_24 : Kd.C (Kd.int .u8) w A0_24 l0_24.length l0_24) (hc0_24 : l0_24.length ≤ c0_24) (hr0_39 : Kd.C k102 w A0_39 l0_39.length l0_39) (hc0_39 : l0_39.length ≤ c0_39) (hr0_40 : Kd.C (Kd.int .u8) w A0_40 l0_40.length l0_40) (hc0_40 : l0_40.length ≤ c0_40) (hr0_53 : Kd.C (Kd.int .u8) w A0_53 l0_53.length l0_53) (hc0_53 : l0_53.length ≤ c0_53) (hr0_54 : Kd.C (Kd.int .u8) w A0_54 l0_54.length l0_54) (hc0_54 : l0_54.length ≤ c0_54) (hr0_55 : Kd.C (Kd.int .u8) w A0_55 l0_55.length l0_55) (hc0_55 : l0_55.length ≤ c0_55) (h : spec_PacketOk.f k a0_0 a0_1 a0_2 a0_3 a0_4 l0_5 a0_6 a0_7 a0_8 a0_9 a0_10 a0_11 a0_12 a0_13 a0_14 a0_15 a0_16 a0_17 a0_18 a0_19 a0_20 a0_21 a0_22 l0_23 l0_24 a0_25 a0_26 a0_27 a0_28 a0_29 a0_30 a0_31 a0_32 a0_33 a0_34 a0_35 a0_36 a0_37 a0_38 l0_39 l0_40 a0_41 a0_42 a0_43 a0_44 a0_45 a0_46 a0_47 a0_48 a0_49 a0_50 a0_51 a0_52 l0_53 l0_54 l0_55 = some r) :
  Calls Tryz.prog 17 #[.agg #[.int .i64 a0_0, .int .i64 a0_1, .int .i64 a0_2, .int .i64 a0_3, .int .i64 a0_4, .slice A0_5 l0_5.length c0_5, .int .i64 a0_6, .int .i64 a0_7, .int .i64 a0_8, .int .i64 a0_9, .int .i64 a0_10, .int .i64 a0_11, .int .i64 a0_12, .int .i64 a0_13, .int .i64 a0_14, .int .i64 a0_15, .int .i64 a0_16, .int .i64 a0_17, .int .i64 a0_18, .int .i64 a0_19, .int .i64 a0_20, .int .i64 a0_21, .int .i64 a0_22, .slice A0_23 l0_23.length c0_23, .slice A0_24 l0_24.length c0_24, .int .i64 a0_25, .int .i64 a0_26, .int .i64 a0_27, .int .i64 a0_28, .int .i64 a0_29, .int .i64 a0_30, .int .i64 a0_31, .int .i64 a0_32, .int .i64 a0_33, .int .i64 a0_34, .int .i64 a0_35, .int .i64 a0_36, .int .i64 a0_37, .int .i64 a0_38, .slice A0_39 l0_39.length c0_39, .slice A0_40 l0_40.length c0_40, .int .i64 a0_41, .int .i64 a0_42, .int .i64 a0_43, .int .i64 a0_44, .int .i64 a0_45, .int .i64 a0_46, .int .i64 a0_47, .int .i64 a0_48, .int .i64 a0_49, .int .i64 a0_50, .int .i64 a0_51, .bool a0_52, .slice A0_53 l0_53.length c0_53, .slice A0_54 l0_54.length c0_54, .slice A0_55 l0_55.length c0_55]] w fun e w' => e = .returned (.bool r) ∧ Below w.heap.size w w' := by
 have HR0_5 := Aside0.mk hr0_5
 have HC0_5 := Aside0.mk hc0_5
 have HR0_23 := Aside0.mk hr0_23
 have HC0_23 := Aside0.mk hc0_23
 have HR0_24 := Aside0.mk hr0_24
 have HC0_24 := Aside0.mk hc0_24
 have HR0_39 := Aside0.mk hr0_39
 have HC0_39 := Aside0.mk hc0_39
 have HR0_40 := Aside0.mk hr0_40
 have HC0_40 := Aside0.mk hc0_40
 have HR0_53 := Aside0.mk hr0_53
 have HC0_53 := Aside0.mk hc0_53
 have HR0_54 := Aside0.mk hr0_54
 have HC0_54 := Aside0.mk hc0_54
 have HR0_55 := Aside0.mk hr0_55
 have HC0_55 := Aside0.mk hc0_55
 clear hr0_5 hc0_5 hr0_23 hc0_23 hr0_24 hc0_24 hr0_39 hc0_39 hr0_40 hc0_40 hr0_53 hc0_53 hr0_54 hc0_54 hr0_55 hc0_55
 have HF := Fr.start [38, 47] w
 have HP := Aside0.mk True.intro
 unfold spec_PacketOk.f at h
 have HH := Aside0.mk h
 clear h
 go_enter Tryz.func17, Tryz.ntmps17
 repeat' (with_reducible first | exact xE HH | (replace HH := iA HP HH; clear HP; rcases HH with ⟨p, HP, HH⟩ | ⟨p, HP, HH⟩ <;> first | subst p | cases p | skip) | fail)
 all_goals (repeat' (first
    | ((with_reducible refine gA 0 ?_) <;> (refine HF.bA ?_; clear HF; intro g_ w_ HF; refine nA ?_) <;> (refine sA ?_) <;> (apply lend))
    | ((with_reducible refine gA 1 ?_) <;> (refine sA ?_) <;> ((replace HH := bA HH); obtain ⟨⟨_, _, _, _, _, _⟩, A7_, HH⟩ := HH; (try dsimp only at HH)) <;> (repeat' (with_reducible first | exact xE HH | (replace HH := iA HP HH; clear HP; rcases HH with ⟨p, HP, HH⟩ | ⟨p, HP, HH⟩ <;> first | subst p | cases p | skip) | fail)) <;> (apply cA Tryz.func35 (by kernel_rfl) rfl rfl rfl rfl; (with_reducible apply spec_l08Whole.calls (h := A7_.out)); exact (Kd.C_below HR0_5.out HF.below); exact HC0_5.out; exact (Kd.C_below HR0_23.out HF.below); exact HC0_23.out; exact (Kd.C_below HR0_24.out HF.below); exact HC0_24.out; exact (Kd.C_below HR0_39.out HF.below); exact HC0_39.out; exact (Kd.C_below HR0_40.out HF.below); exact HC0_40.out; exact (Kd.C_below HR0_53.out HF.below); exact HC0_53.out; exact (Kd.C_below HR0_54.out HF.below); exact HC0_54.out; exact (Kd.C_below HR0_55.out HF.below); exact HC0_55.out; rintro e w_ ⟨_, rfl, ⟨A_, n_, c_, rfl⟩, hq_, hb_⟩; clear hq_; refine ⟨_, rfl, ?_⟩; replace HF := HF.call hb_; clear hb_; rotate_left; exact hA; clear A7_; refine nA ?_) <;> (iterate 3 refine sA ?_) <;> (refine HF.aA ?_; clear HF; intro g_ w_ HF; refine nA ?_) <;> (refine HF.tA ?_; clear HF; intro w_ HF) <;> (refine sA ?_) <;> (apply lend))
    | ((with_reducible refine gA 2 ?_) <;> (iterate 2 refine sA ?_) <;> (apply lend))
    | go_step | fail))
 all_goals (have h_ := HH.out; clear HH; cases h_ <;> (go_ret; first
   | exact ⟨vE, HF.below⟩))

/-! ### spec_PacketSize: function 7 -/
def spec_PacketSize.f (k : Nat) (a0_0 a0_1 : Int) (a0_2 a0_3 a0_4 : Int) (l0_5 : List Int) (a0_6 a0_7 : Int) (a0_8 a0_9 : Int) (a0_10 a0_11 : Int) (a0_12 a0_13 : Int) (a0_14 a0_15 : Int) (a0_16 a0_17 : Int) (a0_18 a0_19 : Int) (a0_20 a0_21 a0_22 : Int) (l0_23 l0_24 : List Int) (a0_25 a0_26 : Int) (a0_27 a0_28 : Int) (a0_29 a0_30 : Int) (a0_31 a0_32 : Int) (a0_33 a0_34 : Int) (a0_35 a0_36 : Int) (a0_37 a0_38 : Int) (l0_39 : List (S102)) (l0_40 : List Int) (a0_41 a0_42 : Int) (a0_43 a0_44 : Int) (a0_45 a0_46 : Int) (a0_47 a0_48 : Int) (a0_49 a0_50 a0_51 : Int) (a0_52 : Bool) (l0_53 l0_54 l0_55 : List Int) : Option (Int) := (spec_PacketOk.f k a0_0 a0_1 a0_2 a0_3 a0_4 l0_5 a0_6 a0_7 a0_8 a0_9 a0_10 a0_11 a0_12 a0_13 a0_14 a0_15 a0_16 a0_17 a0_18 a0_19 a0_20 a0_21 a0_22 l0_23 l0_24 a0_25 a0_26 a0_27 a0_28 a0_29 a0_30 a0_31 a0_32 a0_33 a0_34 a0_35 a0_36 a0_37 a0_38 l0_39 l0_40 a0_41 a0_42 a0_43 a0_44 a0_45 a0_46 a0_47 a0_48 a0_49 a0_50 a0_51 a0_52 l0_53 l0_54 l0_55).bind fun t583 => (if t583 = true then ((spec_PacketBytes.f k a0_0 a0_1 a0_2 a0_3 a0_4 l0_5 a0_6 a0_7 a0_8 a0_9 a0_10 a0_11 a0_12 a0_13 a0_14 a0_15 a0_16 a0_17 a0_18 a0_19 a0_20 a0_21 a0_22 l0_23 l0_24 a0_25 a0_26 a0_27 a0_28 a0_29 a0_30 a0_31 a0_32 a0_33 a0_34 a0_35 a0_36 a0_37 a0_38 l0_39 l0_40 a0_41 a0_42 a0_43 a0_44 a0_45 a0_46 a0_47 a0_48 a0_49 a0_50 a0_51 a0_52 l0_53 l0_54 l0_55).bind fun t584 => (some (t584.length : Int))) else (some (-1)))
theorem spec_PacketSize.calls (k : Nat) (a0_0 a0_1 : Int) (a0_2 a0_3 a0_4 : Int) (A0_5 : Option Addr) (c0_5 : Nat) (l0_5 : List Int) (a0_6 a0_7 : Int) (a0_8 a0_9 : Int) (a0_10 a0_11 : Int) (a0_12 a0_13 : Int) (a0_14 a0_15 : Int) (a0_16 a0_17 : Int) (a0_18 a0_19 : Int) (a0_20 a0_21 a0_22 : Int) (A0_23 : Option Addr) (c0_23 : Nat) (l0_23 : List Int) (A0_24 : Option Addr) (c0_24 : Nat) (l0_24 : List Int) (a0_25 a0_26 : Int) (a0_27 a0_28 : Int) (a0_29 a0_30 : Int) (a0_31 a0_32 : Int) (a0_33 a0_34 : Int) (a0_35 a0_36 : Int) (a0_37 a0_38 : Int) (A0_39 : Option Addr) (c0_39 : Nat) (l0_39 : List (S102)) (A0_40 : Option Addr) (c0_40 : Nat) (l0_40 : List Int) (a0_41 a0_42 : Int) (a0_43 a0_44 : Int) (a0_45 a0_46 : Int) (a0_47 a0_48 : Int) (a0_49 a0_50 a0_51 : Int) (a0_52 : Bool) (A0_53 : Option Addr) (c0_53 : Nat) (l0_53 : List Int) (A0_54 : Option Addr) (c0_54 : Nat) (l0_54 : List Int) (A0_55 : Option Addr) (c0_55 : Nat) (l0_55 : List Int) (r : Int) (w : World) (hr0_5 : Kd.C (Kd.int .u8) w A0_5 l0_5.length l0_5) (hc0_5 : l0_5.length ≤ c0_5) (hr0_23 : Kd.C (Kd.int .u8) w A0_23 l0_23.length l0_23) (hc0_23 : l0_23.length ≤ c0_23) (hr0_24 : Kd.C (Kd.int .u8) w A0_24 l0_24.length l0_24) (hc0_24 : l0_24.length ≤ c0_24) (hr0_39 : Kd.C k102 w A0_39 l0_39.length l0_39) (hc0_39 : l0_39.length ≤ c0_39) (hr0_40 : Kd.C (Kd.int .u8) w A0_40 l0_40.length l0_40) (hc0_40 : l0_40.length ≤ c0_40) (hr0_53 : Kd.C (Kd.int .u8) w A0_53 l0_53.length l0_53) (hc0_53 : l0_53.length ≤ c0_53) (hr0_54 : Kd.C (Kd.int .u8) w A0_54 l0_54.length l0_54) (hc0_54 : l0_54.length ≤ c0_54) (hr0_55 : Kd.C (Kd.int .u8) w A0_55 l0_55.length l0_55) (hc0_55 : l0_55.length ≤ c0_55) (h : spec_PacketSize.f k a0_0 a0_1 a0_2 a0_3 a0_4 l0_5 a0_6 a0_7 a0_8 a0_9 a0_10 a0_11 a0_12 a0_13 a0_14 a0_15 a0_16 a0_17 a0_18 a0_19 a0_20 a0_21 a0_22 l0_23 l0_24 a0_25 a0_26 a0_27 a0_28 a0_29 a0_30 a0_31 a0_32 a0_33 a0_34 a0_35 a0_36 a0_37 a0_38 l0_39 l0_40 a0_41 a0_42 a0_43 a0_44 a0_45 a0_46 a0_47 a0_48 a0_49 a0_50 a0_51 a0_52 l0_53 l0_54 l0_55 = some r) :
  Calls Tryz.prog 7 #[.agg #[.int .i64 a0_0, .int .i64 a0_1, .int .i64 a0_2, .int .i64 a0_3, .int .i64 a0_4, .slice A0_5 l0_5.length c0_5, .int .i64 a0_6, .int .i64 a0_7, .int .i64 a0_8, .int .i64 a0_9, .int .i64 a0_10, .int .i64 a0_11, .int .i64 a0_12, .int .i64 a0_13, .int .i64 a0_14, .int .i64 a0_15, .int .i64 a0_16, .int .i64 a0_17, .int .i64 a0_18, .int .i64 a0_19, .int .i64 a0_20, .int .i64 a0_21, .int .i64 a0_22, .slice A0_23 l0_23.length c0_23, .slice A0_24 l0_24.length c0_24, .int .i64 a0_25, .int .i64 a0_26, .int .i64 a0_27, .int .i64 a0_28, .int .i64 a0_29, .int .i64 a0_30, .int .i64 a0_31, .int .i64 a0_32, .int .i64 a0_33, .int .i64 a0_34, .int .i64 a0_35, .int .i64 a0_36, .int .i64 a0_37, .int .i64 a0_38, .slice A0_39 l0_39.length c0_39, .slice A0_40 l0_40.length c0_40, .int .i64 a0_41, .int .i64 a0_42, .int .i64 a0_43, .int .i64 a0_44, .int .i64 a0_45, .int .i64 a0_46, .int .i64 a0_47, .int .i64 a0_48, .int .i64 a0_49, .int .i64 a0_50, .int .i64 a0_51, .bool a0_52, .slice A0_53 l0_53.length c0_53, .slice A0_54 l0_54.length c0_54, .slice A0_55 l0_55.length c0_55]] w fun e w' => e = .returned (.int .i64 r) ∧ Below w.heap.size w w' := by
 have hu22 := Tryz.underlying22
 have HR0_5 := Aside0.mk hr0_5
 have HC0_5 := Aside0.mk hc0_5
 have HR0_23 := Aside0.mk hr0_23
 have HC0_23 := Aside0.mk hc0_23
 have HR0_24 := Aside0.mk hr0_24
 have HC0_24 := Aside0.mk hc0_24
 have HR0_39 := Aside0.mk hr0_39
 have HC0_39 := Aside0.mk hc0_39
 have HR0_40 := Aside0.mk hr0_40
 have HC0_40 := Aside0.mk hc0_40
 have HR0_53 := Aside0.mk hr0_53
 have HC0_53 := Aside0.mk hc0_53
 have HR0_54 := Aside0.mk hr0_54
 have HC0_54 := Aside0.mk hc0_54
 have HR0_55 := Aside0.mk hr0_55
 have HC0_55 := Aside0.mk hc0_55
 clear hr0_5 hc0_5 hr0_23 hc0_23 hr0_24 hc0_24 hr0_39 hc0_39 hr0_40 hc0_40 hr0_53 hc0_53 hr0_54 hc0_54 hr0_55 hc0_55
 have HF := Fr.start [47] w
 have HP := Aside0.mk True.intro
 unfold spec_PacketSize.f at h
 have HH := Aside0.mk h
 clear h
 go_enter Tryz.func7, Tryz.ntmps7
 repeat' (with_reducible first | exact xE HH | (replace HH := iA HP HH; clear HP; rcases HH with ⟨p, HP, HH⟩ | ⟨p, HP, HH⟩ <;> first | subst p | cases p | skip) | fail)
 all_goals (repeat' (first
    | ((with_reducible refine gA 0 ?_) <;> (refine HF.bA ?_; clear HF; intro g_ w_ HF; refine nA ?_) <;> (refine sA ?_) <;> (apply lend))
    | ((with_reducible refine gA 1 ?_) <;> (refine sA ?_) <;> ((replace HH := bA HH); obtain ⟨_, A4_, HH⟩ := HH; (try dsimp only at HH)) <;> (repeat' (with_reducible first | exact xE HH | (replace HH := iA HP HH; clear HP; rcases HH with ⟨p, HP, HH⟩ | ⟨p, HP, HH⟩ <;> first | subst p | cases p | skip) | fail)) <;> (refine HF.cB Tryz.func17 (by (with_reducible apply spec_PacketOk.calls (h := A4_.out)) <;> exact gP) ?_; clear HF A4_; intro w_ HF) <;> (refine sA ?_) <;> (apply lend))
    | ((with_reducible refine gA 2 ?_) <;> (refine sA ?_) <;> (apply lend))
    | ((with_reducible refine gA 3 ?_) <;> (refine sA ?_) <;> ((replace HH := bA HH); obtain ⟨_, A7_, HH⟩ := HH; (try dsimp only at HH)) <;> (repeat' (with_reducible first | exact xE HH | (replace HH := iA HP HH; clear HP; rcases HH with ⟨p, HP, HH⟩ | ⟨p, HP, HH⟩ <;> first | subst p | cases p | skip) | fail)) <;> (refine HF.rB Tryz.func11 (by (with_reducible apply spec_PacketBytes.calls (h := A7_.out)) <;> exact gP) ?_; clear HF A7_; intro Av7_0 cv7_0 w_ HO7_0 HB7 HF; refine nA ?_) <;> (iterate 2 refine sA ?_) <;> (apply lend))
    | go_step | fail))
 all_goals (have h_ := HH.out; clear HH; cases h_ <;> (go_ret; first
   | exact ⟨vE, HF.below⟩))

/-! ### laws_toByteS: function 28 -/
def laws_toByteS.l0 : Nat → List Int → List Int → Int → Option (List Int)
 | 0, _, _, _ => none
 | k + 1, x0, x3, x4 => if x4 < (x0.length : Int) then (if 0 ≤ x4 then (if x4 < (x3.length : Int) then (laws_toByteS.l0 k x0 (x3.set (x4 : Int).toNat (rd x0 x4)) (wrap64 (x4 + 1))) else (none)) else (none)) else (some x3)
def laws_toByteS.f (k : Nat) (l0 : List Int) : Option (List Int) := if 0 ≤ (l0.length : Int) then (if ((l0.length : Int) : Int).toNat ≤ 281474976710656 then (laws_toByteS.l0 k l0 (List.replicate ((l0.length : Int) : Int).toNat 0) 0) else (none)) else (none)
theorem laws_toByteS.calls (k : Nat) (A0 : Option Addr) (c0 : Nat) (l0 r : List Int) (w : World) (hr0 : Kd.C (Kd.int .u8) w A0 l0.length l0) (hc0 : l0.length ≤ c0) (h : laws_toByteS.f k l0 = some r) :
  Calls Tryz.prog 28 #[.slice A0 l0.length c0] w fun e w' => ∃ v0_ : Value, e = .returned (v0_) ∧ Kd.R (Kd.int .u8) 5 w' w.heap.size (fun _ => True) v0_ r ∧ Below w.heap.size w w' := by
 have HR0 := Aside0.mk hr0
 have HC0 := Aside0.mk hc0
 clear hr0 hc0
 have HB := Aside0.mk (Below.refl w.heap.size w)
 have H : (if 0 ≤ (l0.length : Int) then (if ((l0.length : Int) : Int).toNat ≤ 281474976710656 then (laws_toByteS.l0 k l0 (List.replicate ((l0.length : Int) : Int).toNat 0) 0) else (none)) else (none)) = some r := h
 clear h
 by_cases c2 : 0 ≤ (l0.length : Int)
 ·rw [if_pos c2] at H
  have c2b0 := eq_true c2
  have c2b1 : decide (0 ≤ (l0.length : Int)) = true := decide_eq_true c2
  clear c2
  by_cases c3 : ((l0.length : Int) : Int).toNat ≤ 281474976710656
  ·rw [if_pos c3] at H
   have c3b0 := eq_true c3
   have c3b1 : decide (((l0.length : Int) : Int).toNat ≤ 281474976710656) = true := decide_eq_true c3
   clear c3
   obtain ⟨y587, hy587⟩ : ∃ y_ : List Int, y_ = (List.replicate ((l0.length : Int) : Int).toNat 0) := ⟨_, rfl⟩
   replace H : (laws_toByteS.l0 k l0 y587 0) = some r := by first | (rw [hy587]; with_reducible exact H) | (have H2_ := (Option.bind_some _ _).symm.trans H; rw [hy587]; with_reducible exact H2_) | (have H2_ := (Option.bind_some _ _).symm.trans H; with_reducible exact H2_) | with_reducible exact H | (rw [hy587]; exact H) | exact H
   have Ny587 := Aside0.mk hy587
   clear hy587
   have H' := Aside0.mk H
   clear H
   go_enter Tryz.func28, Tryz.ntmps28
   go_wp2_with (first | ((with_reducible refine gate_dst (N := 7) rfl ?_); refine Kd.R_make (Kd.int .u8) _ 5 rfl (N := 7) rfl 22 _ _ rfl (l0.length : Int) rfl rfl Tryz.underlying22 (.int .u8 0) 1 info5 rfl (by decide) (by omega) 0 (ok := fun _ => True) (okp := fun _ => True) rfl (fun _ hk => hk) trivial (of_decide_eq_true (by first | (with_reducible assumption) | assumption)) (Nat.le_trans (Nat.mul_le_mul_right _ (of_decide_eq_true (by first | (with_reducible assumption) | assumption) : (l0.length : Int).toNat ≤ 281474976710656)) (by omega)) (Below.refl _ _) (Nat.le_refl _) ?_; intro v588 w4 ho5 hb hg_ hnew_; clear hg_ hnew_; (first | rw [← Ny587.out] at ho5 | (simp only [Int.reduceToNat] at ho5; rw [← Ny587.out] at ho5)); have n0_ := Aside0.mk (Kd.R_lower ho5 (below_size (by repeat (first | (with_reducible first | exact HB.out | apply below_alloc | apply pw_below_drewN | apply below_drew1) | exact HB.out)))); have n1_ := Aside0.mk (below_step (by repeat (first | (with_reducible first | exact HB.out | apply below_alloc | apply pw_below_drewN | apply below_drew1) | exact HB.out)) hb); clear HB; have HO589 := n0_; have HB := n1_; clear n0_ n1_; clear hb ho5))
   go_loopg [4] k (fun kq v4 w' => ∃ (x3_1 : List Int) (x4_1 : Int), v4 = .int .i64 x4_1 ∧ Aside0 (laws_toByteS.l0 kq l0 x3_1 x4_1 = some r) ∧ Aside0 (kq ≤ k) ∧ Aside0 (Kd.R (Kd.int .u8) 5 w' w.heap.size (fun _ => True) v588 x3_1) ∧ Aside0 (Below w.heap.size w w'))
   case atStart => exact ⟨(y587), (0), (by first | rfl | (simp; done) | (simp [*]; done)), H', ⟨Nat.le_refl _⟩, ⟨by (with_reducible repeat (first | apply Kd.R_alloc | apply Kd.R_drewN | apply Kd.R_drew)); exact HO589.out⟩, ⟨by repeat (first | (with_reducible first | exact HB.out | apply below_alloc | apply pw_below_drewN | apply below_drew1) | exact HB.out)⟩⟩
   case round =>
    clear H'
    try clear c2
    try clear c2b0
    try clear c2b1
    try clear p2
    try clear c3
    try clear c3b0
    try clear c3b1
    obtain ⟨x3_1, x4_1, rfl, HA, HK1, HO_3, HB⟩ := hrel
    cases gk with
    | zero => exact absurd HA.out (by simp [laws_toByteS.l0])
    | succ k1 =>
     have H := HA.out
     clear HA
     simp only [laws_toByteS.l0] at H
     by_cases c6 : x4_1 < (l0.length : Int)
     ·rw [if_pos c6] at H
      have c6b0 : decide (x4_1 < (l0.length : Int)) = true := decide_eq_true c6
      clear c6
      by_cases c7 : 0 ≤ x4_1
      ·rw [if_pos c7] at H
       have c7b0 : decide (0 ≤ x4_1) = true := decide_eq_true c7
       clear c7
       by_cases c8 : x4_1 < (x3_1.length : Int)
       ·rw [if_pos c8] at H
        have c8b0 : decide (x4_1 < (x3_1.length : Int)) = true := decide_eq_true c8
        clear c8
        obtain ⟨y591, hy591⟩ : ∃ y_ : List Int, y_ = (x3_1.set (x4_1 : Int).toNat (rd l0 x4_1)) := ⟨_, rfl⟩
        replace H : (laws_toByteS.l0 k1 l0 y591 (wrap64 (x4_1 + 1))) = some r := by first | (rw [hy591]; with_reducible exact H) | (have H2_ := (Option.bind_some _ _).symm.trans H; rw [hy591]; with_reducible exact H2_) | (have H2_ := (Option.bind_some _ _).symm.trans H; with_reducible exact H2_) | with_reducible exact H | (rw [hy591]; exact H) | exact H
        have Ny591 := Aside0.mk hy591
        clear hy591
        have H' := Aside0.mk H
        clear H
        have p590 : 0 ≤ (x4_1 : Int) := of_decide_eq_true (by first | (with_reducible assumption) | assumption)
        have q590 : x4_1 < (l0.length : Int) := of_decide_eq_true (by first | (with_reducible assumption) | assumption)
        obtain ⟨ad590, e590, hx590_0⟩ := Kd.at_int HR0.out x4_1 p590 q590
        cases e590
        replace hx590_0 := (HB.out.cell (World.block_lt_of_cell? w _ hx590_0)).trans hx590_0
        replace p590 := eq_true p590
        replace q590 := eq_true q590
        have p9 : 0 ≤ (x4_1 : Int) := of_decide_eq_true (by first | (with_reducible assumption) | assumption)
        have q9 : (x4_1 : Int) < ((x3_1.length : Int) : Int) := of_decide_eq_true (by first | (with_reducible assumption) | assumption)
        obtain ⟨go9, co9, eo9, gb9, gl9, cl9, HG9⟩ := Kd.R_form HO_3.out (by omega)
        (first | cases eo9 | (injection eo9 with ea_ en_ ec_; (first | subst ea_ | (injection ea_ with ea_; subst ea_)); subst ec_; clear en_))
        have GB9 := Aside0.mk gb9
        have GG9 := Aside0.mk HG9
        clear gb9 gl9 HG9
        obtain ⟨hx9_0, hf9_0⟩ := Kd.R_celln 0 HO_3.out (x4_1 : Int) p9 q9
        replace p9 := eq_true p9
        replace q9 := eq_true q9
        have HP10 := Kd.R_putg HO_3.out (x4_1 : Int) (rd l0 x4_1)
        go_wp2_with (first | ((with_reducible refine gate_store (t := 5) (p := 20) rfl ?_); refine store_event (t := 5) (p := 20) (v := ?vo_w11) (w1 := (wr.setCell ⟨go9, (x4_1 : Int).toNat, none⟩ (.int .u8 (rd l0 x4_1)))) ?hg ?ho ?hn ?hr ?_; (case ho => rfl); (case hg => rfl); (case hn => rfl); (case hr => first | (go_simp; done) | (go_simp; rfl)); intro w11 hw; have hg : wr.grownBy w11 (some go9) := (by rw [hw]; exact HP10.2); have hp_ : Kd.R (Kd.int .u8) 5 w11 w.heap.size (fun _ => True) (.slice (some ⟨go9, 0, none⟩) x3_1.length co9) y591 := (by rw [hw, Ny591.out]; exact HP10.1); clear HP10; have n0_ := Aside0.mk (hp_); have n1_ := Aside0.mk ((by rw [hw]; exact below_set (HB.out) GB9.out : Below w.heap.size w w11)); clear HO_3; clear HB; have HO_3 := n0_; have HB := n1_; clear n0_ n1_; clear hg hw hp_))
        go_roundg k1
        case measure => have := HK1.out; omega
        case rel => exact ⟨(y591), (wrap64 (x4_1 + 1)), (by first | rfl | (simp; done) | (simp [*]; done)), H', ⟨by have := HK1.out; omega⟩, ⟨by (with_reducible repeat (first | apply Kd.R_alloc | apply Kd.R_drewN | apply Kd.R_drew)); exact HO_3.out⟩, ⟨by repeat (first | (with_reducible first | exact HB.out | apply below_alloc | apply pw_below_drewN | apply below_drew1) | exact HB.out)⟩⟩
       ·rw [if_neg c8] at H
        exact absurd H (by simp)
      ·rw [if_neg c7] at H
       exact absurd H (by simp)
     ·rw [if_neg c6] at H
      have c6b0 : decide (x4_1 < (l0.length : Int)) = false := decide_eq_false c6
      clear c6
      obtain rfl := Option.some.inj H
      go_wp2
      go_ret
      exact ⟨_, by first | rfl | (simp [errW_none, errW_some] <;> rfl) | (simp [*, errW_none, errW_some] <;> rfl), by (with_reducible repeat (first | apply Kd.R_alloc | apply Kd.R_drewN | apply Kd.R_drew)); exact HO_3.out, by repeat (first | (with_reducible first | exact HB.out | apply below_alloc | apply pw_below_drewN | apply below_drew1) | exact HB.out)⟩
  ·rw [if_neg c3] at H
   exact absurd H (by simp)
 ·rw [if_neg c2] at H
  exact absurd H (by simp)

/-! ### laws_toEther: function 24 -/
def laws_toEther.f (k : Nat) (a0_0 a0_1 : Int) (a0_2 a0_3 : Int) (l0_4 : List Int) : Option (Int × Int × Int × Int × List Int) := (laws_toByteS.f k l0_4).bind fun t595 => (some (a0_0, a0_1, a0_2, a0_3, t595))
theorem laws_toEther.calls (k : Nat) (a0_0 a0_1 : Int) (a0_2 a0_3 : Int) (A0_4 : Option Addr) (c0_4 : Nat) (l0_4 : List Int) (r1 r2 : Int) (r3 r4 : Int) (r5 : List Int) (w : World) (hr0_4 : Kd.C (Kd.int .u8) w A0_4 l0_4.length l0_4) (hc0_4 : l0_4.length ≤ c0_4) (h : laws_toEther.f k a0_0 a0_1 a0_2 a0_3 l0_4 = some (r1, r2, r3, r4, r5)) :
  Calls Tryz.prog 24 #[.agg #[.int .i64 a0_0, .int .i64 a0_1, .int .i64 a0_2, .int .i64 a0_3, .slice A0_4 l0_4.length c0_4]] w fun e w' => ∃ v4_ : Value, e = .returned (.agg #[.int .i64 r1, .int .i64 r2, .int .i64 r3, .int .i64 r4, v4_]) ∧ Kd.R (Kd.int .u8) 5 w' w.heap.size (fun _ => True) v4_ r5 ∧ Below w.heap.size w w' := by
 have hu24 := Tryz.underlying24
 have hu38 := Tryz.underlying38
 have O3_ : IsOne Tryz.prog 3 := ⟨⟨_, Tryz.underlying3, rfl⟩, by kernel_rfl⟩
 have O22_ : IsOne Tryz.prog 22 := ⟨⟨_, Tryz.underlying22, rfl⟩, by kernel_rfl⟩
 have R38_ : IsRow Tryz.prog 38 5 := ⟨⟨_, Tryz.underlying38, rfl⟩, by kernel_rfl⟩
 have HR0_4 := Aside0.mk hr0_4
 have HC0_4 := Aside0.mk hc0_4
 clear hr0_4 hc0_4
 have HF := Fr.start [24, 38] w
 unfold laws_toEther.f at h
 obtain ⟨_, A0_, h⟩ := Option.bind_eq_some_iff.mp h
 replace A0_ := Aside0.mk A0_
 simp only [Option.some.injEq, Prod.mk.injEq] at h
 obtain ⟨rfl, rfl, rfl, rfl, rfl⟩ := h
 go_enter Tryz.func24, Tryz.ntmps24
 go_wp2_with (first
  | ((with_reducible refine gate_list ?_); first
  | ((with_reducible apply Fr.box HF rfl rfl rfl); (go_simp; rfl); decide; clear HF; intro g_ w_ HF)
  | ((with_reducible apply Fr.alloc HF rfl rfl rfl); (go_simp; rfl); decide; clear HF; intro g_ w_ HF)
  | ((with_reducible apply Fr.loadOne HF rfl rfl rfl); assumption; rfl; (repeat (first | exact At.head | apply At.tail)); rfl)
  | ((with_reducible apply Fr.loadRow HF rfl rfl rfl); assumption; rfl; (repeat (first | exact At.head | apply At.tail)); (simp only [List.drop_succ_cons, List.drop_zero, List.take_succ_cons, List.take_zero]; rfl); rfl)
  | ((with_reducible apply Fr.storeOne HF rfl rfl rfl); assumption; rfl; (go_simp; rfl); rfl; rfl; (repeat (first | apply At.head | apply At.tail)); (simp only [List.set_cons_succ, List.set_cons_zero]; rfl); simp; clear HF; intro w_ HF)
  | ((with_reducible apply Fr.storeRow HF rfl rfl rfl); assumption; rfl; (go_simp; rfl); rfl; rfl; (repeat (first | apply At.head | apply At.tail)); (simp only [List.drop_succ_cons, List.drop_zero, List.drop_nil, List.take_succ_cons, List.take_zero, List.cons_append, List.nil_append, List.append_nil]; rfl); simp; clear HF; intro w_ HF))
  | (go_at_call 28; (with_reducible refine (laws_toByteS.calls k A0_4 c0_4 l0_4 _ _ (Kd.C_below HR0_4.out HF.below) HC0_4.out A0_.out).mono ?_); rintro e W1_ ⟨v_, rfl, ho1_, hb_⟩; obtain ⟨Av1, cv1, rfl⟩ := Kd.R_slice ho1_; have HO1 := HF.row ho1_; replace HF := (HF.call hb_).mark; clear hb_ ho1_))
 refine bodyPost_ret (results_cell_row rfl _ _ _ 38 _ (0, 0) _ rfl (HF.get (by repeat (first | exact At.head | apply At.tail))) Tryz.underlying38 rfl (by kernel_rfl)) rfl ?_
 replace HO1 := HF.row_now HO1.out (by simp) (by decide)
 exact ⟨_, rfl, Kd.R_mono HO1 (fun _ _ => trivial), HF.below⟩

/-! ### laws_toAddr: function 43 -/
def laws_toAddr.f (a0_0 a0_1 : Int) (a0_2 a0_3 a0_4 : Int) : Option (Int × Int × Int × Int × Int) := some (a0_0, a0_1, a0_2, a0_3, a0_4)
theorem laws_toAddr.calls (a0_0 a0_1 : Int) (a0_2 a0_3 : Int) (a0_4 r1 : Int) (r2 r3 : Int) (r4 r5 : Int) (w : World) (h : laws_toAddr.f a0_0 a0_1 a0_2 a0_3 a0_4 = some (r1, r2, r3, r4, r5)) :
  Calls Tryz.prog 43 #[.agg #[.int .i64 a0_0, .int .i64 a0_1, .int .i64 a0_2, .int .i64 a0_3, .int .i64 a0_4]] w fun e w' => e = .returned (.agg #[.int .i64 r1, .int .i64 r2, .int .i64 r3, .int .i64 r4, .int .i64 r5]) ∧ Below w.heap.size w w' := by
 have hu26 := Tryz.underlying26
 have hu39 := Tryz.underlying39
 have HB := Aside0.mk (Below.refl w.heap.size w)
 have H : (some (a0_0, a0_1, a0_2, a0_3, a0_4)) = some (r1, r2, r3, r4, r5) := h
 clear h
 simp only [Option.some.injEq, Prod.mk.injEq] at H
 obtain ⟨rfl, rfl, rfl, rfl, rfl⟩ := H
 go_enter Tryz.func43, Tryz.ntmps43
 go_wp2_with (first | ((with_reducible refine gate_dst (N := 1) rfl ?_); refine box_event ?hg (N := 1) ?hd (cs := #[.int .i64 a0_0, .int .i64 a0_1, .int .i64 a0_2, .int .i64 a0_3, .int .i64 a0_4]) (t := 26) ?hr ?_; (case hd => rfl); (case hg => rfl); (case hr => first | (go_simp; done) | (go_simp; rfl)); intro gb598 hg w2 hbox hb; have n0_ := Aside0.mk (below_step (by repeat (first | (with_reducible first | exact HB.out | apply below_alloc | apply pw_below_drewN | apply below_drew1) | exact HB.out)) hb); have n1_ := Aside0.mk (hbox); have n2_ := Aside0.mk ((by rw [hg]; exact (below_size (by repeat (first | (with_reducible first | exact HB.out | apply below_alloc | apply pw_below_drewN | apply below_drew1) | exact HB.out))) : w.heap.size ≤ gb598)); have n3_ := Aside0.mk ((by rw [hg]; exact (below_size (by repeat (first | (with_reducible first | exact HB.out | apply below_alloc | apply pw_below_drewN | apply below_drew1) | exact HB.out))) : w.heap.size ≤ gb598)); clear HB; have HB := n0_; have BK598 := n1_; have GW598 := n2_; have GE598 := n3_; clear n0_ n1_ n2_ n3_; clear hb hbox hg) | ((with_reducible refine gate_dst (N := 2) rfl ?_); refine box_event ?hg (N := 2) ?hd (cs := #[.int .i64 0, .int .i64 0, .int .i64 0, .int .i64 0, .int .i64 0]) (t := 39) ?hr ?_; (case hd => rfl); (case hg => rfl); (case hr => first | (go_simp; done) | (go_simp; rfl)); intro gb599 hg w3 hbox hb; have n0_ := Aside0.mk (blk_below (g := gb598) (o := .cells #[.int .i64 a0_0, .int .i64 a0_1, .int .i64 a0_2, .int .i64 a0_3, .int .i64 a0_4] 26 (0, 0)) (by (with_reducible repeat (first | refine blk_drewN ?_ _ | refine blk_drew ?_ | refine blk_alloc ?_ _)); exact BK598.out) hb); have n1_ := Aside0.mk (below_step (by repeat (first | (with_reducible first | exact HB.out | apply below_alloc | apply pw_below_drewN | apply below_drew1 | refine below_set ?_ GE598.out) | exact HB.out)) hb); have n2_ := Aside0.mk (hbox); have n3_ := Aside0.mk ((by rw [hg]; exact (below_size (by repeat (first | (with_reducible first | exact HB.out | apply below_alloc | apply pw_below_drewN | apply below_drew1 | refine below_set ?_ GE598.out) | exact HB.out))) : w.heap.size ≤ gb599)); have n4_ := Aside0.mk ((by rw [hg]; exact (below_size (by repeat (first | (with_reducible first | exact HB.out | apply below_alloc | apply pw_below_drewN | apply below_drew1 | refine below_set ?_ GE598.out) | exact HB.out))) : w.heap.size ≤ gb599)); have n5_ := Aside0.mk ((by rw [hg]; exact Nat.ne_of_lt (blk_lt (g := gb598) (o := .cells #[.int .i64 a0_0, .int .i64 a0_1, .int .i64 a0_2, .int .i64 a0_3, .int .i64 a0_4] 26 (0, 0)) (by (with_reducible repeat (first | refine blk_drewN ?_ _ | refine blk_drew ?_ | refine blk_alloc ?_ _)); exact BK598.out)) : gb598 ≠ gb599)); have n6_ := Aside0.mk ((by rw [hg]; exact Nat.ne_of_gt (blk_lt (g := gb598) (o := .cells #[.int .i64 a0_0, .int .i64 a0_1, .int .i64 a0_2, .int .i64 a0_3, .int .i64 a0_4] 26 (0, 0)) (by (with_reducible repeat (first | refine blk_drewN ?_ _ | refine blk_drew ?_ | refine blk_alloc ?_ _)); exact BK598.out)) : gb599 ≠ gb598)); clear BK598; clear HB; have BK598 := n0_; have HB := n1_; have BK599 := n2_; have GW599 := n3_; have GE599 := n4_; have NB598_599 := n5_; have NB599_598 := n6_; clear n0_ n1_ n2_ n3_ n4_ n5_ n6_; clear hb hbox hg) | ((with_reducible refine gate_dst (N := 3) rfl ?_); refine box_event ?hg (N := 3) ?hd (cs := #[.int .i64 0, .int .i64 0, .int .i64 0, .int .i64 0, .int .i64 0]) (t := 39) ?hr ?_; (case hd => rfl); (case hg => rfl); (case hr => first | (go_simp; done) | (go_simp; rfl)); intro gb600 hg w4 hbox hb; have n0_ := Aside0.mk (blk_below (g := gb598) (o := .cells #[.int .i64 a0_0, .int .i64 a0_1, .int .i64 a0_2, .int .i64 a0_3, .int .i64 a0_4] 26 (0, 0)) (by (with_reducible repeat (first | refine blk_drewN ?_ _ | refine blk_drew ?_ | refine blk_alloc ?_ _)); exact BK598.out) hb); have n1_ := Aside0.mk (blk_below (g := gb599) (o := .cells #[.int .i64 0, .int .i64 0, .int .i64 0, .int .i64 0, .int .i64 0] 39 (0, 0)) (by (with_reducible repeat (first | refine blk_drewN ?_ _ | refine blk_drew ?_ | refine blk_alloc ?_ _)); exact BK599.out) hb); have n2_ := Aside0.mk (below_step (by repeat (first | (with_reducible first | exact HB.out | apply below_alloc | apply pw_below_drewN | apply below_drew1 | refine below_set ?_ GE598.out | refine below_set ?_ GE599.out) | exact HB.out)) hb); have n3_ := Aside0.mk (hbox); have n4_ := Aside0.mk ((by rw [hg]; exact (below_size (by repeat (first | (with_reducible first | exact HB.out | apply below_alloc | apply pw_below_drewN | apply below_drew1 | refine below_set ?_ GE598.out | refine below_set ?_ GE599.out) | exact HB.out))) : w.heap.size ≤ gb600)); have n5_ := Aside0.mk ((by rw [hg]; exact (below_size (by repeat (first | (with_reducible first | exact HB.out | apply below_alloc | apply pw_below_drewN | apply below_drew1 | refine below_set ?_ GE598.out | refine below_set ?_ GE599.out) | exact HB.out))) : w.heap.size ≤ gb600)); have n6_ := Aside0.mk ((by rw [hg]; exact Nat.ne_of_lt (blk_lt (g := gb598) (o := .cells #[.int .i64 a0_0, .int .i64 a0_1, .int .i64 a0_2, .int .i64 a0_3, .int .i64 a0_4] 26 (0, 0)) (by (with_reducible repeat (first | refine blk_drewN ?_ _ | refine blk_drew ?_ | refine blk_alloc ?_ _)); exact BK598.out)) : gb598 ≠ gb600)); have n7_ := Aside0.mk ((by rw [hg]; exact Nat.ne_of_gt (blk_lt (g := gb598) (o := .cells #[.int .i64 a0_0, .int .i64 a0_1, .int .i64 a0_2, .int .i64 a0_3, .int .i64 a0_4] 26 (0, 0)) (by (with_reducible repeat (first | refine blk_drewN ?_ _ | refine blk_drew ?_ | refine blk_alloc ?_ _)); exact BK598.out)) : gb600 ≠ gb598)); have n8_ := Aside0.mk ((by rw [hg]; exact Nat.ne_of_lt (blk_lt (g := gb599) (o := .cells #[.int .i64 0, .int .i64 0, .int .i64 0, .int .i64 0, .int .i64 0] 39 (0, 0)) (by (with_reducible repeat (first | refine blk_drewN ?_ _ | refine blk_drew ?_ | refine blk_alloc ?_ _)); exact BK599.out)) : gb599 ≠ gb600)); have n9_ := Aside0.mk ((by rw [hg]; exact Nat.ne_of_gt (blk_lt (g := gb599) (o := .cells #[.int .i64 0, .int .i64 0, .int .i64 0, .int .i64 0, .int .i64 0] 39 (0, 0)) (by (with_reducible repeat (first | refine blk_drewN ?_ _ | refine blk_drew ?_ | refine blk_alloc ?_ _)); exact BK599.out)) : gb600 ≠ gb599)); clear BK598; clear BK599; clear HB; have BK598 := n0_; have BK599 := n1_; have HB := n2_; have BK600 := n3_; have GW600 := n4_; have GE600 := n5_; have NB598_600 := n6_; have NB600_598 := n7_; have NB599_600 := n8_; have NB600_599 := n9_; clear n0_ n1_ n2_ n3_ n4_ n5_ n6_ n7_ n8_ n9_; clear hb hbox hg; have hnb5 := NB598_599.out; have hnc5 := NB599_598.out; have hnb6 := NB598_600.out; have hnc6 := NB600_598.out; have hcz7_0 : w4.cell? ⟨gb598, 0, none⟩ = some (.int .i64 a0_0) := (blk_cell BK598.out 0).trans rfl; have hcz7_1 : w4.cell? ⟨gb598, 1, none⟩ = some (.int .i64 a0_1) := (blk_cell BK598.out 1).trans rfl; have hcz7_2 : w4.cell? ⟨gb598, 2, none⟩ = some (.int .i64 a0_2) := (blk_cell BK598.out 2).trans rfl; have hcz7_3 : w4.cell? ⟨gb598, 3, none⟩ = some (.int .i64 a0_3) := (blk_cell BK598.out 3).trans rfl; have hcz7_4 : w4.cell? ⟨gb598, 4, none⟩ = some (.int .i64 a0_4) := (blk_cell BK598.out 4).trans rfl; have hfz7_0 := blk_frozen BK598.out 0; have hfz7_1 := blk_frozen BK598.out 1; have hfz7_2 := blk_frozen BK598.out 2; have hfz7_3 := blk_frozen BK598.out 3; have hfz7_4 := blk_frozen BK598.out 4; have hnb8 := NB600_599.out; have hnc8 := NB599_600.out; have hcz9_0 : w4.cell? ⟨gb600, 0, none⟩ = some (.int .i64 0) := (blk_cell BK600.out 0).trans rfl; have hcz9_1 : w4.cell? ⟨gb600, 1, none⟩ = some (.int .i64 0) := (blk_cell BK600.out 1).trans rfl; have hcz9_2 : w4.cell? ⟨gb600, 2, none⟩ = some (.int .i64 0) := (blk_cell BK600.out 2).trans rfl; have hcz9_3 : w4.cell? ⟨gb600, 3, none⟩ = some (.int .i64 0) := (blk_cell BK600.out 3).trans rfl; have hcz9_4 : w4.cell? ⟨gb600, 4, none⟩ = some (.int .i64 0) := (blk_cell BK600.out 4).trans rfl; have hfz9_0 := blk_frozen BK600.out 0; have hfz9_1 := blk_frozen BK600.out 1; have hfz9_2 := blk_frozen BK600.out 2; have hfz9_3 := blk_frozen BK600.out 3; have hfz9_4 := blk_frozen BK600.out 4; have hcz10_0 : w4.cell? ⟨gb599, 0, none⟩ = some (.int .i64 0) := (blk_cell BK599.out 0).trans rfl; have hcz10_1 : w4.cell? ⟨gb599, 1, none⟩ = some (.int .i64 0) := (blk_cell BK599.out 1).trans rfl; have hcz10_2 : w4.cell? ⟨gb599, 2, none⟩ = some (.int .i64 0) := (blk_cell BK599.out 2).trans rfl; have hcz10_3 : w4.cell? ⟨gb599, 3, none⟩ = some (.int .i64 0) := (blk_cell BK599.out 3).trans rfl; have hcz10_4 : w4.cell? ⟨gb599, 4, none⟩ = some (.int .i64 0) := (blk_cell BK599.out 4).trans rfl; have hfz10_0 := blk_frozen BK599.out 0; have hfz10_1 := blk_frozen BK599.out 1; have hfz10_2 := blk_frozen BK599.out 2; have hfz10_3 := blk_frozen BK599.out 3; have hfz10_4 := blk_frozen BK599.out 4))
 refine bodyPost_ret (results_cell_row rfl _ _ gb599 39 #[.int .i64 a0_0, .int .i64 a0_1, .int .i64 a0_2, .int .i64 a0_3, .int .i64 a0_4] (0, 0) _ rfl (by (with_reducible repeat (first | refine blk_drewN ?_ _ | refine blk_drew ?_ | refine blk_alloc ?_ _)); refine blk_put (cs := #[.int .i64 a0_0, .int .i64 a0_1, .int .i64 a0_2, .int .i64 a0_3, .int .i64 0]) ?_ 4 _ rfl; (with_reducible repeat (first | refine blk_drewN ?_ _ | refine blk_drew ?_ | refine blk_alloc ?_ _)); refine blk_put (cs := #[.int .i64 a0_0, .int .i64 a0_1, .int .i64 a0_2, .int .i64 0, .int .i64 0]) ?_ 3 _ rfl; (with_reducible repeat (first | refine blk_drewN ?_ _ | refine blk_drew ?_ | refine blk_alloc ?_ _)); refine blk_put (cs := #[.int .i64 a0_0, .int .i64 a0_1, .int .i64 0, .int .i64 0, .int .i64 0]) ?_ 2 _ rfl; (with_reducible repeat (first | refine blk_drewN ?_ _ | refine blk_drew ?_ | refine blk_alloc ?_ _)); refine blk_put (cs := #[.int .i64 a0_0, .int .i64 0, .int .i64 0, .int .i64 0, .int .i64 0]) ?_ 1 _ rfl; (with_reducible repeat (first | refine blk_drewN ?_ _ | refine blk_drew ?_ | refine blk_alloc ?_ _)); refine blk_put (cs := #[.int .i64 0, .int .i64 0, .int .i64 0, .int .i64 0, .int .i64 0]) ?_ 0 _ rfl; (with_reducible repeat (first | refine blk_drewN ?_ _ | refine blk_drew ?_ | refine blk_alloc ?_ _)); refine blk_far ?_ NB599_600.out _; (with_reducible repeat (first | refine blk_drewN ?_ _ | refine blk_drew ?_ | refine blk_alloc ?_ _)); refine blk_far ?_ NB599_600.out _; (with_reducible repeat (first | refine blk_drewN ?_ _ | refine blk_drew ?_ | refine blk_alloc ?_ _)); refine blk_far ?_ NB599_600.out _; (with_reducible repeat (first | refine blk_drewN ?_ _ | refine blk_drew ?_ | refine blk_alloc ?_ _)); refine blk_far ?_ NB599_600.out _; (with_reducible repeat (first | refine blk_drewN ?_ _ | refine blk_drew ?_ | refine blk_alloc ?_ _)); refine blk_far ?_ NB599_600.out _; (with_reducible repeat (first | refine blk_drewN ?_ _ | refine blk_drew ?_ | refine blk_alloc ?_ _)); exact BK599.out) Tryz.underlying39 rfl (by kernel_rfl)) rfl ?_
 exact ⟨by first | rfl | (simp [errW_none, errW_some] <;> rfl) | (simp [*, errW_none, errW_some] <;> rfl), by repeat (first | (with_reducible first | exact HB.out | apply below_alloc | apply pw_below_drewN | apply below_drew1 | refine below_set ?_ GE598.out | refine below_set ?_ GE599.out | refine below_set ?_ GE600.out) | exact HB.out)⟩

end Go.Proofs.YtffkgndghbdgnaaGreat.FFnExactPacketSize
