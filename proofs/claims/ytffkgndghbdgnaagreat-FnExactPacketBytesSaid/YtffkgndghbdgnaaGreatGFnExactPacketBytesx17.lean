-- Contracts of functions, no condition.
import Derived.Test.YtffkgndghbdgnaaGreatGFnExactPacketBytesx16
namespace Go.Proofs.YtffkgndghbdgnaaGreat.FFnExactPacketBytes
open Go.RowKit Go.Proofs.YtffkgndghbdgnaaGreatW.PrintWords Go.Proofs.YtffkgndghbdgnaaGreatW.PrintLast Go.Proofs.YtffkgndghbdgnaaGreatW.PrintMore Go.Proofs.YtffkgndghbdgnaaGreat.Frame
attribute [local go_sem] max2_int min2_int max_two min_two max_three min_three max_four min_four
set_option linter.unusedVariables false
set_option maxHeartbeats 8000000
set_option maxRecDepth 100000
set_option linter.unusedSimpArgs false

/-! ### spec_SixOk: function 63 -/
def spec_SixOk.l0 : Nat → Int → Int → Int → Int → Int → Int → Int → Int → Int → Int → Int → Int → Int → Int → Int → Int → List (S102) → List Int → Option (Bool)
 | 0, _, _, _, _, _, _, _, _, _, _, _, _, _, _, _, _, _, _ => none
 | k + 1, x3, x4, x632000, x632001, x632002, x632003, x632004, x632005, x632006, x632007, x632008, x632009, x632010, x632011, x632012, x632013, x632014, x632015 => if x4 < (x632014.length : Int) then (if 0 ≤ x4 then ((spec_l06Inner.f ((rd_T102 x632014 x4).f0)).bind fun t641 => (if t641 = true then (if ((rd_T102 x632014 x4).f0) = 0 then (if x4 > 0 then (some false) else (if (((rd_T102 x632014 x4).f1).length : Int) > 62 then (some false) else (if ((((rd_T102 x632014 x4).f1).length : Int) % 8) = 6 then (spec_SixOk.l0 k (wrap64 ((wrap64 (x3 - (((rd_T102 x632014 x4).f1).length : Int))) - 2)) (wrap64 (x4 + 1)) x632000 x632001 x632002 x632003 x632004 x632005 x632006 x632007 x632008 x632009 x632010 x632011 x632012 x632013 x632014 x632015) else (some false)))) else (if (((rd_T102 x632014 x4).f1).length : Int) > 62 then (some false) else (if ((((rd_T102 x632014 x4).f1).length : Int) % 8) = 6 then (spec_SixOk.l0 k (wrap64 ((wrap64 (x3 - (((rd_T102 x632014 x4).f1).length : Int))) - 2)) (wrap64 (x4 + 1)) x632000 x632001 x632002 x632003 x632004 x632005 x632006 x632007 x632008 x632009 x632010 x632011 x632012 x632013 x632014 x632015) else (some false)))) else (some false))) else (none)) else (some (decide ((x632015.length : Int) ≤ x3)))
def spec_SixOk.f (k : Nat) (a0_0 a0_1 a0_2 a0_3 a0_4 a0_5 a0_6 a0_7 a0_8 a0_9 a0_10 a0_11 a0_12 a0_13 : Int) (l0_14 : List (S102)) (l0_15 : List Int) : Option (Bool) := (spec_l05In.f a0_0 255).bind fun t632 => (if t632 = true then ((spec_l05In.f a0_1 1048575).bind fun t633 => (if t633 = true then ((spec_l05In.f a0_2 255).bind fun t634 => (if t634 = true then ((spec_l05In.f a0_3 255).bind fun t635 => (if t635 = true then ((spec_l06Inner.f a0_3).bind fun t636 => (if t636 = true then (some false) else (if a0_4 = 6 then (if a0_9 = 6 then ((spec_AddrOk.f a0_4 a0_5 a0_6 a0_7 a0_8).bind fun t637 => (if t637 = true then ((spec_AddrOk.f a0_9 a0_10 a0_11 a0_12 a0_13).bind fun t638 => (if t638 = true then (if (l0_14.length : Int) > 3 then (some false) else (spec_SixOk.l0 k 1460 0 a0_0 a0_1 a0_2 a0_3 a0_4 a0_5 a0_6 a0_7 a0_8 a0_9 a0_10 a0_11 a0_12 a0_13 l0_14 l0_15)) else (some false))) else (some false))) else (some false)) else (some false)))) else (some false))) else (some false))) else (some false))) else (some false))
theorem spec_SixOk.calls (k : Nat) (a0_0 a0_1 a0_2 a0_3 a0_4 a0_5 a0_6 a0_7 a0_8 a0_9 a0_10 a0_11 a0_12 a0_13 : Int) (A0_14 : Option Addr) (c0_14 : Nat) (l0_14 : List (S102)) (A0_15 : Option Addr) (c0_15 : Nat) (l0_15 : List Int) (r : Bool) (w : World) (hr0_14 : Kd.C k102 w A0_14 l0_14.length l0_14) (hc0_14 : l0_14.length ≤ c0_14) (hr0_15 : Kd.C (Kd.int .u8) w A0_15 l0_15.length l0_15) (hc0_15 : l0_15.length ≤ c0_15) (h : spec_SixOk.f k a0_0 a0_1 a0_2 a0_3 a0_4 a0_5 a0_6 a0_7 a0_8 a0_9 a0_10 a0_11 a0_12 a0_13 l0_14 l0_15 = some r) :
  Calls Tryz.prog 63 #[.agg #[.int .i64 a0_0, .int .i64 a0_1, .int .i64 a0_2, .int .i64 a0_3, .int .i64 a0_4, .int .i64 a0_5, .int .i64 a0_6, .int .i64 a0_7, .int .i64 a0_8, .int .i64 a0_9, .int .i64 a0_10, .int .i64 a0_11, .int .i64 a0_12, .int .i64 a0_13, .slice A0_14 l0_14.length c0_14, .slice A0_15 l0_15.length c0_15]] w fun e w' => e = .returned (.bool r) ∧ Below w.heap.size w w' := by
 have hu22 := Tryz.underlying22
 have hu39 := Tryz.underlying39
 have hu42 := Tryz.underlying42
 have hu44 := Tryz.underlying44
 have hu102 := Tryz.underlying102
 have z102_ : (Tryz.prog.info? 102).map (·.size) = some 2 := by kernel_rfl
 have O3_ : IsOne Tryz.prog 3 := ⟨⟨_, Tryz.underlying3, rfl⟩, by kernel_rfl⟩
 have O22_ : IsOne Tryz.prog 22 := ⟨⟨_, Tryz.underlying22, rfl⟩, by kernel_rfl⟩
 have HR0_14 := Aside0.mk hr0_14
 have HC0_14 := Aside0.mk hc0_14
 have HR0_15 := Aside0.mk hr0_15
 have HC0_15 := Aside0.mk hc0_15
 clear hr0_14 hc0_14 hr0_15 hc0_15
 have HF := Fr.start [44] w
 have HP := Aside0.mk True.intro
 unfold spec_SixOk.f at h
 have HH := Aside0.mk h
 clear h
 go_enter Tryz.func63, Tryz.ntmps63
 all_goals (repeat' (first
    | ((with_reducible refine gA 0 ?_) <;> (refine HF.bA ?_; clear HF; intro g_ w_ HF; refine nA ?_) <;> (refine sA ?_) <;> (apply lend))
    | ((with_reducible refine gA 1 ?_) <;> (iterate 2 refine sA ?_) <;> ((replace HH := bA HH); obtain ⟨_, A8_, HH⟩ := HH) <;> (repeat' (with_reducible first | (replace HH := iA HP HH; clear HP; rcases HH with ⟨p, HP, HH⟩ | ⟨p, HP, HH⟩ <;> subst p) | fail)) <;> (refine HF.dB Tryz.func95 (by (with_reducible apply spec_l05In.calls (h := A8_.out))) ?_; clear HF A8_; intro w_ HF) <;> (iterate 4 refine sA ?_) <;> (first | (((replace HH := bA HH); obtain ⟨_, A13_, HH⟩ := HH) <;> (repeat' (with_reducible first | (replace HH := iA HP HH; clear HP; rcases HH with ⟨p, HP, HH⟩ | ⟨p, HP, HH⟩ <;> subst p) | fail)) <;> (refine HF.dB Tryz.func95 (by (with_reducible apply spec_l05In.calls (h := A13_.out))) ?_; clear HF A13_; intro w_ HF)) | (refine oA ?_)) <;> (iterate 5 refine sA ?_) <;> (first | (((replace HH := bA HH); obtain ⟨_, A19_, HH⟩ := HH) <;> (repeat' (with_reducible first | (replace HH := iA HP HH; clear HP; rcases HH with ⟨p, HP, HH⟩ | ⟨p, HP, HH⟩ <;> subst p) | fail)) <;> (refine HF.dB Tryz.func95 (by (with_reducible apply spec_l05In.calls (h := A19_.out))) ?_; clear HF A19_; intro w_ HF)) | (refine oA ?_)) <;> (iterate 5 refine sA ?_) <;> (first | (((replace HH := bA HH); obtain ⟨_, A25_, HH⟩ := HH) <;> (repeat' (with_reducible first | (replace HH := iA HP HH; clear HP; rcases HH with ⟨p, HP, HH⟩ | ⟨p, HP, HH⟩ <;> subst p) | fail)) <;> (refine HF.dB Tryz.func95 (by (with_reducible apply spec_l05In.calls (h := A25_.out))) ?_; clear HF A25_; intro w_ HF)) | (refine oA ?_)) <;> (iterate 5 refine sA ?_) <;> (first | (((replace HH := bA HH); obtain ⟨_, A31_, HH⟩ := HH) <;> (repeat' (with_reducible first | (replace HH := iA HP HH; clear HP; rcases HH with ⟨p, HP, HH⟩ | ⟨p, HP, HH⟩ <;> first | subst p | cases p) | fail)) <;> (refine HF.dB Tryz.func99 (by (with_reducible apply spec_l06Inner.calls (h := A31_.out))) ?_; clear HF A31_; intro w_ HF)) | (refine oA ?_)) <;> (refine sA ?_) <;> (apply lend))
    | ((with_reducible refine gA 2 ?_) <;> (refine sA ?_) <;> (apply lend))
    | ((with_reducible refine gA 3 ?_) <;> (iterate 13 refine sA ?_) <;> (first | (((replace HH := bA HH); obtain ⟨_, A46_, HH⟩ := HH) <;> (repeat' (with_reducible first | (replace HH := iA HP HH; clear HP; rcases HH with ⟨p, HP, HH⟩ | ⟨p, HP, HH⟩ <;> subst p) | fail)) <;> (refine HF.cB Tryz.func96 (by (with_reducible apply spec_AddrOk.calls (h := A46_.out))) ?_; clear HF A46_; intro w_ HF)) | (refine oA ?_)) <;> (iterate 5 refine sA ?_) <;> (first | (((replace HH := bA HH); obtain ⟨_, A52_, HH⟩ := HH) <;> (repeat' (with_reducible first | (replace HH := iA HP HH; clear HP; rcases HH with ⟨p, HP, HH⟩ | ⟨p, HP, HH⟩ <;> first | subst p | skip) | fail)) <;> (refine HF.cB Tryz.func96 (by (with_reducible apply spec_AddrOk.calls (h := A52_.out))) ?_; clear HF A52_; intro w_ HF)) | (refine oA ?_)) <;> (iterate 8 refine sA ?_) <;> (apply lend))
    | ((with_reducible refine gA 4 ?_) <;> (refine sA ?_) <;> (apply lend))
    | ((with_reducible refine gA 5 ?_) <;> (refine sA ?_) <;> (apply lend))
    | ((with_reducible refine gA 6 ?_) <;> (refine sA ?_) <;> (apply lend))
    | go_step | fail))
 all_goals (first
  | (have h_ := HH.out; clear HH; cases h_ <;> (go_ret; first
   | exact ⟨vE, HF.below⟩))
  | (obtain ⟨LV_, HF, EL_⟩ := Fr_name HF; go_loopg [3, 4] k (fun kq_ v3_ v4_ w_ => ∃ (x3_ : Int) (x4_ : Int), v3_ = .int .i64 x3_ ∧ v4_ = .int .i64 x4_ ∧ Aside0 (spec_SixOk.l0 kq_ x3_ x4_ a0_0 a0_1 a0_2 a0_3 a0_4 a0_5 a0_6 a0_7 a0_8 a0_9 a0_10 a0_11 a0_12 a0_13 l0_14 l0_15 = some r) ∧ Aside0 (kq_ ≤ k) ∧ Fr [44] w w_ LV_ [w_]) <;> first
   | (exact ⟨_, _, rfl, rfl, HH, ⟨Nat.le_refl _⟩, Fr_now HF⟩)
   | ((clear HH); (clear HF); obtain ⟨x3_, x4_, rfl, rfl, HH, HK_, HF⟩ := hrel; (rcases gk with _ | gk_); exact absurd HH.out (by simp [spec_SixOk.l0]); (rw [EL_.out] at HF); have h_ := HH.out; clear HH; simp only [spec_SixOk.l0] at h_; have HH := Aside0.mk h_; clear h_)))
 all_goals (repeat' (with_reducible first | exact xE HH | (replace HH := iA HP HH; clear HP; rcases HH with ⟨p, HP, HH⟩ | ⟨p, HP, HH⟩) | fail))
 all_goals (repeat' (first
    | ((with_reducible refine gA 7 ?_) <;> (iterate 5 refine sA ?_) <;> (apply lend))
    | ((with_reducible refine gA 9 ?_) <;> (iterate 3 refine sA ?_) <;> (obtain ⟨ad71_, Ax71_, cx71_, ea_, x71_0_, x71_1_, lx_, hx_⟩ := at_T102 HR0_14.out x4_ bN bN; have X71_0 := Aside0.mk x71_0_; have X71_1 := Aside0.mk x71_1_; have LX71 := Aside0.mk lx_; have CX71 := Aside0.mk hx_; have EA71 := Aside0.mk ea_; clear lx_ hx_ ea_ x71_0_ x71_1_; (apply lpure rfl rfl; (exact run_idxn rfl rfl rfl hu42 z102_ EA71.out bN bN); (simp only [Act.put, List.setIfInBounds_toArray, List.set_cons_zero, List.set_cons_succ, i64_w, i32_w, u8_wr, tmod_nat, Int.reduceToNat]; rfl))) <;> (refine sA ?_) <;> (apply lelt rfl rfl; exact run_cell rfl rfl O22_ X71_1.out HF.below; (simp only [Act.put, List.setIfInBounds_toArray, List.set_cons_zero, List.set_cons_succ, i64_w, i32_w, u8_wr, tmod_nat, Int.reduceToNat]; rfl)) <;> (iterate 2 refine sA ?_) <;> (apply lend))
    | ((with_reducible refine gA 10 ?_) <;> (iterate 3 refine sA ?_) <;> (obtain ⟨ad78_, Ax78_, cx78_, ea_, x78_0_, x78_1_, lx_, hx_⟩ := at_T102 HR0_14.out x4_ bN bN; have X78_0 := Aside0.mk x78_0_; have X78_1 := Aside0.mk x78_1_; have LX78 := Aside0.mk lx_; have CX78 := Aside0.mk hx_; have EA78 := Aside0.mk ea_; clear lx_ hx_ ea_ x78_0_ x78_1_; (apply lpure rfl rfl; (exact run_idxn rfl rfl rfl hu42 z102_ EA78.out bN bN); (simp only [Act.put, List.setIfInBounds_toArray, List.set_cons_zero, List.set_cons_succ, i64_w, i32_w, u8_wr, tmod_nat, Int.reduceToNat]; rfl))) <;> (refine sA ?_) <;> (apply lelt rfl rfl; exact run_cell rfl rfl O3_ X78_0.out HF.below; (simp only [Act.put, List.setIfInBounds_toArray, List.set_cons_zero, List.set_cons_succ, i64_w, i32_w, u8_wr, tmod_nat, Int.reduceToNat]; rfl)) <;> ((replace HH := bA HH); obtain ⟨_, A81_, HH⟩ := HH) <;> (repeat' (with_reducible first | (replace HH := iA HP HH; clear HP; rcases HH with ⟨p, HP, HH⟩ | ⟨p, HP, HH⟩ <;> first | subst p | cases p | skip) | fail)) <;> (refine HF.dB Tryz.func99 (by (with_reducible apply spec_l06Inner.calls (h := A81_.out))) ?_; clear HF A81_; intro w_ HF) <;> (iterate 5 refine sA ?_) <;> (first | ((obtain ⟨ad87_, Ax87_, cx87_, ea_, x87_0_, x87_1_, lx_, hx_⟩ := at_T102 HR0_14.out x4_ bN bN; have X87_0 := Aside0.mk x87_0_; have X87_1 := Aside0.mk x87_1_; have LX87 := Aside0.mk lx_; have CX87 := Aside0.mk hx_; have EA87 := Aside0.mk ea_; clear lx_ hx_ ea_ x87_0_ x87_1_; (apply lpure rfl rfl; (exact run_idxn rfl rfl rfl hu42 z102_ EA87.out bN bN); (simp only [Act.put, List.setIfInBounds_toArray, List.set_cons_zero, List.set_cons_succ, i64_w, i32_w, u8_wr, tmod_nat, Int.reduceToNat]; rfl)))) | (refine oA ?_)) <;> (refine sA ?_) <;> (first | ((apply lelt rfl rfl; exact run_cell rfl rfl O3_ X87_0.out HF.below; (simp only [Act.put, List.setIfInBounds_toArray, List.set_cons_zero, List.set_cons_succ, i64_w, i32_w, u8_wr, tmod_nat, Int.reduceToNat]; rfl))) | (refine oA ?_)) <;> (iterate 15 refine sA ?_) <;> (apply lend))
    | ((with_reducible refine gA 11 ?_) <;> (refine sA ?_) <;> (apply lend))
    | ((with_reducible refine gA 12 ?_) <;> (iterate 5 refine sA ?_) <;> (apply lend))
    | ((with_reducible refine gA 8 ?_) <;> (iterate 3 refine sA ?_) <;> (apply lend))
    | ((with_reducible refine gA 13 ?_) <;> (iterate 6 refine sA ?_) <;> (apply lend))
    | go_step | fail))
 all_goals (first
  | (have h_ := HH.out; clear HH; cases h_ <;> (go_ret; first
   | exact ⟨vE, HF.below⟩))
  | (go_roundg gk_; (case measure => have := HK_.out; omega); (case rel => exact ⟨_, _, rfl, rfl, HH, ⟨by have := HK_.out; omega⟩, Fr_now (HF.part (by rw [EL_.out]; repeat (first | exact List.Sublist.slnil | apply List.Sublist.cons_cons)) (fun _ h_ => h_))⟩)))

end Go.Proofs.YtffkgndghbdgnaaGreat.FFnExactPacketBytes
