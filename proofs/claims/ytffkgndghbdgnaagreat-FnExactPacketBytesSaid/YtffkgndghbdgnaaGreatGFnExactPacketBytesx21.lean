-- Contracts of functions, no condition.
import Derived.Test.YtffkgndghbdgnaaGreatGFnExactPacketBytesx20
namespace Go.Proofs.YtffkgndghbdgnaaGreat.FFnExactPacketBytes
open Go.RowKit Go.Proofs.YtffkgndghbdgnaaGreatW.PrintWords Go.Proofs.YtffkgndghbdgnaaGreatW.PrintLast Go.Proofs.YtffkgndghbdgnaaGreatW.PrintMore Go.Proofs.YtffkgndghbdgnaaGreat.Frame
attribute [local go_sem] max2_int min2_int max_two min_two max_three min_three max_four min_four
set_option linter.unusedVariables false
set_option maxHeartbeats 8000000
set_option maxRecDepth 100000
set_option linter.unusedSimpArgs false

/-! ### spec_EtherBytes: function 36 -/
def spec_EtherBytes.f (a0_0 a0_1 a0_2 a0_3 : Int) (l0_4 : List Int) : Option (List Int) := (spec_EtherOk.f a0_0 a0_1 a0_2 a0_3 l0_4).bind fun t705 => (if t705 = true then ((spec_l04Mac.f a0_0).bind fun t706 => ((spec_l04Mac.f a0_1).bind fun t709 => (if t706.length + t709.length < 140737488355328 then ((some (t706 ++ t709 : List Int)).bind fun y712 => (if a0_2 ≥ 0 then ((spec_Put16.f 33024).bind fun t715 => (if y712.length + t715.length < 140737488355328 then ((some (y712 ++ t715 : List Int)).bind fun y718 => ((spec_Put16.f a0_2).bind fun t721 => (if y718.length + t721.length < 140737488355328 then ((some (y718 ++ t721 : List Int)).bind fun y724 => ((spec_Put16.f a0_3).bind fun t727 => (if y724.length + t727.length < 140737488355328 then ((some (y724 ++ t727 : List Int)).bind fun y730 => (if y730.length + l0_4.length < 140737488355328 then (some (y730 ++ l0_4)) else (none))) else (none)))) else (none)))) else (none))) else ((spec_Put16.f a0_3).bind fun t736 => (if y712.length + t736.length < 140737488355328 then ((some (y712 ++ t736 : List Int)).bind fun y739 => (if y739.length + l0_4.length < 140737488355328 then (some (y739 ++ l0_4)) else (none))) else (none))))) else (none)))) else (some ([] : List Int)))
def spec_EtherBytes.T3 : Bool × List (List Nat × List Nat) := (true, [([], []), ([0], [0]), ([1], [1]), ([], []), ([3], [3]), ([4, 2], [4]), ([2, 5, 5], [2, 5]), ([6, 6, 0, 1, 2, 3, 4, 5, 6], [6])])
def spec_EtherBytes.B3 : List Nat := [0, 1, 3, 0, 8, 31, 63, 127]
theorem spec_EtherBytes.tab3 : rtab .any (opsOf Tryz.f36 3) = spec_EtherBytes.T3 := by kernel_rfl
theorem spec_EtherBytes.bits3 : waitsOk spec_EtherBytes.T3.2 spec_EtherBytes.B3 = true := by kernel_rfl
def spec_EtherBytes.T5 : Bool × List (List Nat × List Nat) := (true, [([], []), ([], []), ([0, 1, 1], [0, 1]), ([], []), ([3], [3]), ([4, 2], [4]), ([2, 5, 5], [2, 5]), ([6, 6, 0, 1, 2, 3, 4, 5, 6], [0, 6])])
def spec_EtherBytes.B5 : List Nat := [0, 0, 3, 0, 8, 31, 63, 127]
theorem spec_EtherBytes.tab5 : rtab .any (opsOf Tryz.f36 5) = spec_EtherBytes.T5 := by kernel_rfl
theorem spec_EtherBytes.bits5 : waitsOk spec_EtherBytes.T5.2 spec_EtherBytes.B5 = true := by kernel_rfl
def spec_EtherBytes.T6 : Bool × List (List Nat × List Nat) := (true, [([], []), ([], []), ([1], [1]), ([2], [2]), ([0, 3, 3], [0, 3]), ([], []), ([5], [5]), ([4, 6, 4], [4, 6]), ([7, 7, 0, 1, 2, 3, 4, 5, 6, 7], [7])])
def spec_EtherBytes.B6 : List Nat := [0, 0, 2, 6, 15, 0, 32, 127, 255]
theorem spec_EtherBytes.tab6 : rtab .any (opsOf Tryz.f36 6) = spec_EtherBytes.T6 := by kernel_rfl
theorem spec_EtherBytes.bits6 : waitsOk spec_EtherBytes.T6.2 spec_EtherBytes.B6 = true := by kernel_rfl
theorem spec_EtherBytes.calls (a0_0 a0_1 a0_2 a0_3 : Int) (A0_4 : Option Addr) (c0_4 : Nat) (l0_4 r : List Int) (w : World) (hr0_4 : Kd.C (Kd.int .u8) w A0_4 l0_4.length l0_4) (hc0_4 : l0_4.length ≤ c0_4) (h : spec_EtherBytes.f a0_0 a0_1 a0_2 a0_3 l0_4 = some r) :
  Calls Tryz.prog 36 #[.agg #[.int .i64 a0_0, .int .i64 a0_1, .int .i64 a0_2, .int .i64 a0_3, .slice A0_4 l0_4.length c0_4]] w fun e w' => ∃ v0_ : Value, e = .returned (v0_) ∧ Kd.R (Kd.int .u8) 5 w' w.heap.size (fun _ => True) v0_ r ∧ Below w.heap.size w w' := by
 have hu22 := Tryz.underlying22
 have hu38 := Tryz.underlying38
 have info5_ : (Tryz.prog.info? 5).map (fun i => (i.zero, i.size, i.bytes)) = some (some (.int .u8 0), 1, 1) := by kernel_rfl
 have HR0_4 := Aside0.mk hr0_4
 have HC0_4 := Aside0.mk hc0_4
 clear hr0_4 hc0_4
 have HF := Fr.start [38] w
 have HP := Aside0.mk True.intro
 unfold spec_EtherBytes.f at h
 have HH := Aside0.mk h
 clear h
 go_enter Tryz.func36, Tryz.ntmps36
 all_goals (repeat' (first
    | ((with_reducible refine gA 0 ?_) <;> (refine HF.bA ?_; clear HF; intro g_ w_ HF; refine nA ?_) <;> (refine sA ?_) <;> (apply lend))
    | ((with_reducible refine gA 1 ?_) <;> (refine sA ?_) <;> ((replace HH := bA HH); obtain ⟨_, A5_, HH⟩ := HH) <;> (repeat' (with_reducible first | (replace HH := iA HP HH; clear HP; rcases HH with ⟨p, HP, HH⟩ | ⟨p, HP, HH⟩ <;> subst p) | fail)) <;> (refine HF.cB Tryz.func65 (by (with_reducible apply spec_EtherOk.calls (h := A5_.out)) <;> exact gP) ?_; clear HF A5_; intro w_ HF) <;> (refine sA ?_) <;> (apply lend))
    | ((with_reducible refine gA 2 ?_) <;> (refine sA ?_) <;> (apply lend))
    | (((with_reducible refine gate_region (id := 3) ?_); have HG := HF; replace HF := HF.drop; refine HG.region2 HF (by kernel_rfl) rfl ?_; clear HF HG; intro w_ HF HG; refine with_tabW spec_EtherBytes.tab3 spec_EtherBytes.bits3 (fun HT_ HW_ => ?_)) <;> ((replace HH := bA HH); obtain ⟨_, A9_, HH⟩ := HH) <;> ((replace HH := bA HH); obtain ⟨_, A12_, HH⟩ := HH) <;> (repeat' (with_reducible first | exact xE HH | (replace HH := iA HP HH; clear HP; rcases HH with ⟨p, HP, HH⟩ | ⟨p, HP, HH⟩) | fail)) <;> (((with_reducible replace HH := bE HH); obtain ⟨_, E13_, HH⟩ := HH)) <;> (repeat' (with_reducible first | (replace HH := iA HP HH; clear HP; rcases HH with ⟨p, HP, HH⟩ | ⟨p, HP, HH⟩) | fail)) <;> (refine dA 0 ?_; refine dA 1 ?_; refine dA 3 ?_; refine dA 4 ?_) <;> (refine HF.rD HG 2 Tryz.func66 (by (with_reducible apply spec_l04Mac.calls (h := A9_.out))) ?_; clear HF HG A9_; intro Av9_0 cv9_0 w_ HO9_0 HB9 HG HF; refine mA ?_) <;> (have HS12 := HG.since; refine HF.rD HG 5 Tryz.func66 (by (with_reducible apply spec_l04Mac.calls (h := A12_.out))) ?_; clear HF HG A12_; intro Av12_0 cv12_0 w_ HO12_0 HB12 HG HF; refine mA ?_) <;> ((refine HG.aD 6 HO9_0 (HG.r1 HO12_0) E13_.out ?_; clear HF HG E13_; intro Av13_0 cv13_0 w_ HO13_0 HG HF; refine mA ?_)) <;> ((refine qA 7 ?_); have HO3_0 := HO13_0) <;> (refine done_ (done_of HT_.out (by kernel_rfl)) ?_; clear HF; have HF := HG; clear HG))
    | ((with_reducible refine gA 4 ?_; have k_ := HO3_0; clear k_) <;> (iterate 3 refine sA ?_) <;> (apply lend))
    | (((with_reducible refine gate_region (id := 5) ?_); have k_ := HO3_0; clear k_; have HG := HF; replace HF := HF.drop; refine HG.region2 HF (by kernel_rfl) rfl ?_; clear HF HG; intro w_ HF HG; refine with_tabW spec_EtherBytes.tab5 spec_EtherBytes.bits5 (fun HT_ HW_ => ?_)) <;> ((replace HH := bA HH); obtain ⟨_, A18_, HH⟩ := HH) <;> (repeat' (with_reducible first | exact xE HH | (replace HH := iA HP HH; clear HP; rcases HH with ⟨p, HP, HH⟩ | ⟨p, HP, HH⟩) | fail)) <;> (((with_reducible replace HH := bE HH); obtain ⟨_, E19_, HH⟩ := HH)) <;> ((replace HH := bA HH); obtain ⟨_, A22_, HH⟩ := HH) <;> (repeat' (with_reducible first | exact xE HH | (replace HH := iA HP HH; clear HP; rcases HH with ⟨p, HP, HH⟩ | ⟨p, HP, HH⟩) | fail)) <;> (((with_reducible replace HH := bE HH); obtain ⟨_, E23_, HH⟩ := HH)) <;> (refine dA 0 ?_; refine dA 3 ?_; refine dA 4 ?_) <;> (have HS18 := HG.since; refine HF.rD HG 1 Tryz.func67 (by (with_reducible apply spec_Put16.calls (h := A18_.out))) ?_; clear HF HG A18_; intro Av18_0 cv18_0 w_ HO18_0 HB18 HG HF; refine mA ?_) <;> ((refine HG.aD 2 HO3_0 (HG.r1 HO18_0) E19_.out ?_; clear HF HG E19_; intro Av19_0 cv19_0 w_ HO19_0 HG HF; refine mA ?_)) <;> (have HS22 := HG.since; refine HF.rD HG 5 Tryz.func67 (by (with_reducible apply spec_Put16.calls (h := A22_.out))) ?_; clear HF HG A22_; intro Av22_0 cv22_0 w_ HO22_0 HB22 HG HF; refine mA ?_) <;> ((refine HG.aD 6 HO19_0 (HG.r1 HO22_0) E23_.out ?_; clear HF HG E23_; intro Av23_0 cv23_0 w_ HO23_0 HG HF; refine mA ?_)) <;> ((refine qA 7 ?_); (clear HO3_0); have HO3_0 := HO23_0) <;> (refine done_ (done_of HT_.out (by kernel_rfl)) ?_; clear HF; have HF := HG; clear HG))
    | (((with_reducible refine gate_region (id := 6) ?_); have k_ := HO3_0; clear k_; have HG := HF; replace HF := HF.drop; refine HG.region2 HF (by kernel_rfl) rfl ?_; clear HF HG; intro w_ HF HG; refine with_tabW spec_EtherBytes.tab6 spec_EtherBytes.bits6 (fun HT_ HW_ => ?_)) <;> ((replace HH := bA HH); obtain ⟨_, A27_, HH⟩ := HH) <;> (repeat' (with_reducible first | exact xE HH | (replace HH := iA HP HH; clear HP; rcases HH with ⟨p, HP, HH⟩ | ⟨p, HP, HH⟩) | fail)) <;> (((with_reducible replace HH := bE HH); obtain ⟨_, E28_, HH⟩ := HH)) <;> (repeat' (with_reducible first | exact xE HH | (replace HH := iA HP HH; clear HP; rcases HH with ⟨p, HP, HH⟩ | ⟨p, HP, HH⟩) | fail)) <;> (skip) <;> (refine dA 0 ?_; refine dA 1 ?_; refine dA 2 ?_; refine dA 5 ?_; refine dA 6 ?_) <;> (have HS27 := HG.since; refine HF.rD HG 3 Tryz.func67 (by (with_reducible apply spec_Put16.calls (h := A27_.out))) ?_; clear HF HG A27_; intro Av27_0 cv27_0 w_ HO27_0 HB27 HG HF; refine mA ?_) <;> ((refine HG.aD 4 HO3_0 (HG.r1 HO27_0) E28_.out ?_; clear HF HG E28_; intro Av28_0 cv28_0 w_ HO28_0 HG HF; refine mA ?_)) <;> ((refine HG.aQD 7 HO28_0 (HG.pC HR0_4) ?_; clear HF HG; intro y_ Av31_0 cv31_0 w_ ey_ HO31_0 HG HF; have EY31 := Aside0.mk ey_.symm; (rw [ey_] at HH); clear ey_; refine mA ?_)) <;> ((refine qA 8 ?_); have HO2_0 := HO31_0) <;> (refine done_ (done_of HT_.out (by kernel_rfl)) ?_; clear HF; have HF := HG; clear HG))
    | go_step | fail))
 all_goals (have h_ := HH.out; clear HH; cases h_ <;> (go_ret; first
   | exact ⟨_, rfl, (Kd.R_nil _ _ _ _ _), HF.below⟩
   | exact ⟨_, rfl, (by exact (rN HF HO2_0)), HF.below⟩))

end Go.Proofs.YtffkgndghbdgnaaGreat.FFnExactPacketBytes
