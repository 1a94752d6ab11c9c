-- Contracts of functions, no condition.
import Derived.Test.YtffkgndghbdgnaaGreatGFnExactPacketBytesx9
namespace Go.Proofs.YtffkgndghbdgnaaGreat.FFnExactPacketBytes
open Go.RowKit Go.Proofs.YtffkgndghbdgnaaGreatW.PrintWords Go.Proofs.YtffkgndghbdgnaaGreatW.PrintLast Go.Proofs.YtffkgndghbdgnaaGreatW.PrintMore Go.Proofs.YtffkgndghbdgnaaGreat.Frame
attribute [local go_sem] max2_int min2_int max_two min_two max_three min_three max_four min_four
set_option linter.unusedVariables false
set_option maxHeartbeats 8000000
set_option maxRecDepth 100000
set_option linter.unusedSimpArgs false

/-! ### spec_AddrBytes: function 103 -/
def spec_AddrBytes.f (a0_0 a0_1 a0_2 a0_3 a0_4 : Int) : Option (List Int) := (spec_AddrOk.f a0_0 a0_1 a0_2 a0_3 a0_4).bind fun t340 => (if t340 = true then (if a0_0 = 4 then ((spec_Put32.f a0_4).bind fun t341 => (some t341)) else ((spec_Put32.f a0_1).bind fun t344 => ((spec_Put32.f a0_2).bind fun t347 => (if t344.length + t347.length < 140737488355328 then ((some (t344 ++ t347 : List Int)).bind fun y350 => ((spec_Put32.f a0_3).bind fun t353 => (if y350.length + t353.length < 140737488355328 then ((some (y350 ++ t353 : List Int)).bind fun y356 => ((spec_Put32.f a0_4).bind fun t359 => (if y356.length + t359.length < 140737488355328 then (some (y356 ++ t359)) else (none)))) else (none)))) else (none))))) else (some ([] : List Int)))
def spec_AddrBytes.T5 : Bool × List (List Nat × List Nat) := (true, [([], []), ([0], [0]), ([1], [1]), ([], []), ([3], [3]), ([4, 2], [4]), ([2, 5, 5], [2, 5]), ([6, 6, 0, 1, 2, 3, 4, 5, 6], [6])])
def spec_AddrBytes.B5 : List Nat := [0, 1, 3, 0, 8, 31, 63, 127]
theorem spec_AddrBytes.tab5 : rtab .any (opsOf Tryz.f103 5) = spec_AddrBytes.T5 := by kernel_rfl
theorem spec_AddrBytes.bits5 : waitsOk spec_AddrBytes.T5.2 spec_AddrBytes.B5 = true := by kernel_rfl
def spec_AddrBytes.T6 : Bool × List (List Nat × List Nat) := (true, [([], []), ([], []), ([1], [1]), ([2], [2]), ([0, 3, 3], [0, 3]), ([], []), ([5], [5]), ([6, 4], [6]), ([4, 7, 7], [4, 7]), ([8, 8, 0, 1, 2, 3, 4, 5, 6, 7, 8], [8])])
def spec_AddrBytes.B6 : List Nat := [0, 0, 2, 6, 15, 0, 32, 127, 255, 511]
theorem spec_AddrBytes.tab6 : rtab .any (opsOf Tryz.f103 6) = spec_AddrBytes.T6 := by kernel_rfl
theorem spec_AddrBytes.bits6 : waitsOk spec_AddrBytes.T6.2 spec_AddrBytes.B6 = true := by kernel_rfl
theorem spec_AddrBytes.calls (a0_0 a0_1 a0_2 a0_3 a0_4 : Int) (r : List Int) (w : World) (h : spec_AddrBytes.f a0_0 a0_1 a0_2 a0_3 a0_4 = some r) :
  Calls Tryz.prog 103 #[.agg #[.int .i64 a0_0, .int .i64 a0_1, .int .i64 a0_2, .int .i64 a0_3, .int .i64 a0_4]] w fun e w' => ∃ v0_ : Value, e = .returned (v0_) ∧ Kd.R (Kd.int .u8) 5 w' w.heap.size (fun _ => True) v0_ r ∧ Below w.heap.size w w' := by
 have hu22 := Tryz.underlying22
 have hu39 := Tryz.underlying39
 have info5_ : (Tryz.prog.info? 5).map (fun i => (i.zero, i.size, i.bytes)) = some (some (.int .u8 0), 1, 1) := by kernel_rfl
 have HF := Fr.start [39] w
 have HP := Aside0.mk True.intro
 unfold spec_AddrBytes.f at h
 have HH := Aside0.mk h
 clear h
 go_enter Tryz.func103, Tryz.ntmps103
 all_goals (repeat' (first
    | ((with_reducible refine gA 0 ?_) <;> (refine HF.bA ?_; clear HF; intro g_ w_ HF; refine nA ?_) <;> (refine sA ?_) <;> (apply lend))
    | ((with_reducible refine gA 1 ?_) <;> (refine sA ?_) <;> ((replace HH := bA HH); obtain ⟨_, A5_, HH⟩ := HH) <;> (repeat' (with_reducible first | (replace HH := iA HP HH; clear HP; rcases HH with ⟨p, HP, HH⟩ | ⟨p, HP, HH⟩ <;> first | subst p | cases p) | fail)) <;> (refine HF.cB Tryz.func96 (by (with_reducible apply spec_AddrOk.calls (h := A5_.out))) ?_; clear HF A5_; intro w_ HF) <;> (refine sA ?_) <;> (apply lend))
    | ((with_reducible refine gA 2 ?_) <;> (refine sA ?_) <;> (apply lend))
    | ((with_reducible refine gA 3 ?_) <;> (iterate 3 refine sA ?_) <;> (apply lend))
    | ((with_reducible refine gA 4 ?_) <;> (iterate 2 refine sA ?_) <;> ((replace HH := bA HH); obtain ⟨_, A12_, HH⟩ := HH) <;> (refine HF.rB Tryz.func100 (by (with_reducible apply spec_Put32.calls (h := A12_.out))) ?_; clear HF A12_; intro Av12_0 cv12_0 w_ HO12_0 HB12 HF; refine nA ?_) <;> ((refine pA ?_); have HO2_0 := HO12_0) <;> (apply lend))
    | (((with_reducible refine gate_region (id := 5) ?_); have HG := HF; replace HF := HF.drop; refine HG.region2 HF (by kernel_rfl) rfl ?_; clear HF HG; intro w_ HF HG; refine with_tabW spec_AddrBytes.tab5 spec_AddrBytes.bits5 (fun HT_ HW_ => ?_)) <;> ((replace HH := bA HH); obtain ⟨_, A15_, HH⟩ := HH) <;> ((replace HH := bA HH); obtain ⟨_, A18_, HH⟩ := HH) <;> (repeat' (with_reducible first | exact xE HH | (replace HH := iA HP HH; clear HP; rcases HH with ⟨p, HP, HH⟩ | ⟨p, HP, HH⟩) | fail)) <;> (((with_reducible replace HH := bE HH); obtain ⟨_, E19_, HH⟩ := HH)) <;> (refine dA 0 ?_; refine dA 1 ?_; refine dA 3 ?_; refine dA 4 ?_) <;> (refine HF.rD HG 2 Tryz.func100 (by (with_reducible apply spec_Put32.calls (h := A15_.out))) ?_; clear HF HG A15_; intro Av15_0 cv15_0 w_ HO15_0 HB15 HG HF; refine mA ?_) <;> (have HS18 := HG.since; refine HF.rD HG 5 Tryz.func100 (by (with_reducible apply spec_Put32.calls (h := A18_.out))) ?_; clear HF HG A18_; intro Av18_0 cv18_0 w_ HO18_0 HB18 HG HF; refine mA ?_) <;> ((refine HG.aD 6 HO15_0 (HG.r1 HO18_0) E19_.out ?_; clear HF HG E19_; intro Av19_0 cv19_0 w_ HO19_0 HG HF; refine mA ?_)) <;> (refine dA 7 ?_) <;> (refine done_ (done_of HT_.out (by kernel_rfl)) ?_; clear HF; have HF := HG; clear HG))
    | (((with_reducible refine gate_region (id := 6) ?_); have k_ := HO19_0; clear k_; have HG := HF; replace HF := HF.drop; refine HG.region2 HF (by kernel_rfl) rfl ?_; clear HF HG; intro w_ HF HG; refine with_tabW spec_AddrBytes.tab6 spec_AddrBytes.bits6 (fun HT_ HW_ => ?_)) <;> ((replace HH := bA HH); obtain ⟨_, A23_, HH⟩ := HH) <;> (repeat' (with_reducible first | exact xE HH | (replace HH := iA HP HH; clear HP; rcases HH with ⟨p, HP, HH⟩ | ⟨p, HP, HH⟩) | fail)) <;> (((with_reducible replace HH := bE HH); obtain ⟨_, E24_, HH⟩ := HH)) <;> ((replace HH := bA HH); obtain ⟨_, A27_, HH⟩ := HH) <;> (repeat' (with_reducible first | exact xE HH | (replace HH := iA HP HH; clear HP; rcases HH with ⟨p, HP, HH⟩ | ⟨p, HP, HH⟩) | fail)) <;> (skip) <;> (refine dA 0 ?_; refine dA 1 ?_; refine dA 2 ?_; refine dA 5 ?_; refine dA 6 ?_) <;> (have HS23 := HG.since; refine HF.rD HG 3 Tryz.func100 (by (with_reducible apply spec_Put32.calls (h := A23_.out))) ?_; clear HF HG A23_; intro Av23_0 cv23_0 w_ HO23_0 HB23 HG HF; refine mA ?_) <;> ((refine HG.aD 4 HO19_0 (HG.r1 HO23_0) E24_.out ?_; clear HF HG E24_; intro Av24_0 cv24_0 w_ HO24_0 HG HF; refine mA ?_)) <;> (have HS27 := HG.since; refine HF.rD HG 7 Tryz.func100 (by (with_reducible apply spec_Put32.calls (h := A27_.out))) ?_; clear HF HG A27_; intro Av27_0 cv27_0 w_ HO27_0 HB27 HG HF; refine mA ?_) <;> ((refine HG.aQD 8 HO24_0 (HG.r1 HO27_0) ?_; clear HF HG; intro y_ Av28_0 cv28_0 w_ ey_ HO28_0 HG HF; have EY28 := Aside0.mk ey_.symm; (rw [ey_] at HH); clear ey_; refine mA ?_)) <;> ((refine qA 9 ?_); have HO2_0 := HO28_0) <;> (refine done_ (done_of HT_.out (by kernel_rfl)) ?_; clear HF; have HF := HG; clear HG))
    | go_step | fail))
 all_goals (have h_ := HH.out; clear HH; cases h_ <;> (go_ret; first
   | exact ⟨_, rfl, (Kd.R_nil _ _ _ _ _), HF.below⟩
   | exact ⟨_, rfl, (by exact (rN HF HO2_0)), HF.below⟩))

end Go.Proofs.YtffkgndghbdgnaaGreat.FFnExactPacketBytes
