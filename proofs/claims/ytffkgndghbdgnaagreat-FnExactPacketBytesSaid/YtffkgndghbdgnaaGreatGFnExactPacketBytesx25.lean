-- Contracts of functions, no condition.
import Derived.Test.YtffkgndghbdgnaaGreatGFnExactPacketBytesx24
namespace Go.Proofs.YtffkgndghbdgnaaGreat.FFnExactPacketBytes
open Go.RowKit Go.Proofs.YtffkgndghbdgnaaGreatW.PrintWords Go.Proofs.YtffkgndghbdgnaaGreatW.PrintLast Go.Proofs.YtffkgndghbdgnaaGreatW.PrintMore Go.Proofs.YtffkgndghbdgnaaGreat.Frame
attribute [local go_sem] max2_int min2_int max_two min_two max_three min_three max_four min_four
set_option linter.unusedVariables false
set_option maxHeartbeats 8000000
set_option maxRecDepth 100000
set_option linter.unusedSimpArgs false

/-! ### impl_AddrBytes: function 122 -/
def impl_AddrBytes.f (k : Nat) (a0_0 a0_1 a0_2 a0_3 a0_4 : Int) : Option (List Int) := (impl_AddrOk.f a0_0 a0_1 a0_2 a0_3 a0_4).bind fun t811 => (if t811 = true then (if a0_0 = 4 then ((impl_Put32.f k a0_4).bind fun t812 => (some t812)) else ((impl_Put32.f k a0_1).bind fun t815 => ((impl_Put32.f k a0_2).bind fun t818 => ((impl_Put32.f k a0_3).bind fun t821 => ((impl_Put32.f k a0_4).bind fun t824 => ((slices_Concat_byte_byte.f k (([t815, t818, t821, t824] : List (List Int)))).bind fun t830 => (some t830))))))) else (some ([] : List Int)))
def impl_AddrBytes.T5 : Bool × List (List Nat × List Nat) := (true, [([], []), ([0], [0]), ([1], [1]), ([], []), ([3], [3]), ([4, 2], [4]), ([], []), ([6], [6]), ([7, 5], [7]), ([], []), ([9], [9]), ([10, 8], [10]), ([2, 5, 8, 11], [2, 5, 8, 11]), ([12, 11], [12]), ([13, 13, 0, 1, 2, 3, 4, 5, 6, 7, 8, 9, 10, 11, 12, 13], [13])])
def impl_AddrBytes.B5 : List Nat := [0, 1, 3, 0, 8, 31, 0, 64, 255, 0, 512, 2047, 4095, 8191, 16383]
theorem impl_AddrBytes.tab5 : rtab .any (opsOf Tryz.f122 5) = impl_AddrBytes.T5 := by kernel_rfl
theorem impl_AddrBytes.bits5 : waitsOk impl_AddrBytes.T5.2 impl_AddrBytes.B5 = true := by kernel_rfl
theorem impl_AddrBytes.calls (k : Nat) (a0_0 a0_1 a0_2 a0_3 a0_4 : Int) (r : List Int) (w : World) (h : impl_AddrBytes.f k a0_0 a0_1 a0_2 a0_3 a0_4 = some r) :
  Calls Tryz.prog 122 #[.agg #[.int .i64 a0_0, .int .i64 a0_1, .int .i64 a0_2, .int .i64 a0_3, .int .i64 a0_4]] w fun e w' => ∃ v0_ : Value, e = .returned (v0_) ∧ Kd.R (Kd.int .u8) 5 w' w.heap.size (fun _ => True) v0_ r ∧ Below w.heap.size w w' := by
 have hu39 := Tryz.underlying39
 have hu109 := Tryz.underlying109
 have HF := Fr.start [39] w
 have HP := Aside0.mk True.intro
 unfold impl_AddrBytes.f at h
 have HH := Aside0.mk h
 clear h
 go_enter Tryz.func122, Tryz.ntmps122
 all_goals (repeat' (first
    | ((with_reducible refine gA 0 ?_) <;> (refine HF.bA ?_; clear HF; intro g_ w_ HF; refine nA ?_) <;> (refine sA ?_) <;> (apply lend))
    | ((with_reducible refine gA 1 ?_) <;> (refine sA ?_) <;> ((replace HH := bA HH); obtain ⟨_, A5_, HH⟩ := HH) <;> (repeat' (with_reducible first | (replace HH := iA HP HH; clear HP; rcases HH with ⟨p, HP, HH⟩ | ⟨p, HP, HH⟩ <;> first | subst p | cases p) | fail)) <;> (refine HF.cB Tryz.func128 (by (with_reducible apply impl_AddrOk.calls (h := A5_.out))) ?_; clear HF A5_; intro w_ HF) <;> (iterate 2 refine sA ?_) <;> (apply lend))
    | ((with_reducible refine gA 2 ?_) <;> (refine sA ?_) <;> (apply lend))
    | ((with_reducible refine gA 3 ?_) <;> (iterate 4 refine sA ?_) <;> (apply lend))
    | ((with_reducible refine gA 4 ?_) <;> (iterate 2 refine sA ?_) <;> ((replace HH := bA HH); obtain ⟨_, A13_, HH⟩ := HH) <;> (refine HF.rB Tryz.func121 (by (with_reducible apply impl_Put32.calls (h := A13_.out))) ?_; clear HF A13_; intro Av13_0 cv13_0 w_ HO13_0 HB13 HF; refine nA ?_) <;> ((refine pA ?_); have HO2_0 := HO13_0) <;> (apply lend))
    | (((with_reducible refine gate_region (id := 5) ?_); have HG := HF; refine HG.region2 HF (by kernel_rfl) rfl ?_; clear HF HG; intro w_ HF HG; refine with_tabW impl_AddrBytes.tab5 impl_AddrBytes.bits5 (fun HT_ HW_ => ?_)) <;> ((replace HH := bA HH); obtain ⟨_, A16_, HH⟩ := HH) <;> ((replace HH := bA HH); obtain ⟨_, A19_, HH⟩ := HH) <;> ((replace HH := bA HH); obtain ⟨_, A22_, HH⟩ := HH) <;> ((replace HH := bA HH); obtain ⟨_, A25_, HH⟩ := HH) <;> ((replace HH := bA HH); obtain ⟨_, A27_, HH⟩ := HH) <;> (refine dA 0 ?_; refine dA 1 ?_; refine dA 3 ?_; refine dA 4 ?_; refine dA 6 ?_; refine dA 7 ?_; refine dA 9 ?_; refine dA 10 ?_) <;> (refine HF.rD HG 2 Tryz.func121 (by (with_reducible apply impl_Put32.calls (h := A16_.out))) ?_; clear HF HG A16_; intro Av16_0 cv16_0 w_ HO16_0 HB16 HG HF; refine mA ?_) <;> (have HS19 := HG.since; refine HF.rD HG 5 Tryz.func121 (by (with_reducible apply impl_Put32.calls (h := A19_.out))) ?_; clear HF HG A19_; intro Av19_0 cv19_0 w_ HO19_0 HB19 HG HF; refine mA ?_) <;> (have HS22 := HG.since; refine HF.rD HG 8 Tryz.func121 (by (with_reducible apply impl_Put32.calls (h := A22_.out))) ?_; clear HF HG A22_; intro Av22_0 cv22_0 w_ HO22_0 HB22 HG HF; refine mA ?_) <;> (have HS25 := HG.since; refine HF.rD HG 11 Tryz.func121 (by (with_reducible apply impl_Put32.calls (h := A25_.out))) ?_; clear HF HG A25_; intro Av25_0 cv25_0 w_ HO25_0 HB25 HG HF; refine mA ?_) <;> (refine HF.nD HG 12 ?_; clear HF HG; intro g_ w_ HL26 HG HF; refine mA ?_) <;> (have HS27 := HG.since; refine HF.rD HG 13 Tryz.func49 (by (with_reducible apply slices_Concat_byte_byte.calls (A0 := some ⟨_, 0, none⟩) (c0 := 4) (h := A27_.out)); exact (rowsC (HG.lit HL26 (by simp) (by decide)) (by (repeat' (first | exact RowsAt.nil | refine RowsAt.cons rfl ?_ ?_ ?_)); exact (HG.r2 HO16_0); exact (HG.r1 HO16_0); exact (HG.r2 HO19_0); exact (HG.r1 HO19_0); exact (HG.r2 HO22_0); exact (HG.r1 HO22_0); exact (HG.r2 HO25_0); exact (HG.r1 HO25_0)) (by simp)); exact (Nat.le_refl _)) ?_; clear HF HG A27_; intro Av27_0 cv27_0 w_ HO27_0 HB27 HG HF; refine mA ?_) <;> ((refine qA 14 ?_); have HO2_0 := HO27_0) <;> (refine done_ (done_of HT_.out (by kernel_rfl)) ?_; clear HF; have HF := HG; clear HG))
    | go_step | fail))
 all_goals (have h_ := HH.out; clear HH; cases h_ <;> (go_ret; first
   | exact ⟨_, rfl, (Kd.R_nil _ _ _ _ _), HF.below⟩
   | exact ⟨_, rfl, (rN HF HO2_0), HF.below⟩))

end Go.Proofs.YtffkgndghbdgnaaGreat.FFnExactPacketBytes
