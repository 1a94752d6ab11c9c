-- Contracts of functions, no condition.
import Derived.Test.YtffkgndghbdgnaaGreatGFnExactPacketBytesx24
import Derived.Test.YtffkgndghbdgnaaGreatGFnExactPacketBytesx35
namespace Go.Proofs.YtffkgndghbdgnaaGreat.FFnExactPacketBytes
open Go.RowKit Go.Proofs.YtffkgndghbdgnaaGreatW.PrintWords Go.Proofs.YtffkgndghbdgnaaGreatW.PrintLast Go.Proofs.YtffkgndghbdgnaaGreatW.PrintMore Go.Proofs.YtffkgndghbdgnaaGreat.Frame
attribute [local go_sem] max2_int min2_int max_two min_two max_three min_three max_four min_four
set_option linter.unusedVariables false
set_option maxHeartbeats 8000000
set_option maxRecDepth 100000
set_option linter.unusedSimpArgs false

/-! ### impl_EtherBytes: function 37 -/
def impl_EtherBytes.f (k : Nat) (a0_0 a0_1 a0_2 a0_3 : Int) (l0_4 : List Int) : Option (List Int) := (impl_EtherOk.f a0_0 a0_1 a0_2 a0_3 l0_4).bind fun t1159 => (if t1159 = true then (if a0_2 ≥ 0 then ((impl_Put16.f k 33024).bind fun t1163 => ((impl_Put16.f k a0_2).bind fun t1166 => ((slices_Concat_byte_byte.f k (([t1163, t1166] : List (List Int)))).bind fun t1172 => ((impl_put.f k a0_0 6).bind fun t1175 => ((impl_put.f k a0_1 6).bind fun t1178 => ((impl_Put16.f k a0_3).bind fun t1181 => ((slices_Concat_byte_byte.f k (([t1175, t1178, t1172, t1181, l0_4] : List (List Int)))).bind fun t1187 => (some t1187)))))))) else ((impl_put.f k a0_0 6).bind fun t1190 => ((impl_put.f k a0_1 6).bind fun t1193 => ((impl_Put16.f k a0_3).bind fun t1196 => ((slices_Concat_byte_byte.f k (([t1190, t1193, (([] : List Int)), t1196, l0_4] : List (List Int)))).bind fun t1202 => (some t1202)))))) else (some ([] : List Int)))
def impl_EtherBytes.T6 : Bool × List (List Nat × List Nat) := (true, [([], []), ([0], [0]), ([1], [1]), ([], []), ([3], [3]), ([4, 2], [4]), ([], []), ([], []), ([7], [7]), ([8, 5], [8]), ([], []), ([10], [10]), ([2, 5, 6, 9, 11], [2, 5, 6, 9, 11]), ([12, 9], [12]), ([13, 13, 0, 1, 2, 3, 4, 5, 6, 7, 8, 9, 10, 11, 12, 13], [13])])
def impl_EtherBytes.B6 : List Nat := [0, 1, 3, 0, 8, 31, 0, 0, 128, 447, 0, 1024, 4095, 8191, 16383]
theorem impl_EtherBytes.tab6 : rtab .any (opsOf Tryz.f37 6) = impl_EtherBytes.T6 := by kernel_rfl
theorem impl_EtherBytes.bits6 : waitsOk impl_EtherBytes.T6.2 impl_EtherBytes.B6 = true := by kernel_rfl
theorem impl_EtherBytes.calls (k : Nat) (a0_0 a0_1 a0_2 a0_3 : Int) (A0_4 : Option Addr) (c0_4 : Nat) (l0_4 r : List Int) (w : World) (hr0_4 : Kd.C (Kd.int .u8) w A0_4 l0_4.length l0_4) (hc0_4 : l0_4.length ≤ c0_4) (h : impl_EtherBytes.f k a0_0 a0_1 a0_2 a0_3 l0_4 = some r) :
  Calls Tryz.prog 37 #[.agg #[.int .i64 a0_0, .int .i64 a0_1, .int .i64 a0_2, .int .i64 a0_3, .slice A0_4 l0_4.length c0_4]] w fun e w' => ∃ v0_ : Value, e = .returned (v0_) ∧ Kd.R (Kd.int .u8) 5 w' w.heap.size (fun _ => True) v0_ r ∧ Below w.heap.size w w' := by
 have hu22 := Tryz.underlying22
 have hu38 := Tryz.underlying38
 have hu109 := Tryz.underlying109
 have HR0_4 := Aside0.mk hr0_4
 have HC0_4 := Aside0.mk hc0_4
 clear hr0_4 hc0_4
 have HF := Fr.start [38] w
 have HP := Aside0.mk True.intro
 unfold impl_EtherBytes.f at h
 have HH := Aside0.mk h
 clear h
 go_enter Tryz.func37, Tryz.ntmps37
 all_goals (repeat' (first
    | ((with_reducible refine gA 0 ?_) <;> (refine HF.bA ?_; clear HF; intro g_ w_ HF; refine nA ?_) <;> (refine sA ?_) <;> (apply lend))
    | ((with_reducible refine gA 1 ?_) <;> (refine sA ?_) <;> ((replace HH := bA HH); obtain ⟨_, A5_, HH⟩ := HH) <;> (repeat' (with_reducible first | (replace HH := iA HP HH; clear HP; rcases HH with ⟨p, HP, HH⟩ | ⟨p, HP, HH⟩ <;> first | subst p | skip) | fail)) <;> (refine HF.cB Tryz.func50 (by (with_reducible apply impl_EtherOk.calls (h := A5_.out)) <;> exact gP) ?_; clear HF A5_; intro w_ HF) <;> (refine sA ?_) <;> (apply lend))
    | ((with_reducible refine gA 2 ?_) <;> (refine sA ?_) <;> (apply lend))
    | ((with_reducible refine gA 3 ?_) <;> (have HF0 := HF; apply HF.lempty rfl rfl; (go_simp; rfl); clear HF; intro g_ w_ hg_ hb_ hh_ HF; replace HF := HF.mark; have HO7_0 := empty_row (k := .u8) HF0 hg_ hh_; clear hg_ hb_ hh_ HF0; refine nA ?_) <;> ((refine pA ?_); have HO3_0 := HO7_0) <;> (apply lend))
    | ((with_reducible refine gA 4 ?_; have k_ := HO3_0; clear k_) <;> (iterate 3 refine sA ?_) <;> (apply lend))
    | (((with_reducible refine gate_region (id := 5) ?_); have k_ := HO3_0; clear k_; have HG := HF; refine HG.region2 HF (by kernel_rfl) rfl ?_; clear HF HG; intro w_ HF HG) <;> ((replace HH := bA HH); obtain ⟨_, A11_, HH⟩ := HH) <;> ((replace HH := bA HH); obtain ⟨_, A14_, HH⟩ := HH) <;> ((replace HH := bA HH); obtain ⟨_, A16_, HH⟩ := HH) <;> (refine dA 1 ?_; refine dA 2 ?_) <;> (have HS11 := HG.since; refine HF.rD HG 0 Tryz.func68 (by (with_reducible apply impl_Put16.calls (h := A11_.out))) ?_; clear HF HG A11_; intro Av11_0 cv11_0 w_ HO11_0 HB11 HG HF; refine mA ?_) <;> (have HS14 := HG.since; refine HF.rD HG 3 Tryz.func68 (by (with_reducible apply impl_Put16.calls (h := A14_.out))) ?_; clear HF HG A14_; intro Av14_0 cv14_0 w_ HO14_0 HB14 HG HF; refine mA ?_) <;> (refine HF.nD HG 4 ?_; clear HF HG; intro g_ w_ HL15 HG HF; refine mA ?_) <;> (have HS16 := HG.since; refine HF.rD HG 5 Tryz.func49 (by (with_reducible apply slices_Concat_byte_byte.calls (A0 := some ⟨_, 0, none⟩) (c0 := 2) (h := A16_.out)); exact (rowsC (HG.lit HL15 (by simp) (by decide)) (by (repeat' (first | exact RowsAt.nil | refine RowsAt.cons rfl ?_ ?_ ?_)); exact (HG.r2 HO11_0); exact (HG.r1 HO11_0); exact (HG.r2 HO14_0); exact (HG.r1 HO14_0)) (by simp)); exact (Nat.le_refl _)) ?_; clear HF HG A16_; intro Av16_0 cv16_0 w_ HO16_0 HB16 HG HF; refine mA ?_) <;> ((refine qA 6 ?_); (clear HO3_0); have HO3_0 := HO16_0) <;> (refine done_ (by kernel_rfl) ?_; clear HF; have HF := HG; clear HG))
    | (((with_reducible refine gate_region (id := 6) ?_); have k_ := HO3_0; clear k_; have HG := HF; refine HG.region2 HF (by kernel_rfl) rfl ?_; clear HF HG; intro w_ HF HG; refine with_tabW impl_EtherBytes.tab6 impl_EtherBytes.bits6 (fun HT_ HW_ => ?_)) <;> ((replace HH := bA HH); obtain ⟨_, A19_, HH⟩ := HH) <;> ((replace HH := bA HH); obtain ⟨_, A22_, HH⟩ := HH) <;> ((replace HH := bA HH); obtain ⟨_, A26_, HH⟩ := HH) <;> ((replace HH := bA HH); obtain ⟨_, A30_, HH⟩ := HH) <;> (refine dA 0 ?_; refine dA 1 ?_; refine dA 3 ?_; refine dA 4 ?_; refine dA 6 ?_; refine dA 7 ?_; refine dA 8 ?_; refine dA 10 ?_; refine dA 11 ?_) <;> (have HS19 := HG.since; refine HF.rD HG 2 Tryz.func69 (by (with_reducible apply impl_put.calls (h := A19_.out))) ?_; clear HF HG A19_; intro Av19_0 cv19_0 w_ HO19_0 HB19 HG HF; refine mA ?_) <;> (have HS22 := HG.since; refine HF.rD HG 5 Tryz.func69 (by (with_reducible apply impl_put.calls (h := A22_.out))) ?_; clear HF HG A22_; intro Av22_0 cv22_0 w_ HO22_0 HB22 HG HF; refine mA ?_) <;> (have HS26 := HG.since; refine HF.rD HG 9 Tryz.func68 (by (with_reducible apply impl_Put16.calls (h := A26_.out))) ?_; clear HF HG A26_; intro Av26_0 cv26_0 w_ HO26_0 HB26 HG HF; refine mA ?_) <;> (refine HF.nD HG 12 ?_; clear HF HG; intro g_ w_ HL29 HG HF; refine mA ?_) <;> (have HS30 := HG.since; refine HF.rD HG 13 Tryz.func49 (by (with_reducible apply slices_Concat_byte_byte.calls (A0 := some ⟨_, 0, none⟩) (c0 := 5) (h := A30_.out)); exact (rowsC (HG.lit HL29 (by simp) (by decide)) (by (repeat' (first | exact RowsAt.nil | refine RowsAt.cons rfl ?_ ?_ ?_)); exact (HG.r2 HO19_0); exact (HG.r1 HO19_0); exact (HG.r2 HO22_0); exact (HG.r1 HO22_0); exact (HG.r2 HO3_0); exact (HG.r1 HO3_0); exact (HG.r2 HO26_0); exact (HG.r1 HO26_0); exact HC0_4.out; exact (HG.pC HR0_4)) (by simp)); exact (Nat.le_refl _)) ?_; clear HF HG A30_; intro Av30_0 cv30_0 w_ HO30_0 HB30 HG HF; refine mA ?_) <;> ((refine qA 14 ?_); have HO2_0 := HO30_0) <;> (refine done_ (done_of HT_.out (by kernel_rfl)) ?_; clear HF; have HF := HG; clear HG))
    | go_step | fail))
 all_goals (have h_ := HH.out; clear HH; cases h_ <;> (go_ret; first
   | exact ⟨_, rfl, (Kd.R_nil _ _ _ _ _), HF.below⟩
   | exact ⟨_, rfl, (rN HF HO2_0), HF.below⟩))

end Go.Proofs.YtffkgndghbdgnaaGreat.FFnExactPacketBytes
