-- Contracts of functions, no condition.
import Derived.Test.YtffkgndghbdgnaaGreatGFnExactPacketBytesx27
namespace Go.Proofs.YtffkgndghbdgnaaGreat.FFnExactPacketBytes
open Go.RowKit Go.Proofs.YtffkgndghbdgnaaGreatW.PrintWords Go.Proofs.YtffkgndghbdgnaaGreatW.PrintLast Go.Proofs.YtffkgndghbdgnaaGreatW.PrintMore Go.Proofs.YtffkgndghbdgnaaGreat.Frame
attribute [local go_sem] max2_int min2_int max_two min_two max_three min_three max_four min_four
set_option linter.unusedVariables false
set_option maxHeartbeats 8000000
set_option maxRecDepth 100000
set_option linter.unusedSimpArgs false

/-! ### impl_UpperSum: function 76 -/
def impl_UpperSum.f (k : Nat) (a0_0 a0_1 a0_2 a0_3 a0_4 a0_5 a0_6 a0_7 a0_8 a0_9 a0_10 : Int) (a0_11 : Bool) (l0_12 l0_13 : List Int) (a1_0 a1_1 a1_2 a1_3 a1_4 a2_0 a2_1 a2_2 a2_3 a2_4 : Int) : Option (Int) := (impl_areBoth.f a1_0 a1_1 a1_2 a1_3 a1_4 a2_0 a2_1 a2_2 a2_3 a2_4).bind fun t12 => (if t12 = true then ((impl_UpperOk.f k a0_0 a0_1 a0_2 a0_3 a0_4 a0_5 a0_6 a0_7 a0_8 a0_9 a0_10 a0_11 l0_12 l0_13 a1_0).bind fun t18 => (if t18 = true then (if a0_0 = 0 then (some 0) else (if a0_11 = true then (some 0) else (if a0_0 = 3 then (if a1_0 = 6 then ((if a0_0 = 1 then some (6 : Int) else if a0_0 = 2 then some 17 else if a0_0 = 3 then some 58 else none).bind fun t43 => ((impl_UpperSize.f a0_0 a0_1 a0_2 a0_3 a0_4 a0_5 a0_6 a0_7 a0_8 a0_9 a0_10 a0_11 l0_12 l0_13).bind fun t45 => ((impl_pseudoSum.f k a1_0 a1_1 a1_2 a1_3 a1_4 a2_0 a2_1 a2_2 a2_3 a2_4 t43 t45).bind fun t46 => ((impl_Upper_encoded.f k a0_0 a0_1 a0_2 a0_3 a0_4 a0_5 a0_6 a0_7 a0_8 a0_9 a0_10 a0_11 l0_12 l0_13 0).bind fun t49 => ((impl_onesSum.f k t49).bind fun t50 => ((impl_sum.f t46 t50).bind fun t51 => (if a0_0 = 2 then (if (wrap64 (65535 - t51)) = 0 then (some 65535) else (some (wrap64 (65535 - t51)))) else (some (wrap64 (65535 - t51)))))))))) else ((impl_Upper_encoded.f k a0_0 a0_1 a0_2 a0_3 a0_4 a0_5 a0_6 a0_7 a0_8 a0_9 a0_10 a0_11 l0_12 l0_13 0).bind fun t49 => ((impl_onesSum.f k t49).bind fun t50 => ((impl_sum.f 0 t50).bind fun t51 => (if a0_0 = 2 then (if (wrap64 (65535 - t51)) = 0 then (some 65535) else (some (wrap64 (65535 - t51)))) else (some (wrap64 (65535 - t51)))))))) else ((if a0_0 = 1 then some (6 : Int) else if a0_0 = 2 then some 17 else if a0_0 = 3 then some 58 else none).bind fun t43 => ((impl_UpperSize.f a0_0 a0_1 a0_2 a0_3 a0_4 a0_5 a0_6 a0_7 a0_8 a0_9 a0_10 a0_11 l0_12 l0_13).bind fun t45 => ((impl_pseudoSum.f k a1_0 a1_1 a1_2 a1_3 a1_4 a2_0 a2_1 a2_2 a2_3 a2_4 t43 t45).bind fun t46 => ((impl_Upper_encoded.f k a0_0 a0_1 a0_2 a0_3 a0_4 a0_5 a0_6 a0_7 a0_8 a0_9 a0_10 a0_11 l0_12 l0_13 0).bind fun t49 => ((impl_onesSum.f k t49).bind fun t50 => ((impl_sum.f t46 t50).bind fun t51 => (if a0_0 = 2 then (if (wrap64 (65535 - t51)) = 0 then (some 65535) else (some (wrap64 (65535 - t51)))) else (some (wrap64 (65535 - t51))))))))))))) else (some (-1)))) else (some (-1)))
theorem impl_UpperSum.calls (k : Nat) (a0_0 a0_1 a0_2 a0_3 a0_4 a0_5 a0_6 a0_7 a0_8 a0_9 a0_10 : Int) (a0_11 : Bool) (A0_12 : Option Addr) (c0_12 : Nat) (l0_12 : List Int) (A0_13 : Option Addr) (c0_13 : Nat) (l0_13 : List Int) (a1_0 a1_1 a1_2 a1_3 a1_4 a2_0 a2_1 a2_2 a2_3 a2_4 r : Int) (w : World) (hr0_12 : Kd.C (Kd.int .u8) w A0_12 l0_12.length l0_12) (hc0_12 : l0_12.length ≤ c0_12) (hr0_13 : Kd.C (Kd.int .u8) w A0_13 l0_13.length l0_13) (hc0_13 : l0_13.length ≤ c0_13) (h : impl_UpperSum.f k a0_0 a0_1 a0_2 a0_3 a0_4 a0_5 a0_6 a0_7 a0_8 a0_9 a0_10 a0_11 l0_12 l0_13 a1_0 a1_1 a1_2 a1_3 a1_4 a2_0 a2_1 a2_2 a2_3 a2_4 = some r) :
  Calls Tryz.prog 76 #[.agg #[.int .i64 a0_0, .int .i64 a0_1, .int .i64 a0_2, .int .i64 a0_3, .int .i64 a0_4, .int .i64 a0_5, .int .i64 a0_6, .int .i64 a0_7, .int .i64 a0_8, .int .i64 a0_9, .int .i64 a0_10, .bool a0_11, .slice A0_12 l0_12.length c0_12, .slice A0_13 l0_13.length c0_13], .agg #[.int .i64 a1_0, .int .i64 a1_1, .int .i64 a1_2, .int .i64 a1_3, .int .i64 a1_4], .agg #[.int .i64 a2_0, .int .i64 a2_1, .int .i64 a2_2, .int .i64 a2_3, .int .i64 a2_4]] w fun e w' => e = .returned (.int .i64 r) ∧ Below w.heap.size w w' := by
 have hu39 := Tryz.underlying39
 have hu45 := Tryz.underlying45
 have HR0_12 := Aside0.mk hr0_12
 have HC0_12 := Aside0.mk hc0_12
 have HR0_13 := Aside0.mk hr0_13
 have HC0_13 := Aside0.mk hc0_13
 clear hr0_12 hc0_12 hr0_13 hc0_13
 have HF := Fr.start [39, 45] w
 have HP := Aside0.mk True.intro
 unfold impl_UpperSum.f at h
 have HH := Aside0.mk h
 clear h
 go_enter Tryz.func76, Tryz.ntmps76
 all_goals (repeat' (first
    | ((with_reducible refine gA 0 ?_) <;> (refine HF.bA ?_; clear HF; intro g_ w_ HF; refine nA ?_) <;> (refine HF.bA ?_; clear HF; intro g_ w_ HF; refine nA ?_) <;> (refine HF.bA ?_; clear HF; intro g_ w_ HF; refine nA ?_) <;> (refine sA ?_) <;> (apply lend))
    | ((with_reducible refine gA 1 ?_) <;> (iterate 2 refine sA ?_) <;> ((replace HH := bA HH); obtain ⟨_, A12_, HH⟩ := HH) <;> (repeat' (with_reducible first | (replace HH := iA HP HH; clear HP; rcases HH with ⟨p, HP, HH⟩ | ⟨p, HP, HH⟩ <;> subst p) | fail)) <;> (refine HF.cB Tryz.func106 (by (with_reducible apply impl_areBoth.calls (h := A12_.out))) ?_; clear HF A12_; intro w_ HF) <;> (iterate 5 refine sA ?_) <;> (first | (((replace HH := bA HH); obtain ⟨_, A18_, HH⟩ := HH) <;> (repeat' (with_reducible first | (replace HH := iA HP HH; clear HP; rcases HH with ⟨p, HP, HH⟩ | ⟨p, HP, HH⟩ <;> first | subst p | cases p) | fail)) <;> (refine HF.cB Tryz.func107 (by (with_reducible apply impl_UpperOk.calls (h := A18_.out)) <;> exact gP) ?_; clear HF A18_; intro w_ HF)) | (refine oA ?_)) <;> (iterate 3 refine sA ?_) <;> (apply lend))
    | ((with_reducible refine gA 2 ?_) <;> (refine sA ?_) <;> (apply lend))
    | ((with_reducible refine gA 3 ?_) <;> (iterate 8 refine sA ?_) <;> (apply lend))
    | ((with_reducible refine gA 4 ?_) <;> (refine sA ?_) <;> (apply lend))
    | ((with_reducible refine gA 5 ?_) <;> (refine sA ?_) <;> (apply lend))
    | ((with_reducible refine gA 6 ?_) <;> (iterate 8 refine sA ?_) <;> (apply lend))
    | (((with_reducible refine gate_region (id := 7) ?_); have HG := HF; refine HG.region2 HF (by kernel_rfl) rfl ?_; clear HF HG; intro w_ HF HG) <;> ((replace HH := bA HH); obtain ⟨_, A43_, HH⟩ := HH) <;> ((replace HH := bA HH); obtain ⟨_, A45_, HH⟩ := HH) <;> ((replace HH := bA HH); obtain ⟨_, A46_, HH⟩ := HH) <;> (refine dA 0 ?_; refine dA 1 ?_; refine dA 7 ?_; refine dA 8 ?_; refine dA 10 ?_) <;> ((apply maplit HG HF 126 3 3 (LL := fun m b1 b2 b3 c => #[true, true, m, b1, b2, b3, false, true, true, false, true, c, false, false]) (jm := 2) (j1 := 3) (j2 := 4) (j3 := 5) (jc := 11) (M := 39) (C := 45) (X := 44) (f := 109) (k1 := 1) (k2 := 2) (k3 := 3) (v1 := 6) (v2 := 17) (v3 := 58) rfl rfl rfl rfl rfl rfl rfl rfl rfl rfl rfl rfl rfl rfl rfl rfl rfl rfl rfl rfl rfl Tryz.underlying126 Tryz.underlying3 Tryz.underlying3 (by decide) (by decide) Tryz.func109 (by kernel_rfl) rfl (by decide) (by decide) (Nat.le_of_ble_eq_true rfl) (hX := ?_) (by decide) (hcall := ?_) (by intro m_ b1_ b2_ b3_ c_ h1_ h2_; cases m_ <;> cases b1_ <;> cases b2_ <;> cases b3_ <;> cases c_ <;> first | exact absurd h1_ (by decide) | exact absurd h2_ (by decide) | kernel_rfl) (by intro z0_; cases z0_ <;> rfl) (by intro z0_ z1_ z2_; cases z0_ <;> cases z1_ <;> cases z2_ <;> rfl) (by intro z0_ z1_ z2_; cases z0_ <;> cases z1_ <;> cases z2_ <;> rfl) (by intro z0_ z1_ z2_; cases z0_ <;> cases z1_ <;> cases z2_ <;> rfl) (by intro z0_ z1_ z2_ z3_; cases z0_ <;> cases z1_ <;> cases z2_ <;> cases z3_ <;> rfl) (he := ?_) (hx := ?_); rotate_left 3; (focus (intro W_ F_; (with_reducible apply Calls.mono); (with_reducible apply impl_UpperSize.calls (h := A45_.out)); exact (Kd.C_below HR0_12.out F_.below); exact HC0_12.out; exact (Kd.C_below HR0_13.out F_.below); exact HC0_13.out; rintro e_ w_ ⟨rfl, hb_⟩; exact ⟨rfl, hb_⟩)); rotate_left 2; (focus (rfl))) <;> (first | ((intro tg_; have tt_ : Tg1 := tg_; clear tg_ tt_ HF HG; intro B_ n_ D_ w_ HF HG hO_ m1_ m2_ m3_; have HM39 := Aside0.mk hO_; have M1_ := Aside0.mk m1_; have M2_ := Aside0.mk m2_; have M3_ := Aside0.mk m3_; clear hO_ m1_ m2_ m3_ A45_; refine mA ?_) <;> (refine qA 6 ?_) <;> (apply rlook HF 9 rfl rfl rfl rfl (by kernel_rfl) (by simp) rfl rfl HM39.out Tryz.underlying126 Tryz.underlying3 Tryz.underlying3 (Tryz.zeroValue3 _) (look3 (map3 A43_.out) M1_.out M2_.out M3_.out).2 (look3 (map3 A43_.out) M1_.out M2_.out M3_.out).1; clear A43_; refine mA ?_) <;> (apply rcA 12 Tryz.func108 (by kernel_rfl) rfl (by kernel_rfl) rfl rfl rfl rfl (by simp); (with_reducible apply impl_pseudoSum.calls (h := A46_.out)); rintro e w_ ⟨rfl, hb_⟩; replace HM39 := Aside0.mk (ownsMap_below HM39.out hb_); refine ⟨_, rfl, HF.call hb_, ?_⟩; replace HG := HG.call hb_; clear HF hb_; intro HF; rotate_left; exact hA; clear A46_; refine mA ?_) <;> (refine qA 13 ?_) <;> (refine done_ (by kernel_rfl) ?_; clear HF; have HF := HG; clear HG)) | ((intro tg_; have tt_ : Tg2 := tg_; clear tg_ tt_ HF HG; intro B_ n_ D_ w_ HF HG hO_ m1_ m2_ m3_; have HM39 := Aside0.mk hO_; have M1_ := Aside0.mk m1_; have M2_ := Aside0.mk m2_; have M3_ := Aside0.mk m3_; clear hO_ m1_ m2_ m3_; refine mA ?_) <;> (refine qA 6 ?_) <;> (refine two 9 11 ?_ ?_ <;> (first | ((apply arm_look HF rfl rfl rfl rfl rfl HM39.out Tryz.underlying126 Tryz.underlying3 Tryz.underlying3 (Tryz.zeroValue3 _) (look3 (map3 A43_.out) M1_.out M2_.out M3_.out).2 (look3 (map3 A43_.out) M1_.out M2_.out M3_.out).1; clear A43_; refine mA ?_) <;> (apply rcA 11 Tryz.func109 (by kernel_rfl) rfl (by kernel_rfl) rfl rfl rfl rfl (by simp); (with_reducible apply impl_UpperSize.calls (h := A45_.out)); exact (Kd.C_below HR0_12.out HG.below); exact HC0_12.out; exact (Kd.C_below HR0_13.out HG.below); exact HC0_13.out; rintro e w_ ⟨rfl, hb_⟩; replace HM39 := Aside0.mk (ownsMap_below HM39.out hb_); refine ⟨_, rfl, HF.call hb_, ?_⟩; replace HG := HG.call hb_; clear HF hb_; intro HF; rotate_left; exact hA; clear A45_; refine mA ?_) <;> (apply rcA 12 Tryz.func108 (by kernel_rfl) rfl (by kernel_rfl) rfl rfl rfl rfl (by simp); (with_reducible apply impl_pseudoSum.calls (h := A46_.out)); rintro e w_ ⟨rfl, hb_⟩; replace HM39 := Aside0.mk (ownsMap_below HM39.out hb_); refine ⟨_, rfl, HF.call hb_, ?_⟩; replace HG := HG.call hb_; clear HF hb_; intro HF; rotate_left; exact hA; clear A46_; refine mA ?_) <;> (refine qA 13 ?_) <;> (refine done_ (by kernel_rfl) ?_; clear HF; have HF := HG; clear HG)) | ((apply arm_call rfl rfl rfl Tryz.func109 (by kernel_rfl) rfl; (with_reducible apply Calls.mono); (with_reducible apply impl_UpperSize.calls (h := A45_.out)); exact (Kd.C_below HR0_12.out HG.below); exact HC0_12.out; exact (Kd.C_below HR0_13.out HG.below); exact HC0_13.out; rintro e w_ ⟨rfl, hb_⟩; replace HM39 := Aside0.mk (ownsMap_below HM39.out hb_); refine ⟨_, rfl, HF.call hb_, ?_⟩; replace HG := HG.call hb_; clear HF hb_; intro HF; rotate_left; exact hA; clear A45_; refine mA ?_) <;> (apply rlook HF 9 rfl rfl rfl rfl (by kernel_rfl) (by simp) rfl rfl HM39.out Tryz.underlying126 Tryz.underlying3 Tryz.underlying3 (Tryz.zeroValue3 _) (look3 (map3 A43_.out) M1_.out M2_.out M3_.out).2 (look3 (map3 A43_.out) M1_.out M2_.out M3_.out).1; clear A43_; refine mA ?_) <;> (apply rcA 12 Tryz.func108 (by kernel_rfl) rfl (by kernel_rfl) rfl rfl rfl rfl (by simp); (with_reducible apply impl_pseudoSum.calls (h := A46_.out)); rintro e w_ ⟨rfl, hb_⟩; replace HM39 := Aside0.mk (ownsMap_below HM39.out hb_); refine ⟨_, rfl, HF.call hb_, ?_⟩; replace HG := HG.call hb_; clear HF hb_; intro HF; rotate_left; exact hA; clear A46_; refine mA ?_) <;> (refine qA 13 ?_) <;> (refine done_ (by kernel_rfl) ?_; clear HF; have HF := HG; clear HG))))))))
    | ((with_reducible refine gA 8 ?_) <;> (iterate 2 refine sA ?_) <;> ((replace HH := bA HH); obtain ⟨_, A49_, HH⟩ := HH) <;> (refine HF.rB Tryz.func112 (by (with_reducible apply impl_Upper_encoded.calls (h := A49_.out)) <;> exact gP) ?_; clear HF A49_; intro Av49_0 cv49_0 w_ HO49_0 HB49 HF; refine nA ?_) <;> ((replace HH := bA HH); obtain ⟨_, A50_, HH⟩ := HH) <;> (refine HF.dB Tryz.func111 (by (with_reducible apply impl_onesSum.calls (h := A50_.out)) <;> exact gP) ?_; clear HF A50_; intro w_ HF) <;> ((replace HH := bA HH); obtain ⟨_, A51_, HH⟩ := HH) <;> (repeat' (with_reducible first | (replace HH := iA HP HH; clear HP; rcases HH with ⟨p, HP, HH⟩ | ⟨p, HP, HH⟩ <;> cases p) | fail)) <;> (refine HF.dB Tryz.func110 (by (with_reducible apply impl_sum.calls (h := A51_.out))) ?_; clear HF A51_; intro w_ HF) <;> (iterate 2 refine sA ?_) <;> (apply lend))
    | ((with_reducible refine gA 9 ?_) <;> (iterate 7 refine sA ?_) <;> (apply lend))
    | ((with_reducible refine gA 10 ?_) <;> (refine sA ?_) <;> (apply lend))
    | ((with_reducible refine gA 11 ?_) <;> (iterate 2 refine sA ?_) <;> (apply lend))
    | go_step | fail))
 all_goals (have h_ := HH.out; clear HH; cases h_ <;> (go_ret; first
   | exact ⟨vE, HF.below⟩))

/-! ### impl_UpperBytes: function 77 -/
def impl_UpperBytes.f (k : Nat) (a0_0 a0_1 a0_2 a0_3 a0_4 a0_5 a0_6 a0_7 a0_8 a0_9 a0_10 : Int) (a0_11 : Bool) (l0_12 l0_13 : List Int) (a1_0 a1_1 a1_2 a1_3 a1_4 a2_0 a2_1 a2_2 a2_3 a2_4 : Int) : Option (List Int) := (impl_UpperSum.f k a0_0 a0_1 a0_2 a0_3 a0_4 a0_5 a0_6 a0_7 a0_8 a0_9 a0_10 a0_11 l0_12 l0_13 a1_0 a1_1 a1_2 a1_3 a1_4 a2_0 a2_1 a2_2 a2_3 a2_4).bind fun t956 => (if t956 < 0 then (some ([] : List Int)) else ((impl_Upper_encoded.f k a0_0 a0_1 a0_2 a0_3 a0_4 a0_5 a0_6 a0_7 a0_8 a0_9 a0_10 a0_11 l0_12 l0_13 t956).bind fun t957 => (some t957)))
theorem impl_UpperBytes.calls (k : Nat) (a0_0 a0_1 a0_2 a0_3 a0_4 a0_5 a0_6 a0_7 a0_8 a0_9 a0_10 : Int) (a0_11 : Bool) (A0_12 : Option Addr) (c0_12 : Nat) (l0_12 : List Int) (A0_13 : Option Addr) (c0_13 : Nat) (l0_13 : List Int) (a1_0 a1_1 a1_2 a1_3 a1_4 a2_0 a2_1 a2_2 a2_3 a2_4 : Int) (r : List Int) (w : World) (hr0_12 : Kd.C (Kd.int .u8) w A0_12 l0_12.length l0_12) (hc0_12 : l0_12.length ≤ c0_12) (hr0_13 : Kd.C (Kd.int .u8) w A0_13 l0_13.length l0_13) (hc0_13 : l0_13.length ≤ c0_13) (h : impl_UpperBytes.f k a0_0 a0_1 a0_2 a0_3 a0_4 a0_5 a0_6 a0_7 a0_8 a0_9 a0_10 a0_11 l0_12 l0_13 a1_0 a1_1 a1_2 a1_3 a1_4 a2_0 a2_1 a2_2 a2_3 a2_4 = some r) :
  Calls Tryz.prog 77 #[.agg #[.int .i64 a0_0, .int .i64 a0_1, .int .i64 a0_2, .int .i64 a0_3, .int .i64 a0_4, .int .i64 a0_5, .int .i64 a0_6, .int .i64 a0_7, .int .i64 a0_8, .int .i64 a0_9, .int .i64 a0_10, .bool a0_11, .slice A0_12 l0_12.length c0_12, .slice A0_13 l0_13.length c0_13], .agg #[.int .i64 a1_0, .int .i64 a1_1, .int .i64 a1_2, .int .i64 a1_3, .int .i64 a1_4], .agg #[.int .i64 a2_0, .int .i64 a2_1, .int .i64 a2_2, .int .i64 a2_3, .int .i64 a2_4]] w fun e w' => ∃ v0_ : Value, e = .returned (v0_) ∧ Kd.R (Kd.int .u8) 5 w' w.heap.size (fun _ => True) v0_ r ∧ Below w.heap.size w w' := by
 have HR0_12 := Aside0.mk hr0_12
 have HC0_12 := Aside0.mk hc0_12
 have HR0_13 := Aside0.mk hr0_13
 have HC0_13 := Aside0.mk hc0_13
 clear hr0_12 hc0_12 hr0_13 hc0_13
 have HF := Fr.start [39, 45] w
 have HP := Aside0.mk True.intro
 unfold impl_UpperBytes.f at h
 have HH := Aside0.mk h
 clear h
 go_enter Tryz.func77, Tryz.ntmps77
 all_goals (repeat' (first
    | ((with_reducible refine gA 0 ?_) <;> (refine HF.bA ?_; clear HF; intro g_ w_ HF; refine nA ?_) <;> (refine HF.bA ?_; clear HF; intro g_ w_ HF; refine nA ?_) <;> (refine HF.bA ?_; clear HF; intro g_ w_ HF; refine nA ?_) <;> (refine sA ?_) <;> (apply lend))
    | ((with_reducible refine gA 1 ?_) <;> (iterate 3 refine sA ?_) <;> ((replace HH := bA HH); obtain ⟨_, A11_, HH⟩ := HH) <;> (repeat' (with_reducible first | (replace HH := iA HP HH; clear HP; rcases HH with ⟨p, HP, HH⟩ | ⟨p, HP, HH⟩) | fail)) <;> (refine HF.cB Tryz.func76 (by (with_reducible apply impl_UpperSum.calls (h := A11_.out)) <;> exact gP) ?_; clear HF A11_; intro w_ HF) <;> (refine sA ?_) <;> (apply lend))
    | ((with_reducible refine gA 2 ?_) <;> (iterate 2 refine sA ?_) <;> (apply lend))
    | ((with_reducible refine gA 3 ?_) <;> (refine sA ?_) <;> (apply lend))
    | ((with_reducible refine gA 4 ?_) <;> (iterate 2 refine sA ?_) <;> ((replace HH := bA HH); obtain ⟨_, A16_, HH⟩ := HH) <;> (refine HF.rB Tryz.func112 (by (with_reducible apply impl_Upper_encoded.calls (h := A16_.out)) <;> exact gP) ?_; clear HF A16_; intro Av16_0 cv16_0 w_ HO16_0 HB16 HF; refine nA ?_) <;> ((refine pA ?_); have HO6_0 := HO16_0) <;> (apply lend))
    | go_step | fail))
 all_goals (have h_ := HH.out; clear HH; cases h_ <;> (go_ret; first
   | exact ⟨_, rfl, (Kd.R_nil _ _ _ _ _), HF.below⟩
   | exact ⟨_, rfl, (rN HF HO6_0), HF.below⟩))

/-! ### impl_isAddrOf: function 117 -/
def impl_isAddrOf.f (a0_0 a0_1 a0_2 a0_3 a0_4 a1 : Int) : Option (Bool) := (impl_AddrOk.f a0_0 a0_1 a0_2 a0_3 a0_4).bind fun t961 => (if t961 = true then (some (a0_0 == a1)) else (some false))
theorem impl_isAddrOf.calls (a0_0 a0_1 a0_2 a0_3 a0_4 a1 : Int) (r : Bool) (w : World) (h : impl_isAddrOf.f a0_0 a0_1 a0_2 a0_3 a0_4 a1 = some r) :
  Calls Tryz.prog 117 #[.agg #[.int .i64 a0_0, .int .i64 a0_1, .int .i64 a0_2, .int .i64 a0_3, .int .i64 a0_4], .int .i64 a1] w fun e w' => e = .returned (.bool r) ∧ Below w.heap.size w w' := by
 have hu39 := Tryz.underlying39
 have HF := Fr.start [39] w
 have HP := Aside0.mk True.intro
 unfold impl_isAddrOf.f at h
 have HH := Aside0.mk h
 clear h
 go_enter Tryz.func117, Tryz.ntmps117
 all_goals (repeat' (first
    | ((with_reducible refine gA 0 ?_) <;> (refine HF.bA ?_; clear HF; intro g_ w_ HF; refine nA ?_) <;> (refine sA ?_) <;> (apply lend))
    | ((with_reducible refine gA 1 ?_) <;> (refine sA ?_) <;> ((replace HH := bA HH); obtain ⟨_, A6_, HH⟩ := HH) <;> (repeat' (with_reducible first | (replace HH := iA HP HH; clear HP; rcases HH with ⟨p, HP, HH⟩ | ⟨p, HP, HH⟩ <;> subst p) | fail)) <;> (refine HF.cB Tryz.func128 (by (with_reducible apply impl_AddrOk.calls (h := A6_.out))) ?_; clear HF A6_; intro w_ HF) <;> (iterate 7 refine sA ?_) <;> (apply lend))
    | go_step | fail))
 all_goals (have h_ := HH.out; clear HH; cases h_ <;> (go_ret; first
   | exact ⟨vE, HF.below⟩))

/-! ### impl_fourHead: function 133 -/
def impl_fourHead.f (a0_0 a0_1 a0_2 a0_3 a0_4 a0_5 a0_6 a0_7 a0_8 a0_9 a0_10 a0_11 a0_12 a0_13 a0_14 a0_15 a0_16 : Int) (l0_17 l0_18 : List Int) : Option (Int) := some (wrap64 (20 + (l0_17.length : Int)))
theorem impl_fourHead.calls (a0_0 a0_1 a0_2 a0_3 a0_4 a0_5 a0_6 a0_7 a0_8 a0_9 a0_10 a0_11 a0_12 a0_13 a0_14 a0_15 a0_16 : Int) (A0_17 : Option Addr) (c0_17 : Nat) (l0_17 : List Int) (A0_18 : Option Addr) (c0_18 : Nat) (l0_18 : List Int) (r : Int) (w : World) (hr0_17 : Kd.C (Kd.int .u8) w A0_17 l0_17.length l0_17) (hc0_17 : l0_17.length ≤ c0_17) (hr0_18 : Kd.C (Kd.int .u8) w A0_18 l0_18.length l0_18) (hc0_18 : l0_18.length ≤ c0_18) (h : impl_fourHead.f a0_0 a0_1 a0_2 a0_3 a0_4 a0_5 a0_6 a0_7 a0_8 a0_9 a0_10 a0_11 a0_12 a0_13 a0_14 a0_15 a0_16 l0_17 l0_18 = some r) :
  Calls Tryz.prog 133 #[.agg #[.int .i64 a0_0, .int .i64 a0_1, .int .i64 a0_2, .int .i64 a0_3, .int .i64 a0_4, .int .i64 a0_5, .int .i64 a0_6, .int .i64 a0_7, .int .i64 a0_8, .int .i64 a0_9, .int .i64 a0_10, .int .i64 a0_11, .int .i64 a0_12, .int .i64 a0_13, .int .i64 a0_14, .int .i64 a0_15, .int .i64 a0_16, .slice A0_17 l0_17.length c0_17, .slice A0_18 l0_18.length c0_18]] w fun e w' => e = .returned (.int .i64 r) ∧ Below w.heap.size w w' := by
 have hu22 := Tryz.underlying22
 have hu41 := Tryz.underlying41
 have HR0_17 := Aside0.mk hr0_17
 have HC0_17 := Aside0.mk hc0_17
 have HR0_18 := Aside0.mk hr0_18
 have HC0_18 := Aside0.mk hc0_18
 clear hr0_17 hc0_17 hr0_18 hc0_18
 have HF := Fr.start [41] w
 have HP := Aside0.mk True.intro
 unfold impl_fourHead.f at h
 have HH := Aside0.mk h
 clear h
 go_enter Tryz.func133, Tryz.ntmps133
 all_goals (repeat' (first
    | ((with_reducible refine gA 0 ?_) <;> (refine HF.bA ?_; clear HF; intro g_ w_ HF; refine nA ?_) <;> (refine sA ?_) <;> (apply lend))
    | ((with_reducible refine gA 1 ?_) <;> (iterate 5 refine sA ?_) <;> (apply lend))
    | go_step | fail))
 all_goals (have h_ := HH.out; clear HH; cases h_ <;> (go_ret; first
   | exact ⟨vE, HF.below⟩))

/-! ### impl_fourSize: function 118 -/
def impl_fourSize.f (a0_0 a0_1 a0_2 a0_3 a0_4 a0_5 a0_6 a0_7 a0_8 a0_9 a0_10 a0_11 a0_12 a0_13 a0_14 a0_15 a0_16 : Int) (l0_17 l0_18 : List Int) : Option (Int) := (impl_fourHead.f a0_0 a0_1 a0_2 a0_3 a0_4 a0_5 a0_6 a0_7 a0_8 a0_9 a0_10 a0_11 a0_12 a0_13 a0_14 a0_15 a0_16 l0_17 l0_18).bind fun t964 => (some (wrap64 (t964 + (l0_18.length : Int))))
theorem impl_fourSize.calls (a0_0 a0_1 a0_2 a0_3 a0_4 a0_5 a0_6 a0_7 a0_8 a0_9 a0_10 a0_11 a0_12 a0_13 a0_14 a0_15 a0_16 : Int) (A0_17 : Option Addr) (c0_17 : Nat) (l0_17 : List Int) (A0_18 : Option Addr) (c0_18 : Nat) (l0_18 : List Int) (r : Int) (w : World) (hr0_17 : Kd.C (Kd.int .u8) w A0_17 l0_17.length l0_17) (hc0_17 : l0_17.length ≤ c0_17) (hr0_18 : Kd.C (Kd.int .u8) w A0_18 l0_18.length l0_18) (hc0_18 : l0_18.length ≤ c0_18) (h : impl_fourSize.f a0_0 a0_1 a0_2 a0_3 a0_4 a0_5 a0_6 a0_7 a0_8 a0_9 a0_10 a0_11 a0_12 a0_13 a0_14 a0_15 a0_16 l0_17 l0_18 = some r) :
  Calls Tryz.prog 118 #[.agg #[.int .i64 a0_0, .int .i64 a0_1, .int .i64 a0_2, .int .i64 a0_3, .int .i64 a0_4, .int .i64 a0_5, .int .i64 a0_6, .int .i64 a0_7, .int .i64 a0_8, .int .i64 a0_9, .int .i64 a0_10, .int .i64 a0_11, .int .i64 a0_12, .int .i64 a0_13, .int .i64 a0_14, .int .i64 a0_15, .int .i64 a0_16, .slice A0_17 l0_17.length c0_17, .slice A0_18 l0_18.length c0_18]] w fun e w' => e = .returned (.int .i64 r) ∧ Below w.heap.size w w' := by
 have hu22 := Tryz.underlying22
 have hu41 := Tryz.underlying41
 have HR0_17 := Aside0.mk hr0_17
 have HC0_17 := Aside0.mk hc0_17
 have HR0_18 := Aside0.mk hr0_18
 have HC0_18 := Aside0.mk hc0_18
 clear hr0_17 hc0_17 hr0_18 hc0_18
 have HF := Fr.start [41] w
 have HP := Aside0.mk True.intro
 unfold impl_fourSize.f at h
 have HH := Aside0.mk h
 clear h
 go_enter Tryz.func118, Tryz.ntmps118
 all_goals (repeat' (first
    | ((with_reducible refine gA 0 ?_) <;> (refine HF.bA ?_; clear HF; intro g_ w_ HF; refine nA ?_) <;> (refine sA ?_) <;> (apply lend))
    | (((with_reducible refine gate_region (id := 1) ?_); have HG := HF; refine HG.region2 HF (by kernel_rfl) rfl ?_; clear HF HG; intro w_ HF HG) <;> ((replace HH := bA HH); obtain ⟨_, A4_, HH⟩ := HH) <;> (refine dA 0 ?_; refine dA 2 ?_; refine dA 3 ?_; refine dA 4 ?_) <;> (refine HF.cD HG 1 Tryz.func133 (by (with_reducible apply impl_fourHead.calls (h := A4_.out)) <;> exact gP) ?_; clear HF HG A4_; intro w_ HG HF) <;> (refine dA 5 ?_; refine dA 6 ?_) <;> (refine done_ (by kernel_rfl) ?_; clear HF; have HF := HG; clear HG))
    | go_step | fail))
 all_goals (have h_ := HH.out; clear HH; cases h_ <;> (go_ret; first
   | exact ⟨vE, HF.below⟩))

/-! ### impl_FourOk: function 81 -/
def impl_FourOk.f (a0_0 a0_1 a0_2 a0_3 a0_4 a0_5 a0_6 a0_7 a0_8 a0_9 a0_10 a0_11 a0_12 a0_13 a0_14 a0_15 a0_16 : Int) (l0_17 l0_18 : List Int) : Option (Bool) := (impl_within.f a0_0 0 63).bind fun t966 => (if t966 = true then ((impl_within.f a0_1 0 3).bind fun t967 => (if t967 = true then ((impl_isWord.f a0_2).bind fun t968 => (if t968 = true then ((impl_within.f a0_3 0 7).bind fun t969 => (if t969 = true then ((impl_within.f a0_4 0 8191).bind fun t970 => (if t970 = true then ((impl_isByte.f a0_5).bind fun t971 => (if t971 = true then ((impl_isByte.f a0_6).bind fun t972 => (if t972 = true then ((impl_isAddrOf.f a0_7 a0_8 a0_9 a0_10 a0_11 4).bind fun t973 => (if t973 = true then ((impl_isAddrOf.f a0_12 a0_13 a0_14 a0_15 a0_16 4).bind fun t974 => (if t974 = true then (if (l0_17.length : Int) ≤ 40 then (if ((l0_17.length : Int) % 4) = 0 then ((impl_fourSize.f a0_0 a0_1 a0_2 a0_3 a0_4 a0_5 a0_6 a0_7 a0_8 a0_9 a0_10 a0_11 a0_12 a0_13 a0_14 a0_15 a0_16 l0_17 l0_18).bind fun t975 => (some (decide (t975 ≤ 1500)))) else (some false)) else (some false)) else (some false))) else (some false))) else (some false))) else (some false))) else (some false))) else (some false))) else (some false))) else (some false))) else (some false))
theorem impl_FourOk.calls (a0_0 a0_1 a0_2 a0_3 a0_4 a0_5 a0_6 a0_7 a0_8 a0_9 a0_10 a0_11 a0_12 a0_13 a0_14 a0_15 a0_16 : Int) (A0_17 : Option Addr) (c0_17 : Nat) (l0_17 : List Int) (A0_18 : Option Addr) (c0_18 : Nat) (l0_18 : List Int) (r : Bool) (w : World) (hr0_17 : Kd.C (Kd.int .u8) w A0_17 l0_17.length l0_17) (hc0_17 : l0_17.length ≤ c0_17) (hr0_18 : Kd.C (Kd.int .u8) w A0_18 l0_18.length l0_18) (hc0_18 : l0_18.length ≤ c0_18) (h : impl_FourOk.f a0_0 a0_1 a0_2 a0_3 a0_4 a0_5 a0_6 a0_7 a0_8 a0_9 a0_10 a0_11 a0_12 a0_13 a0_14 a0_15 a0_16 l0_17 l0_18 = some r) :
  Calls Tryz.prog 81 #[.agg #[.int .i64 a0_0, .int .i64 a0_1, .int .i64 a0_2, .int .i64 a0_3, .int .i64 a0_4, .int .i64 a0_5, .int .i64 a0_6, .int .i64 a0_7, .int .i64 a0_8, .int .i64 a0_9, .int .i64 a0_10, .int .i64 a0_11, .int .i64 a0_12, .int .i64 a0_13, .int .i64 a0_14, .int .i64 a0_15, .int .i64 a0_16, .slice A0_17 l0_17.length c0_17, .slice A0_18 l0_18.length c0_18]] w fun e w' => e = .returned (.bool r) ∧ Below w.heap.size w w' := by
 have hu22 := Tryz.underlying22
 have hu41 := Tryz.underlying41
 have HR0_17 := Aside0.mk hr0_17
 have HC0_17 := Aside0.mk hc0_17
 have HR0_18 := Aside0.mk hr0_18
 have HC0_18 := Aside0.mk hc0_18
 clear hr0_17 hc0_17 hr0_18 hc0_18
 have HF := Fr.start [41] w
 have HP := Aside0.mk True.intro
 unfold impl_FourOk.f at h
 have HH := Aside0.mk h
 clear h
 go_enter Tryz.func81, Tryz.ntmps81
 all_goals (repeat' (first
    | ((with_reducible refine gA 0 ?_) <;> (refine HF.bA ?_; clear HF; intro g_ w_ HF; refine nA ?_) <;> (refine sA ?_) <;> (apply lend))
    | ((with_reducible refine gA 1 ?_) <;> (iterate 2 refine sA ?_) <;> ((replace HH := bA HH); obtain ⟨_, A5_, HH⟩ := HH) <;> (repeat' (with_reducible first | (replace HH := iA HP HH; clear HP; rcases HH with ⟨p, HP, HH⟩ | ⟨p, HP, HH⟩ <;> subst p) | fail)) <;> (refine HF.dB Tryz.func85 (by (with_reducible apply impl_within.calls (h := A5_.out))) ?_; clear HF A5_; intro w_ HF) <;> (iterate 4 refine sA ?_) <;> (first | (((replace HH := bA HH); obtain ⟨_, A10_, HH⟩ := HH) <;> (repeat' (with_reducible first | (replace HH := iA HP HH; clear HP; rcases HH with ⟨p, HP, HH⟩ | ⟨p, HP, HH⟩ <;> subst p) | fail)) <;> (refine HF.dB Tryz.func85 (by (with_reducible apply impl_within.calls (h := A10_.out))) ?_; clear HF A10_; intro w_ HF)) | (refine oA ?_)) <;> (iterate 5 refine sA ?_) <;> (first | (((replace HH := bA HH); obtain ⟨_, A16_, HH⟩ := HH) <;> (repeat' (with_reducible first | (replace HH := iA HP HH; clear HP; rcases HH with ⟨p, HP, HH⟩ | ⟨p, HP, HH⟩ <;> subst p) | fail)) <;> (refine HF.dB Tryz.func116 (by (with_reducible apply impl_isWord.calls (h := A16_.out))) ?_; clear HF A16_; intro w_ HF)) | (refine oA ?_)) <;> (iterate 5 refine sA ?_) <;> (first | (((replace HH := bA HH); obtain ⟨_, A22_, HH⟩ := HH) <;> (repeat' (with_reducible first | (replace HH := iA HP HH; clear HP; rcases HH with ⟨p, HP, HH⟩ | ⟨p, HP, HH⟩ <;> subst p) | fail)) <;> (refine HF.dB Tryz.func85 (by (with_reducible apply impl_within.calls (h := A22_.out))) ?_; clear HF A22_; intro w_ HF)) | (refine oA ?_)) <;> (iterate 5 refine sA ?_) <;> (first | (((replace HH := bA HH); obtain ⟨_, A28_, HH⟩ := HH) <;> (repeat' (with_reducible first | (replace HH := iA HP HH; clear HP; rcases HH with ⟨p, HP, HH⟩ | ⟨p, HP, HH⟩ <;> subst p) | fail)) <;> (refine HF.dB Tryz.func85 (by (with_reducible apply impl_within.calls (h := A28_.out))) ?_; clear HF A28_; intro w_ HF)) | (refine oA ?_)) <;> (iterate 5 refine sA ?_) <;> (first | (((replace HH := bA HH); obtain ⟨_, A34_, HH⟩ := HH) <;> (repeat' (with_reducible first | (replace HH := iA HP HH; clear HP; rcases HH with ⟨p, HP, HH⟩ | ⟨p, HP, HH⟩ <;> subst p) | fail)) <;> (refine HF.dB Tryz.func113 (by (with_reducible apply impl_isByte.calls (h := A34_.out))) ?_; clear HF A34_; intro w_ HF)) | (refine oA ?_)) <;> (iterate 5 refine sA ?_) <;> (first | (((replace HH := bA HH); obtain ⟨_, A40_, HH⟩ := HH) <;> (repeat' (with_reducible first | (replace HH := iA HP HH; clear HP; rcases HH with ⟨p, HP, HH⟩ | ⟨p, HP, HH⟩ <;> subst p) | fail)) <;> (refine HF.dB Tryz.func113 (by (with_reducible apply impl_isByte.calls (h := A40_.out))) ?_; clear HF A40_; intro w_ HF)) | (refine oA ?_)) <;> (iterate 2 refine sA ?_) <;> (apply lend))
    | ((with_reducible refine gA 2 ?_) <;> (refine sA ?_) <;> (apply lend))
    | ((with_reducible refine gA 3 ?_) <;> (iterate 2 refine sA ?_) <;> ((replace HH := bA HH); obtain ⟨_, A45_, HH⟩ := HH) <;> (repeat' (with_reducible first | (replace HH := iA HP HH; clear HP; rcases HH with ⟨p, HP, HH⟩ | ⟨p, HP, HH⟩ <;> subst p) | fail)) <;> (refine HF.cB Tryz.func117 (by (with_reducible apply impl_isAddrOf.calls (h := A45_.out))) ?_; clear HF A45_; intro w_ HF) <;> (iterate 3 refine sA ?_) <;> (first | (((replace HH := bA HH); obtain ⟨_, A49_, HH⟩ := HH) <;> (repeat' (with_reducible first | (replace HH := iA HP HH; clear HP; rcases HH with ⟨p, HP, HH⟩ | ⟨p, HP, HH⟩ <;> first | subst p | cases p | skip) | fail)) <;> (refine HF.cB Tryz.func117 (by (with_reducible apply impl_isAddrOf.calls (h := A49_.out))) ?_; clear HF A49_; intro w_ HF)) | (refine oA ?_)) <;> (iterate 16 refine sA ?_) <;> (first | (((replace HH := bA HH); obtain ⟨_, A66_, HH⟩ := HH) <;> (refine HF.cB Tryz.func118 (by (with_reducible apply impl_fourSize.calls (h := A66_.out)) <;> exact gP) ?_; clear HF A66_; intro w_ HF)) | (refine oA ?_)) <;> (iterate 3 refine sA ?_) <;> (apply lend))
    | go_step | fail))
 all_goals (have h_ := HH.out; clear HH; cases h_ <;> (go_ret; first
   | exact ⟨vE, HF.below⟩))

/-! ### impl_FourPiece: function 78 -/
def impl_FourPiece.f (a0_0 a0_1 a0_2 a0_3 a0_4 a0_5 a0_6 a0_7 a0_8 a0_9 a0_10 a0_11 a0_12 a0_13 a0_14 a0_15 a0_16 : Int) (l0_17 l0_18 : List Int) : Option (Bool) := (impl_FourOk.f a0_0 a0_1 a0_2 a0_3 a0_4 a0_5 a0_6 a0_7 a0_8 a0_9 a0_10 a0_11 a0_12 a0_13 a0_14 a0_15 a0_16 l0_17 l0_18).bind fun t977 => (if t977 = true then (if a0_4 = 0 then (some ((Int.tmod a0_3 2) == 1)) else (some true)) else (some false))
theorem impl_FourPiece.calls (a0_0 a0_1 a0_2 a0_3 a0_4 a0_5 a0_6 a0_7 a0_8 a0_9 a0_10 a0_11 a0_12 a0_13 a0_14 a0_15 a0_16 : Int) (A0_17 : Option Addr) (c0_17 : Nat) (l0_17 : List Int) (A0_18 : Option Addr) (c0_18 : Nat) (l0_18 : List Int) (r : Bool) (w : World) (hr0_17 : Kd.C (Kd.int .u8) w A0_17 l0_17.length l0_17) (hc0_17 : l0_17.length ≤ c0_17) (hr0_18 : Kd.C (Kd.int .u8) w A0_18 l0_18.length l0_18) (hc0_18 : l0_18.length ≤ c0_18) (h : impl_FourPiece.f a0_0 a0_1 a0_2 a0_3 a0_4 a0_5 a0_6 a0_7 a0_8 a0_9 a0_10 a0_11 a0_12 a0_13 a0_14 a0_15 a0_16 l0_17 l0_18 = some r) :
  Calls Tryz.prog 78 #[.agg #[.int .i64 a0_0, .int .i64 a0_1, .int .i64 a0_2, .int .i64 a0_3, .int .i64 a0_4, .int .i64 a0_5, .int .i64 a0_6, .int .i64 a0_7, .int .i64 a0_8, .int .i64 a0_9, .int .i64 a0_10, .int .i64 a0_11, .int .i64 a0_12, .int .i64 a0_13, .int .i64 a0_14, .int .i64 a0_15, .int .i64 a0_16, .slice A0_17 l0_17.length c0_17, .slice A0_18 l0_18.length c0_18]] w fun e w' => e = .returned (.bool r) ∧ Below w.heap.size w w' := by
 have hu41 := Tryz.underlying41
 have HR0_17 := Aside0.mk hr0_17
 have HC0_17 := Aside0.mk hc0_17
 have HR0_18 := Aside0.mk hr0_18
 have HC0_18 := Aside0.mk hc0_18
 clear hr0_17 hc0_17 hr0_18 hc0_18
 have HF := Fr.start [41] w
 have HP := Aside0.mk True.intro
 unfold impl_FourPiece.f at h
 have HH := Aside0.mk h
 clear h
 go_enter Tryz.func78, Tryz.ntmps78
 all_goals (repeat' (first
    | ((with_reducible refine gA 0 ?_) <;> (refine HF.bA ?_; clear HF; intro g_ w_ HF; refine nA ?_) <;> (refine sA ?_) <;> (apply lend))
    | ((with_reducible refine gA 1 ?_) <;> (refine sA ?_) <;> ((replace HH := bA HH); obtain ⟨_, A4_, HH⟩ := HH) <;> (repeat' (with_reducible first | (replace HH := iA HP HH; clear HP; rcases HH with ⟨p, HP, HH⟩ | ⟨p, HP, HH⟩ <;> first | subst p | cases p) | fail)) <;> (refine HF.cB Tryz.func81 (by (with_reducible apply impl_FourOk.calls (h := A4_.out)) <;> exact gP) ?_; clear HF A4_; intro w_ HF) <;> (iterate 12 refine sA ?_) <;> (apply lend))
    | go_step | fail))
 all_goals (have h_ := HH.out; clear HH; cases h_ <;> (go_ret; first
   | exact ⟨vE, HF.below⟩))

/-! ### impl_UpperKind: function 79 -/
def impl_UpperKind.f (a0 a1 : Int) : Option (Int) := (impl_isByte.f a0).bind fun t978 => (if t978 = true then (if a1 = 4 then (if a0 = 6 then (some 1) else (if a0 = 17 then (some 2) else (if a0 = 1 then (some 3) else (if a0 = 58 then (if a1 = 6 then (some 3) else (some 0)) else (some 0))))) else (if a1 = 6 then (if a0 = 6 then (some 1) else (if a0 = 17 then (some 2) else (if a0 = 1 then (if a0 = 58 then (some 3) else (some 0)) else (if a0 = 58 then (some 3) else (some 0))))) else (some (-1)))) else (some (-1)))
theorem impl_UpperKind.calls (a0 a1 r : Int) (w : World) (h : impl_UpperKind.f a0 a1 = some r) :
  Calls Tryz.prog 79 #[.int .i64 a0, .int .i64 a1] w fun e w' => e = .returned (.int .i64 r) ∧ Below w.heap.size w w' := by
 have HF := Fr.start [] w
 have HP := Aside0.mk True.intro
 unfold impl_UpperKind.f at h
 have HH := Aside0.mk h
 clear h
 go_enter Tryz.func79, Tryz.ntmps79
 all_goals (repeat' (first
    | ((with_reducible refine gA 0 ?_) <;> (refine sA ?_) <;> (apply lend))
    | ((with_reducible refine gA 1 ?_) <;> (refine sA ?_) <;> ((replace HH := bA HH); obtain ⟨_, A7_, HH⟩ := HH) <;> (repeat' (with_reducible first | (replace HH := iA HP HH; clear HP; rcases HH with ⟨p, HP, HH⟩ | ⟨p, HP, HH⟩ <;> first | subst p | cases p) | fail)) <;> (refine HF.dB Tryz.func113 (by (with_reducible apply impl_isByte.calls (h := A7_.out))) ?_; clear HF A7_; intro w_ HF) <;> (iterate 10 refine sA ?_) <;> (apply lend))
    | ((with_reducible refine gA 2 ?_) <;> (refine sA ?_) <;> (apply lend))
    | ((with_reducible refine gA 3 ?_) <;> (iterate 3 refine sA ?_) <;> (apply lend))
    | ((with_reducible refine gA 4 ?_) <;> (refine sA ?_) <;> (apply lend))
    | ((with_reducible refine gA 5 ?_) <;> (iterate 3 refine sA ?_) <;> (apply lend))
    | ((with_reducible refine gA 6 ?_) <;> (refine sA ?_) <;> (apply lend))
    | ((with_reducible refine gA 7 ?_) <;> (iterate 15 refine sA ?_) <;> (apply lend))
    | ((with_reducible refine gA 8 ?_) <;> (refine sA ?_) <;> (apply lend))
    | ((with_reducible refine gA 9 ?_) <;> (refine sA ?_) <;> (apply lend))
    | go_step | fail))
 all_goals (have h_ := HH.out; clear HH; cases h_ <;> (go_ret; first
   | exact ⟨vE, HF.below⟩))

end Go.Proofs.YtffkgndghbdgnaaGreat.FFnExactPacketBytes
