-- Functions and their contracts, written by a program of this claim (wip/tools/oprint.py) out of the translation.
import Derived.Test.YtffkgndghbdgnaaGreatGFnExactPacketSizex5
import Derived.Test.YtffkgndghbdgnaaGreatGFnExactPacketSizex10
namespace Go.Proofs.YtffkgndghbdgnaaGreat.FFnExactPacketSize
open Go.RowKit Go.Proofs.YtffkgndghbdgnaaGreatW.PrintWords Go.Proofs.YtffkgndghbdgnaaGreatW.PrintLast Go.Proofs.YtffkgndghbdgnaaGreatW.PrintMore Go.Proofs.YtffkgndghbdgnaaGreat.Frame
attribute [local go_sem] max2_int min2_int max_two min_two max_three min_three max_four min_four   -- for this text's walks alone
set_option linter.unusedVariables false
set_option maxHeartbeats 8000000
set_option maxRecDepth 100000
set_option linter.unusedSimpArgs false

attribute [local go_sem high] eqA39
/-! ### spec_l05Head: function 97 -/
def spec_l05Head.f (a0_0 a0_1 : Int) (a0_2 a0_3 : Int) (a0_4 a0_5 : Int) (a0_6 a0_7 : Int) (a0_8 a0_9 : Int) (a0_10 a0_11 : Int) (a0_12 a0_13 : Int) (a0_14 a0_15 a0_16 : Int) (l0_17 l0_18 : List Int) (a1 : Int) : Option (List Int) := (some (([(wrap64 (69 + (wrap64 ((l0_17.length : Int) / 4)))) % 256, (wrap64 ((wrap64 (4 * a0_0)) + a0_1)) % 256] : List Int) : List Int)).bind fun y380 => ((spec_Put16.f (wrap64 ((wrap64 (20 + (l0_17.length : Int))) + (l0_18.length : Int)))).bind fun t383 => (if y380.length + t383.length < 140737488355328 then ((some (y380 ++ t383 : List Int)).bind fun y386 => ((spec_Put16.f a0_2).bind fun t389 => (if y386.length + t389.length < 140737488355328 then ((some (y386 ++ t389 : List Int)).bind fun y392 => ((spec_Put16.f (wrap64 ((wrap64 (8192 * a0_3)) + a0_4))).bind fun t395 => (if y392.length + t395.length < 140737488355328 then ((some (y392 ++ t395 : List Int)).bind fun y398 => ((some (([(a0_5) % 256, (a0_6) % 256] : List Int) : List Int)).bind fun y401 => (if y398.length + y401.length < 140737488355328 then ((some (y398 ++ y401 : List Int)).bind fun y404 => ((spec_Put16.f a1).bind fun t407 => (if y404.length + t407.length < 140737488355328 then ((some (y404 ++ t407 : List Int)).bind fun y410 => ((spec_AddrBytes.f a0_7 a0_8 a0_9 a0_10 a0_11).bind fun t413 => (if y410.length + t413.length < 140737488355328 then ((some (y410 ++ t413 : List Int)).bind fun y416 => ((spec_AddrBytes.f a0_12 a0_13 a0_14 a0_15 a0_16).bind fun t419 => (if y416.length + t419.length < 140737488355328 then ((some (y416 ++ t419 : List Int)).bind fun y422 => (if y422.length + l0_17.length < 140737488355328 then (some (y422 ++ l0_17)) else (none))) else (none)))) else (none)))) else (none)))) else (none)))) else (none)))) else (none)))) else (none)))
theorem spec_l05Head.calls (a0_0 a0_1 : Int) (a0_2 a0_3 : Int) (a0_4 a0_5 : Int) (a0_6 a0_7 : Int) (a0_8 a0_9 : Int) (a0_10 a0_11 : Int) (a0_12 a0_13 : Int) (a0_14 a0_15 a0_16 : Int) (A0_17 : Option Addr) (c0_17 : Nat) (l0_17 : List Int) (A0_18 : Option Addr) (c0_18 : Nat) (l0_18 : List Int) (a1 : Int) (r : List Int) (w : World) (hr0_17 : Kd.C (Kd.int .u8) w A0_17 l0_17.length l0_17) (hc0_17 : l0_17.length ≤ c0_17) (hr0_18 : Kd.C (Kd.int .u8) w A0_18 l0_18.length l0_18) (hc0_18 : l0_18.length ≤ c0_18) (h : spec_l05Head.f a0_0 a0_1 a0_2 a0_3 a0_4 a0_5 a0_6 a0_7 a0_8 a0_9 a0_10 a0_11 a0_12 a0_13 a0_14 a0_15 a0_16 l0_17 l0_18 a1 = some r) :
  Calls Tryz.prog 97 #[.agg #[.int .i64 a0_0, .int .i64 a0_1, .int .i64 a0_2, .int .i64 a0_3, .int .i64 a0_4, .int .i64 a0_5, .int .i64 a0_6, .int .i64 a0_7, .int .i64 a0_8, .int .i64 a0_9, .int .i64 a0_10, .int .i64 a0_11, .int .i64 a0_12, .int .i64 a0_13, .int .i64 a0_14, .int .i64 a0_15, .int .i64 a0_16, .slice A0_17 l0_17.length c0_17, .slice A0_18 l0_18.length c0_18], .int .i64 a1] w fun e w' => ∃ v0_ : Value, e = .returned (v0_) ∧ Kd.R (Kd.int .u8) 5 w' w.heap.size (fun _ => True) v0_ r ∧ Below w.heap.size w w' := by
 have hu22 := Tryz.underlying22
 have hu41 := Tryz.underlying41
 have info5_ : (Tryz.prog.info? 5).map (fun i => (i.zero, i.size, i.bytes)) = some (some (.int .u8 0), 1, 1) := by kernel_rfl
 have HR0_17 := Aside0.mk hr0_17
 have HC0_17 := Aside0.mk hc0_17
 have HR0_18 := Aside0.mk hr0_18
 have HC0_18 := Aside0.mk hc0_18
 clear hr0_17 hc0_17 hr0_18 hc0_18
 have HF := Fr.start [41] w
 have HP := Aside0.mk True.intro
 unfold spec_l05Head.f at h
 have HH := Aside0.mk h
 clear h
 go_enter Tryz.func97, Tryz.ntmps97
 repeat' (with_reducible first | exact xE HH | (replace HH := iA HP HH; clear HP; rcases HH with ⟨p, HP, HH⟩ | ⟨p, HP, HH⟩ <;> first | subst p | cases p | skip) | fail)
 all_goals (repeat' (first
    | ((with_reducible refine gA 0 ?_) <;> (refine HF.bA ?_; clear HF; intro g_ w_ HF; refine nA ?_) <;> (refine sA ?_) <;> (apply lend))
    | ((with_reducible refine gA 1 ?_) <;> (iterate 13 refine sA ?_) <;> ((first | (with_reducible replace HH := hcB HH) | skip)) <;> (repeat' (with_reducible first | exact xE HH | (replace HH := iA HP HH; clear HP; rcases HH with ⟨p, HP, HH⟩ | ⟨p, HP, HH⟩ <;> first | subst p | cases p | skip) | fail)) <;> (apply HF.lbuild rfl rfl; (go_simp; first | exact ⟨rfl, rfl⟩ | exact ⟨rfl, rfl, rfl⟩ | rfl); clear HF; intro g_ w_ hg_ hb_ hh_ HF; replace HF := HF.mark; (try simp only [u8_wr, i64_w] at hh_); have HO19_0 := lit_row (k := .u8) (xs := [_, _]) hg_ hh_ (Nat.le_of_ble_eq_true rfl); clear hg_ hb_ hh_; refine nA ?_) <;> ((refine pA ?_); (try clear HO5_0); have HO5_0 := HO19_0) <;> (apply lend))
    | ((with_reducible refine gA 2 ?_; have k_ := HO5_0; clear k_) <;> (iterate 9 refine sA ?_) <;> ((replace HH := bA HH); obtain ⟨_, A29_, HH⟩ := HH; (try dsimp only at HH)) <;> (repeat' (with_reducible first | exact xE HH | (replace HH := iA HP HH; clear HP; rcases HH with ⟨p, HP, HH⟩ | ⟨p, HP, HH⟩ <;> first | subst p | cases p | skip) | fail)) <;> (have HS29 := HF.since; refine HF.rB Tryz.func67 (by (with_reducible apply spec_Put16.calls (h := A29_.out))) ?_; clear HF A29_; intro Av29_0 cv29_0 w_ HO29_0 HB29 HF; refine nA ?_) <;> ((first | ((with_reducible replace HH := bE HH); obtain ⟨_, E30_, HH⟩ := HH) | skip)) <;> (repeat' (with_reducible first | exact xE HH | (replace HH := iA HP HH; clear HP; rcases HH with ⟨p, HP, HH⟩ | ⟨p, HP, HH⟩ <;> first | subst p | cases p | skip) | fail)) <;> (first | (refine HF.aP HO5_0 (HF.r1 HO29_0) E30_.out ?_; clear HF E30_; intro Av30_0 cv30_0 w_ HO30_0 HF; refine nA ?_) | (refine HF.aQ HO5_0 (HF.r1 HO29_0) ?_; clear HF; intro y_ Av30_0 cv30_0 w_ ey_ HO30_0 HF; have EY30 := Aside0.mk ey_.symm; (try rw [ey_] at HH); clear ey_; refine nA ?_)) <;> ((refine pA ?_); (try clear HO5_0); have HO5_0 := HO30_0) <;> (apply lend))
    | ((with_reducible refine gA 3 ?_; have k_ := HO5_0; clear k_) <;> (iterate 3 refine sA ?_) <;> ((replace HH := bA HH); obtain ⟨_, A34_, HH⟩ := HH; (try dsimp only at HH)) <;> (repeat' (with_reducible first | exact xE HH | (replace HH := iA HP HH; clear HP; rcases HH with ⟨p, HP, HH⟩ | ⟨p, HP, HH⟩ <;> first | subst p | cases p | skip) | fail)) <;> (have HS34 := HF.since; refine HF.rB Tryz.func67 (by (with_reducible apply spec_Put16.calls (h := A34_.out))) ?_; clear HF A34_; intro Av34_0 cv34_0 w_ HO34_0 HB34 HF; refine nA ?_) <;> ((first | ((with_reducible replace HH := bE HH); obtain ⟨_, E35_, HH⟩ := HH) | skip)) <;> (repeat' (with_reducible first | exact xE HH | (replace HH := iA HP HH; clear HP; rcases HH with ⟨p, HP, HH⟩ | ⟨p, HP, HH⟩ <;> first | subst p | cases p | skip) | fail)) <;> (first | (refine HF.aP HO5_0 (HF.r1 HO34_0) E35_.out ?_; clear HF E35_; intro Av35_0 cv35_0 w_ HO35_0 HF; refine nA ?_) | (refine HF.aQ HO5_0 (HF.r1 HO34_0) ?_; clear HF; intro y_ Av35_0 cv35_0 w_ ey_ HO35_0 HF; have EY35 := Aside0.mk ey_.symm; (try rw [ey_] at HH); clear ey_; refine nA ?_)) <;> ((refine pA ?_); (try clear HO5_0); have HO5_0 := HO35_0) <;> (apply lend))
    | ((with_reducible refine gA 4 ?_; have k_ := HO5_0; clear k_) <;> (iterate 7 refine sA ?_) <;> ((replace HH := bA HH); obtain ⟨_, A43_, HH⟩ := HH; (try dsimp only at HH)) <;> (repeat' (with_reducible first | exact xE HH | (replace HH := iA HP HH; clear HP; rcases HH with ⟨p, HP, HH⟩ | ⟨p, HP, HH⟩ <;> first | subst p | cases p | skip) | fail)) <;> (have HS43 := HF.since; refine HF.rB Tryz.func67 (by (with_reducible apply spec_Put16.calls (h := A43_.out))) ?_; clear HF A43_; intro Av43_0 cv43_0 w_ HO43_0 HB43 HF; refine nA ?_) <;> ((first | ((with_reducible replace HH := bE HH); obtain ⟨_, E44_, HH⟩ := HH) | skip)) <;> (repeat' (with_reducible first | exact xE HH | (replace HH := iA HP HH; clear HP; rcases HH with ⟨p, HP, HH⟩ | ⟨p, HP, HH⟩ <;> first | subst p | cases p | skip) | fail)) <;> (first | (refine HF.aP HO5_0 (HF.r1 HO43_0) E44_.out ?_; clear HF E44_; intro Av44_0 cv44_0 w_ HO44_0 HF; refine nA ?_) | (refine HF.aQ HO5_0 (HF.r1 HO43_0) ?_; clear HF; intro y_ Av44_0 cv44_0 w_ ey_ HO44_0 HF; have EY44 := Aside0.mk ey_.symm; (try rw [ey_] at HH); clear ey_; refine nA ?_)) <;> ((refine pA ?_); (try clear HO5_0); have HO5_0 := HO44_0) <;> (apply lend))
    | ((with_reducible refine gA 5 ?_; have k_ := HO5_0; clear k_) <;> (iterate 7 refine sA ?_) <;> (with_reducible replace HH := hcB HH) <;> (repeat' (with_reducible first | exact xE HH | (replace HH := iA HP HH; clear HP; rcases HH with ⟨p, HP, HH⟩ | ⟨p, HP, HH⟩ <;> first | subst p | cases p | skip) | fail)) <;> (refine HF.nP ?_; clear HF; intro g_ w_ HL52 HF; (try simp only [u8_wr, i64_w] at HL52); refine nA ?_) <;> ((first | ((with_reducible replace HH := bE HH); obtain ⟨_, E53_, HH⟩ := HH) | skip)) <;> (repeat' (with_reducible first | exact xE HH | (replace HH := iA HP HH; clear HP; rcases HH with ⟨p, HP, HH⟩ | ⟨p, HP, HH⟩ <;> first | subst p | cases p | skip) | fail)) <;> (first | (refine HF.aP HO5_0 (bytesC (xs := [_, _]) (HF.lit HL52 (by simp) (by decide)) (by simp)) E53_.out ?_; clear HF E53_; intro Av53_0 cv53_0 w_ HO53_0 HF; refine nA ?_) | (refine HF.aQ HO5_0 (bytesC (xs := [_, _]) (HF.lit HL52 (by simp) (by decide)) (by simp)) ?_; clear HF; intro y_ Av53_0 cv53_0 w_ ey_ HO53_0 HF; have EY53 := Aside0.mk ey_.symm; (try rw [ey_] at HH); clear ey_; refine nA ?_)) <;> ((refine pA ?_); (try clear HO5_0); have HO5_0 := HO53_0) <;> (apply lend))
    | ((with_reducible refine gA 6 ?_; have k_ := HO5_0; clear k_) <;> (iterate 2 refine sA ?_) <;> ((replace HH := bA HH); obtain ⟨_, A56_, HH⟩ := HH; (try dsimp only at HH)) <;> (repeat' (with_reducible first | exact xE HH | (replace HH := iA HP HH; clear HP; rcases HH with ⟨p, HP, HH⟩ | ⟨p, HP, HH⟩ <;> first | subst p | cases p | skip) | fail)) <;> (have HS56 := HF.since; refine HF.rB Tryz.func67 (by (with_reducible apply spec_Put16.calls (h := A56_.out))) ?_; clear HF A56_; intro Av56_0 cv56_0 w_ HO56_0 HB56 HF; refine nA ?_) <;> ((first | ((with_reducible replace HH := bE HH); obtain ⟨_, E57_, HH⟩ := HH) | skip)) <;> (repeat' (with_reducible first | exact xE HH | (replace HH := iA HP HH; clear HP; rcases HH with ⟨p, HP, HH⟩ | ⟨p, HP, HH⟩ <;> first | subst p | cases p | skip) | fail)) <;> (first | (refine HF.aP HO5_0 (HF.r1 HO56_0) E57_.out ?_; clear HF E57_; intro Av57_0 cv57_0 w_ HO57_0 HF; refine nA ?_) | (refine HF.aQ HO5_0 (HF.r1 HO56_0) ?_; clear HF; intro y_ Av57_0 cv57_0 w_ ey_ HO57_0 HF; have EY57 := Aside0.mk ey_.symm; (try rw [ey_] at HH); clear ey_; refine nA ?_)) <;> ((refine pA ?_); (try clear HO5_0); have HO5_0 := HO57_0) <;> (apply lend))
    | ((with_reducible refine gA 7 ?_; have k_ := HO5_0; clear k_) <;> (iterate 3 refine sA ?_) <;> ((replace HH := bA HH); obtain ⟨_, A61_, HH⟩ := HH; (try dsimp only at HH)) <;> (repeat' (with_reducible first | exact xE HH | (replace HH := iA HP HH; clear HP; rcases HH with ⟨p, HP, HH⟩ | ⟨p, HP, HH⟩ <;> first | subst p | cases p | skip) | fail)) <;> (have HS61 := HF.since; refine HF.rB Tryz.func103 (by (with_reducible apply spec_AddrBytes.calls (h := A61_.out))) ?_; clear HF A61_; intro Av61_0 cv61_0 w_ HO61_0 HB61 HF; refine nA ?_) <;> ((first | ((with_reducible replace HH := bE HH); obtain ⟨_, E62_, HH⟩ := HH) | skip)) <;> (repeat' (with_reducible first | exact xE HH | (replace HH := iA HP HH; clear HP; rcases HH with ⟨p, HP, HH⟩ | ⟨p, HP, HH⟩ <;> first | subst p | cases p | skip) | fail)) <;> (first | (refine HF.aP HO5_0 (HF.r1 HO61_0) E62_.out ?_; clear HF E62_; intro Av62_0 cv62_0 w_ HO62_0 HF; refine nA ?_) | (refine HF.aQ HO5_0 (HF.r1 HO61_0) ?_; clear HF; intro y_ Av62_0 cv62_0 w_ ey_ HO62_0 HF; have EY62 := Aside0.mk ey_.symm; (try rw [ey_] at HH); clear ey_; refine nA ?_)) <;> ((refine pA ?_); (try clear HO5_0); have HO5_0 := HO62_0) <;> (apply lend))
    | ((with_reducible refine gA 8 ?_; have k_ := HO5_0; clear k_) <;> (iterate 3 refine sA ?_) <;> ((replace HH := bA HH); obtain ⟨_, A66_, HH⟩ := HH; (try dsimp only at HH)) <;> (repeat' (with_reducible first | exact xE HH | (replace HH := iA HP HH; clear HP; rcases HH with ⟨p, HP, HH⟩ | ⟨p, HP, HH⟩ <;> first | subst p | cases p | skip) | fail)) <;> (have HS66 := HF.since; refine HF.rB Tryz.func103 (by (with_reducible apply spec_AddrBytes.calls (h := A66_.out))) ?_; clear HF A66_; intro Av66_0 cv66_0 w_ HO66_0 HB66 HF; refine nA ?_) <;> ((first | ((with_reducible replace HH := bE HH); obtain ⟨_, E67_, HH⟩ := HH) | skip)) <;> (repeat' (with_reducible first | exact xE HH | (replace HH := iA HP HH; clear HP; rcases HH with ⟨p, HP, HH⟩ | ⟨p, HP, HH⟩ <;> first | subst p | cases p | skip) | fail)) <;> (first | (refine HF.aP HO5_0 (HF.r1 HO66_0) E67_.out ?_; clear HF E67_; intro Av67_0 cv67_0 w_ HO67_0 HF; refine nA ?_) | (refine HF.aQ HO5_0 (HF.r1 HO66_0) ?_; clear HF; intro y_ Av67_0 cv67_0 w_ ey_ HO67_0 HF; have EY67 := Aside0.mk ey_.symm; (try rw [ey_] at HH); clear ey_; refine nA ?_)) <;> ((refine pA ?_); (try clear HO5_0); have HO5_0 := HO67_0) <;> (apply lend))
    | ((with_reducible refine gA 9 ?_; have k_ := HO5_0; clear k_) <;> (iterate 3 refine sA ?_) <;> ((first | ((with_reducible replace HH := bE HH); obtain ⟨_, E71_, HH⟩ := HH) | skip)) <;> (repeat' (with_reducible first | exact xE HH | (replace HH := iA HP HH; clear HP; rcases HH with ⟨p, HP, HH⟩ | ⟨p, HP, HH⟩ <;> first | subst p | cases p | skip) | fail)) <;> (first | (refine HF.aP HO5_0 (HF.pC HR0_17) E71_.out ?_; clear HF E71_; intro Av71_0 cv71_0 w_ HO71_0 HF; refine nA ?_) | (refine HF.aQ HO5_0 (HF.pC HR0_17) ?_; clear HF; intro y_ Av71_0 cv71_0 w_ ey_ HO71_0 HF; have EY71 := Aside0.mk ey_.symm; (try rw [ey_] at HH); clear ey_; refine nA ?_)) <;> ((refine pA ?_); (try clear HO4_0); have HO4_0 := HO71_0) <;> (apply lend))
    | go_step | fail))
 all_goals (have h_ := HH.out; clear HH; cases h_ <;> (go_ret; first
   | exact ⟨_, rfl, (by first | exact (rN HF HO4_0) | exact R_cast (rN HF HO4_0) EY30.out | exact R_cast (rN HF HO4_0) EY35.out | exact R_cast (rN HF HO4_0) EY44.out | exact R_cast (rN HF HO4_0) EY53.out | exact R_cast (rN HF HO4_0) EY57.out | exact R_cast (rN HF HO4_0) EY62.out | exact R_cast (rN HF HO4_0) EY67.out | exact R_cast (rN HF HO4_0) EY71.out), HF.below⟩))

/-! ### spec_Checksum: function 127 -/
def spec_Checksum.f (k : Nat) (l0 : List Int) : Option (Int) := (spec_OnesSum.f k l0).bind fun t428 => (if t428 < 0 then (some (-1)) else (some (wrap64 (65535 - t428))))
theorem spec_Checksum.calls (k : Nat) (A0 : Option Addr) (c0 : Nat) (l0 : List Int) (r : Int) (w : World) (hr0 : Kd.C (Kd.int .u8) w A0 l0.length l0) (hc0 : l0.length ≤ c0) (h : spec_Checksum.f k l0 = some r) :
  Calls Tryz.prog 127 #[.slice A0 l0.length c0] w fun e w' => e = .returned (.int .i64 r) ∧ Drawn0 w w' := by
 have HR0 := Aside0.mk hr0
 have HC0 := Aside0.mk hc0
 clear hr0 hc0
 have H : ((spec_OnesSum.f k l0).bind fun t428 => (if t428 < 0 then (some (-1)) else (some (wrap64 (65535 - t428))))) = some r := h
 clear h
 replace H := Option.bind_eq_some_iff.mp H
 obtain ⟨t428, A20, H⟩ := H
 replace H : (if t428 < 0 then (some (-1)) else (some (wrap64 (65535 - t428)))) = some r := H
 have A2 := Aside0.mk A20
 clear A20
 by_cases c3 : t428 < 0
 ·rw [if_pos c3] at H
  have c3b0 : decide (t428 < 0) = true := decide_eq_true c3
  clear c3
  obtain rfl := Option.some.inj H
  go_enter Tryz.func127, Tryz.ntmps127
  go_wp2_with (first | ((with_reducible refine gate_callee (f := 93) rfl ?_); refine goesL_ (some 5) rfl rfl Tryz.func93 (by kernel_rfl) rfl #[.slice A0 l0.length c0] rfl (by (try simp only [List.map_toArray, List.map_cons, List.map_nil]); first | done | rfl | (simp only [List.length_drop, List.length_take]; rfl)) ?_; (with_reducible refine (spec_OnesSum.calls k _ _ l0 t428 _ ?side1 ?side2 A2.out).mono ?_); (case side1 => repeat (first | exact HR0.out | (with_reducible refine Kd.C_alloc ?_ _) | (with_reducible refine Kd.C_drewN ?_ _) | (with_reducible refine Kd.C_drew ?_))); (case side2 => exact HC0.out); rintro e w' ⟨rfl, ⟨nd, rfl⟩⟩; refine ⟨_, rfl, ?_⟩))
  go_ret
  exact ⟨vF, vD⟩
 ·rw [if_neg c3] at H
  have c3b0 : decide (t428 < 0) = false := decide_eq_false c3
  clear c3
  obtain rfl := Option.some.inj H
  go_enter Tryz.func127, Tryz.ntmps127
  go_wp2_with (first | ((with_reducible refine gate_callee (f := 93) rfl ?_); refine goesL_ (some 5) rfl rfl Tryz.func93 (by kernel_rfl) rfl #[.slice A0 l0.length c0] rfl (by (try simp only [List.map_toArray, List.map_cons, List.map_nil]); first | done | rfl | (simp only [List.length_drop, List.length_take]; rfl)) ?_; (with_reducible refine (spec_OnesSum.calls k _ _ l0 t428 _ ?side1 ?side2 A2.out).mono ?_); (case side1 => repeat (first | exact HR0.out | (with_reducible refine Kd.C_alloc ?_ _) | (with_reducible refine Kd.C_drewN ?_ _) | (with_reducible refine Kd.C_drew ?_))); (case side2 => exact HC0.out); rintro e w' ⟨rfl, ⟨nd, rfl⟩⟩; refine ⟨_, rfl, ?_⟩))
  go_ret
  exact ⟨vF, vD⟩

/-! ### spec_HeadSum: function 98 -/
def spec_HeadSum.f (k : Nat) (a0_0 a0_1 : Int) (a0_2 a0_3 : Int) (a0_4 a0_5 : Int) (a0_6 a0_7 : Int) (a0_8 a0_9 : Int) (a0_10 a0_11 : Int) (a0_12 a0_13 : Int) (a0_14 a0_15 a0_16 : Int) (l0_17 l0_18 : List Int) : Option (Int) := (spec_FourOk.f a0_0 a0_1 a0_2 a0_3 a0_4 a0_5 a0_6 a0_7 a0_8 a0_9 a0_10 a0_11 a0_12 a0_13 a0_14 a0_15 a0_16 l0_17 l0_18).bind fun t430 => (if t430 = true then ((spec_l05Head.f a0_0 a0_1 a0_2 a0_3 a0_4 a0_5 a0_6 a0_7 a0_8 a0_9 a0_10 a0_11 a0_12 a0_13 a0_14 a0_15 a0_16 l0_17 l0_18 0).bind fun t431 => ((spec_Checksum.f k t431).bind fun t434 => (some t434))) else (some (-1)))
theorem spec_HeadSum.calls (k : Nat) (a0_0 a0_1 : Int) (a0_2 a0_3 : Int) (a0_4 a0_5 : Int) (a0_6 a0_7 : Int) (a0_8 a0_9 : Int) (a0_10 a0_11 : Int) (a0_12 a0_13 : Int) (a0_14 a0_15 a0_16 : Int) (A0_17 : Option Addr) (c0_17 : Nat) (l0_17 : List Int) (A0_18 : Option Addr) (c0_18 : Nat) (l0_18 : List Int) (r : Int) (w : World) (hr0_17 : Kd.C (Kd.int .u8) w A0_17 l0_17.length l0_17) (hc0_17 : l0_17.length ≤ c0_17) (hr0_18 : Kd.C (Kd.int .u8) w A0_18 l0_18.length l0_18) (hc0_18 : l0_18.length ≤ c0_18) (h : spec_HeadSum.f k a0_0 a0_1 a0_2 a0_3 a0_4 a0_5 a0_6 a0_7 a0_8 a0_9 a0_10 a0_11 a0_12 a0_13 a0_14 a0_15 a0_16 l0_17 l0_18 = some r) :
  Calls Tryz.prog 98 #[.agg #[.int .i64 a0_0, .int .i64 a0_1, .int .i64 a0_2, .int .i64 a0_3, .int .i64 a0_4, .int .i64 a0_5, .int .i64 a0_6, .int .i64 a0_7, .int .i64 a0_8, .int .i64 a0_9, .int .i64 a0_10, .int .i64 a0_11, .int .i64 a0_12, .int .i64 a0_13, .int .i64 a0_14, .int .i64 a0_15, .int .i64 a0_16, .slice A0_17 l0_17.length c0_17, .slice A0_18 l0_18.length c0_18]] w fun e w' => e = .returned (.int .i64 r) ∧ Below w.heap.size w w' := by
 have HR0_17 := Aside0.mk hr0_17
 have HC0_17 := Aside0.mk hc0_17
 have HR0_18 := Aside0.mk hr0_18
 have HC0_18 := Aside0.mk hc0_18
 clear hr0_17 hc0_17 hr0_18 hc0_18
 have HF := Fr.start [41] w
 have HP := Aside0.mk True.intro
 unfold spec_HeadSum.f at h
 have HH := Aside0.mk h
 clear h
 go_enter Tryz.func98, Tryz.ntmps98
 repeat' (with_reducible first | exact xE HH | (replace HH := iA HP HH; clear HP; rcases HH with ⟨p, HP, HH⟩ | ⟨p, HP, HH⟩ <;> first | subst p | cases p | skip) | fail)
 all_goals (repeat' (first
    | ((with_reducible refine gA 0 ?_) <;> (refine HF.bA ?_; clear HF; intro g_ w_ HF; refine nA ?_) <;> (refine sA ?_) <;> (apply lend))
    | ((with_reducible refine gA 1 ?_) <;> (refine sA ?_) <;> ((replace HH := bA HH); obtain ⟨_, A4_, HH⟩ := HH; (try dsimp only at HH)) <;> (repeat' (with_reducible first | exact xE HH | (replace HH := iA HP HH; clear HP; rcases HH with ⟨p, HP, HH⟩ | ⟨p, HP, HH⟩ <;> first | subst p | cases p | skip) | fail)) <;> (refine HF.cB Tryz.func60 (by (with_reducible apply spec_FourOk.calls (h := A4_.out)) <;> exact gP) ?_; clear HF A4_; intro w_ HF) <;> (refine sA ?_) <;> (apply lend))
    | ((with_reducible refine gA 2 ?_) <;> (refine sA ?_) <;> (apply lend))
    | ((with_reducible refine gA 3 ?_) <;> (refine sA ?_) <;> ((replace HH := bA HH); obtain ⟨_, A7_, HH⟩ := HH; (try dsimp only at HH)) <;> (repeat' (with_reducible first | exact xE HH | (replace HH := iA HP HH; clear HP; rcases HH with ⟨p, HP, HH⟩ | ⟨p, HP, HH⟩ <;> first | subst p | cases p | skip) | fail)) <;> (refine HF.rB Tryz.func97 (by (with_reducible apply spec_l05Head.calls (h := A7_.out)) <;> exact gP) ?_; clear HF A7_; intro Av7_0 cv7_0 w_ HO7_0 HB7 HF; refine nA ?_) <;> ((replace HH := bA HH); obtain ⟨_, A8_, HH⟩ := HH; (try dsimp only at HH)) <;> (repeat' (with_reducible first | exact xE HH | (replace HH := iA HP HH; clear HP; rcases HH with ⟨p, HP, HH⟩ | ⟨p, HP, HH⟩ <;> first | subst p | cases p | skip) | fail)) <;> (refine HF.dB Tryz.func127 (by (with_reducible apply spec_Checksum.calls (h := A8_.out)) <;> exact gP) ?_; clear HF A8_; intro w_ HF) <;> (refine sA ?_) <;> (apply lend))
    | go_step | fail))
 all_goals (have h_ := HH.out; clear HH; cases h_ <;> (go_ret; first
   | exact ⟨vE, HF.below⟩))

/-! ### spec_FourBytes: function 61 -/
def spec_FourBytes.f (k : Nat) (a0_0 a0_1 : Int) (a0_2 a0_3 : Int) (a0_4 a0_5 : Int) (a0_6 a0_7 : Int) (a0_8 a0_9 : Int) (a0_10 a0_11 : Int) (a0_12 a0_13 : Int) (a0_14 a0_15 a0_16 : Int) (l0_17 l0_18 : List Int) : Option (List Int) := (spec_FourOk.f a0_0 a0_1 a0_2 a0_3 a0_4 a0_5 a0_6 a0_7 a0_8 a0_9 a0_10 a0_11 a0_12 a0_13 a0_14 a0_15 a0_16 l0_17 l0_18).bind fun t436 => (if t436 = true then ((spec_HeadSum.f k a0_0 a0_1 a0_2 a0_3 a0_4 a0_5 a0_6 a0_7 a0_8 a0_9 a0_10 a0_11 a0_12 a0_13 a0_14 a0_15 a0_16 l0_17 l0_18).bind fun t437 => ((spec_l05Head.f a0_0 a0_1 a0_2 a0_3 a0_4 a0_5 a0_6 a0_7 a0_8 a0_9 a0_10 a0_11 a0_12 a0_13 a0_14 a0_15 a0_16 l0_17 l0_18 t437).bind fun t438 => (if t438.length + l0_18.length < 140737488355328 then (some (t438 ++ l0_18)) else (none)))) else (some ([] : List Int)))
def spec_FourBytes.T3 : Bool × List (List Nat × List Nat) := (true, [([], []), ([], []), ([1], [1]), ([0, 2, 2], [0, 2]), ([], []), ([4], [4]), ([3, 5, 3], [3, 5]), ([6, 6, 0, 1, 2, 3, 4, 5, 6], [6])])
def spec_FourBytes.B3 : List Nat := [0, 0, 2, 7, 0, 16, 63, 127]
theorem spec_FourBytes.tab3 : rtab .any (opsOf Tryz.f61 3) = spec_FourBytes.T3 := by kernel_rfl
theorem spec_FourBytes.bits3 : waitsOk spec_FourBytes.T3.2 spec_FourBytes.B3 = true := by kernel_rfl
theorem spec_FourBytes.calls (k : Nat) (a0_0 a0_1 : Int) (a0_2 a0_3 : Int) (a0_4 a0_5 : Int) (a0_6 a0_7 : Int) (a0_8 a0_9 : Int) (a0_10 a0_11 : Int) (a0_12 a0_13 : Int) (a0_14 a0_15 a0_16 : Int) (A0_17 : Option Addr) (c0_17 : Nat) (l0_17 : List Int) (A0_18 : Option Addr) (c0_18 : Nat) (l0_18 r : List Int) (w : World) (hr0_17 : Kd.C (Kd.int .u8) w A0_17 l0_17.length l0_17) (hc0_17 : l0_17.length ≤ c0_17) (hr0_18 : Kd.C (Kd.int .u8) w A0_18 l0_18.length l0_18) (hc0_18 : l0_18.length ≤ c0_18) (h : spec_FourBytes.f k a0_0 a0_1 a0_2 a0_3 a0_4 a0_5 a0_6 a0_7 a0_8 a0_9 a0_10 a0_11 a0_12 a0_13 a0_14 a0_15 a0_16 l0_17 l0_18 = some r) :
  Calls Tryz.prog 61 #[.agg #[.int .i64 a0_0, .int .i64 a0_1, .int .i64 a0_2, .int .i64 a0_3, .int .i64 a0_4, .int .i64 a0_5, .int .i64 a0_6, .int .i64 a0_7, .int .i64 a0_8, .int .i64 a0_9, .int .i64 a0_10, .int .i64 a0_11, .int .i64 a0_12, .int .i64 a0_13, .int .i64 a0_14, .int .i64 a0_15, .int .i64 a0_16, .slice A0_17 l0_17.length c0_17, .slice A0_18 l0_18.length c0_18]] w fun e w' => ∃ v0_ : Value, e = .returned (v0_) ∧ Kd.R (Kd.int .u8) 5 w' w.heap.size (fun _ => True) v0_ r ∧ Below w.heap.size w w' := by
 have hu22 := Tryz.underlying22
 have hu41 := Tryz.underlying41
 have info5_ : (Tryz.prog.info? 5).map (fun i => (i.zero, i.size, i.bytes)) = some (some (.int .u8 0), 1, 1) := by kernel_rfl
 have HR0_17 := Aside0.mk hr0_17
 have HC0_17 := Aside0.mk hc0_17
 have HR0_18 := Aside0.mk hr0_18
 have HC0_18 := Aside0.mk hc0_18
 clear hr0_17 hc0_17 hr0_18 hc0_18
 have HF := Fr.start [41] w
 have HP := Aside0.mk True.intro
 unfold spec_FourBytes.f at h
 have HH := Aside0.mk h
 clear h
 go_enter Tryz.func61, Tryz.ntmps61
 repeat' (with_reducible first | exact xE HH | (replace HH := iA HP HH; clear HP; rcases HH with ⟨p, HP, HH⟩ | ⟨p, HP, HH⟩ <;> first | subst p | cases p | skip) | fail)
 all_goals (repeat' (first
    | ((with_reducible refine gA 0 ?_) <;> (refine HF.bA ?_; clear HF; intro g_ w_ HF; refine nA ?_) <;> (refine sA ?_) <;> (apply lend))
    | ((with_reducible refine gA 1 ?_) <;> (refine sA ?_) <;> ((replace HH := bA HH); obtain ⟨_, A4_, HH⟩ := HH; (try dsimp only at HH)) <;> (repeat' (with_reducible first | exact xE HH | (replace HH := iA HP HH; clear HP; rcases HH with ⟨p, HP, HH⟩ | ⟨p, HP, HH⟩ <;> first | subst p | cases p | skip) | fail)) <;> (refine HF.cB Tryz.func60 (by (with_reducible apply spec_FourOk.calls (h := A4_.out)) <;> exact gP) ?_; clear HF A4_; intro w_ HF) <;> (refine sA ?_) <;> (apply lend))
    | ((with_reducible refine gA 2 ?_) <;> (refine sA ?_) <;> (apply lend))
    | (((with_reducible refine gate_region (id := 3) ?_); have HG := HF; replace HF := HF.drop; refine HG.region2 HF (by kernel_rfl) rfl ?_; clear HF HG; intro w_ HF HG; refine with_tabW spec_FourBytes.tab3 spec_FourBytes.bits3 (fun HT_ HW_ => ?_)) <;> (repeat' (with_reducible first | exact xE HH | (replace HH := iA HP HH; clear HP; rcases HH with ⟨p, HP, HH⟩ | ⟨p, HP, HH⟩ <;> first | subst p | cases p | skip) | fail)) <;> ((replace HH := bA HH); obtain ⟨_, A8_, HH⟩ := HH; (try dsimp only at HH)) <;> (repeat' (with_reducible first | exact xE HH | (replace HH := iA HP HH; clear HP; rcases HH with ⟨p, HP, HH⟩ | ⟨p, HP, HH⟩ <;> first | subst p | cases p | skip) | fail)) <;> ((replace HH := bA HH); obtain ⟨_, A9_, HH⟩ := HH; (try dsimp only at HH)) <;> (repeat' (with_reducible first | exact xE HH | (replace HH := iA HP HH; clear HP; rcases HH with ⟨p, HP, HH⟩ | ⟨p, HP, HH⟩ <;> first | subst p | cases p | skip) | fail)) <;> (first | ((with_reducible replace HH := bE HH); obtain ⟨_, E12_, HH⟩ := HH) | skip) <;> (repeat' (with_reducible first | exact xE HH | (replace HH := iA HP HH; clear HP; rcases HH with ⟨p, HP, HH⟩ | ⟨p, HP, HH⟩ <;> first | subst p | cases p | skip) | fail)) <;> (refine dA 0 ?_; refine dA 1 ?_; refine dA 4 ?_; refine dA 5 ?_) <;> (refine HF.cD HG 2 Tryz.func98 (by (with_reducible apply spec_HeadSum.calls (h := A8_.out)) <;> exact gP) ?_; clear HF HG A8_; intro w_ HG HF) <;> (refine HF.rD HG 3 Tryz.func97 (by (with_reducible apply spec_l05Head.calls (h := A9_.out)) <;> exact gP) ?_; clear HF HG A9_; intro Av9_0 cv9_0 w_ HO9_0 HB9 HG HF; refine mA ?_) <;> (first | (refine HG.aD 6 HO9_0 (HG.pC HR0_18) E12_.out ?_; clear HF HG E12_; intro Av12_0 cv12_0 w_ HO12_0 HG HF; refine mA ?_) | (refine HG.aQD 6 HO9_0 (HG.pC HR0_18) ?_; clear HF HG; intro y_ Av12_0 cv12_0 w_ ey_ HO12_0 HG HF; have EY12 := Aside0.mk ey_.symm; (try rw [ey_] at HH); clear ey_; refine mA ?_)) <;> ((refine qA 7 ?_); (try clear HO2_0); have HO2_0 := HO12_0) <;> (refine done_ (done_of HT_.out (by kernel_rfl)) ?_; clear HF; have HF := HG; clear HG))
    | go_step | fail))
 all_goals (have h_ := HH.out; clear HH; cases h_ <;> (go_ret; first
   | exact ⟨_, rfl, (Kd.R_nil _ _ _ _ _), HF.below⟩
   | exact ⟨_, rfl, (by first | exact (rN HF HO2_0) | exact R_cast (rN HF HO2_0) EY12.out), HF.below⟩))

/-! ### spec_l08NoFour: function 62 -/
def spec_l08NoFour.f (a0_0 a0_1 : Int) (a0_2 a0_3 : Int) (a0_4 a0_5 : Int) (a0_6 a0_7 : Int) (a0_8 a0_9 : Int) (a0_10 a0_11 : Int) (a0_12 a0_13 : Int) (a0_14 a0_15 a0_16 : Int) (l0_17 l0_18 : List Int) : Option (Bool) := if a0_0 = 0 then (if a0_1 = 0 then (if a0_2 = 0 then (if a0_3 = 0 then (if a0_4 = 0 then (if a0_5 = 0 then (if a0_6 = 0 then (if (a0_7 == 0 && (a0_8 == 0 && (a0_9 == 0 && (a0_10 == 0 && (a0_11 == 0))))) = true then (if (a0_12 == 0 && (a0_13 == 0 && (a0_14 == 0 && (a0_15 == 0 && (a0_16 == 0))))) = true then (if (l0_17.length : Int) = 0 then (some ((l0_18.length : Int) == 0)) else (some false)) else (some false)) else (some false)) else (some false)) else (some false)) else (some false)) else (some false)) else (some false)) else (some false)) else (some false)
theorem spec_l08NoFour.calls (a0_0 a0_1 : Int) (a0_2 a0_3 : Int) (a0_4 a0_5 : Int) (a0_6 a0_7 : Int) (a0_8 a0_9 : Int) (a0_10 a0_11 : Int) (a0_12 a0_13 : Int) (a0_14 a0_15 a0_16 : Int) (A0_17 : Option Addr) (c0_17 : Nat) (l0_17 : List Int) (A0_18 : Option Addr) (c0_18 : Nat) (l0_18 : List Int) (r : Bool) (w : World) (hr0_17 : Kd.C (Kd.int .u8) w A0_17 l0_17.length l0_17) (hc0_17 : l0_17.length ≤ c0_17) (hr0_18 : Kd.C (Kd.int .u8) w A0_18 l0_18.length l0_18) (hc0_18 : l0_18.length ≤ c0_18) (h : spec_l08NoFour.f a0_0 a0_1 a0_2 a0_3 a0_4 a0_5 a0_6 a0_7 a0_8 a0_9 a0_10 a0_11 a0_12 a0_13 a0_14 a0_15 a0_16 l0_17 l0_18 = some r) :
  Calls Tryz.prog 62 #[.agg #[.int .i64 a0_0, .int .i64 a0_1, .int .i64 a0_2, .int .i64 a0_3, .int .i64 a0_4, .int .i64 a0_5, .int .i64 a0_6, .int .i64 a0_7, .int .i64 a0_8, .int .i64 a0_9, .int .i64 a0_10, .int .i64 a0_11, .int .i64 a0_12, .int .i64 a0_13, .int .i64 a0_14, .int .i64 a0_15, .int .i64 a0_16, .slice A0_17 l0_17.length c0_17, .slice A0_18 l0_18.length c0_18]] w fun e w' => e = .returned (.bool r) ∧ Below w.heap.size w w' := by
 have hu22 := Tryz.underlying22
 have hu39 := Tryz.underlying39
 have hu41 := Tryz.underlying41
 have HR0_17 := Aside0.mk hr0_17
 have HC0_17 := Aside0.mk hc0_17
 have HR0_18 := Aside0.mk hr0_18
 have HC0_18 := Aside0.mk hc0_18
 clear hr0_17 hc0_17 hr0_18 hc0_18
 have HF := Fr.start [41] w
 have HP := Aside0.mk True.intro
 unfold spec_l08NoFour.f at h
 have HH := Aside0.mk h
 clear h
 go_enter Tryz.func62, Tryz.ntmps62
 repeat' (with_reducible first | exact xE HH | (replace HH := iA HP HH; clear HP; rcases HH with ⟨p, HP, HH⟩ | ⟨p, HP, HH⟩ <;> first | subst p | cases p | skip) | fail)
 all_goals (repeat' (first
    | ((with_reducible refine gA 0 ?_) <;> (refine HF.bA ?_; clear HF; intro g_ w_ HF; refine nA ?_) <;> (refine sA ?_) <;> (apply lend))
    | ((with_reducible refine gA 1 ?_) <;> (iterate 34 refine sA ?_) <;> (apply lend))
    | ((with_reducible refine gA 2 ?_) <;> (iterate 26 refine sA ?_) <;> (apply lend))
    | go_step | fail))
 all_goals (have h_ := HH.out; clear HH; cases h_ <;> (go_ret; first
   | exact ⟨vE, HF.below⟩))

/-! ### spec_l06Inner: function 99 -/
def spec_l06Inner.f (a0 : Int) : Option (Bool) := if a0 = 0 then (some true) else (if a0 = 43 then (some true) else (some (a0 == 60)))
theorem spec_l06Inner.calls (a0 : Int) (r : Bool) (w : World) (h : spec_l06Inner.f a0 = some r) :
  Calls Tryz.prog 99 #[.int .i64 a0] w fun e w' => e = .returned (.bool r) ∧ Drawn0 w w' := by
 have H : (if a0 = 0 then (some true) else (if a0 = 43 then (some true) else (some (a0 == 60)))) = some r := h
 clear h
 by_cases c2 : a0 = 0
 ·rw [if_pos c2] at H
  have c2b0 : (a0 == 0) = true := beq_iff_eq.mpr c2
  have c2b1 : (a0 != 0) = false := bne_eq_false_iff_eq.mpr c2
  clear c2
  obtain rfl := Option.some.inj H
  go_enter Tryz.func99, Tryz.ntmps99
  go_wp2
  go_ret
  exact ⟨vF, vD⟩
 ·rw [if_neg c2] at H
  have c2b0 : (a0 == 0) = false := beq_eq_false_iff_ne.mpr c2
  have c2b1 : (a0 != 0) = true := bne_iff_ne.mpr c2
  by_cases c3 : a0 = 43
  ·rw [if_pos c3] at H
   have c3b0 : (a0 == 43) = true := beq_iff_eq.mpr c3
   have c3b1 : (a0 != 43) = false := bne_eq_false_iff_eq.mpr c3
   clear c3
   obtain rfl := Option.some.inj H
   go_enter Tryz.func99, Tryz.ntmps99
   go_wp2
   go_ret
   exact ⟨vF, vD⟩
  ·rw [if_neg c3] at H
   have c3b0 : (a0 == 43) = false := beq_eq_false_iff_ne.mpr c3
   have c3b1 : (a0 != 43) = true := bne_iff_ne.mpr c3
   obtain rfl := Option.some.inj H
   go_enter Tryz.func99, Tryz.ntmps99
   go_wp2
   go_ret
   exact ⟨vF, vD⟩

end Go.Proofs.YtffkgndghbdgnaaGreat.FFnExactPacketSize
