-- Functions and their contracts, written by a program of this claim (wip/tools/oprint.py) out of the translation.
import Derived.Test.YtffkgndghbdgnaaGreatGFnExactPacketSizex26
namespace Go.Proofs.YtffkgndghbdgnaaGreat.FFnExactPacketSize
open Go.RowKit Go.Proofs.YtffkgndghbdgnaaGreatW.PrintWords Go.Proofs.YtffkgndghbdgnaaGreatW.PrintLast Go.Proofs.YtffkgndghbdgnaaGreatW.PrintMore Go.Proofs.YtffkgndghbdgnaaGreat.Frame
attribute [local go_sem] max2_int min2_int max_two min_two max_three min_three max_four min_four   -- for this text's walks alone
set_option linter.unusedVariables false
set_option maxHeartbeats 8000000
set_option maxRecDepth 100000
set_option linter.unusedSimpArgs false

/-! ### impl_Checksum: function 134 -/
def impl_Checksum.f (k : Nat) (l0 : List Int) : Option (Int) := if (l0.length : Int) > 2000 then (some (-1)) else ((impl_onesSum.f k l0).bind fun t991 => (some (wrap64 (65535 - t991))))
theorem impl_Checksum.calls (k : Nat) (A0 : Option Addr) (c0 : Nat) (l0 : List Int) (r : Int) (w : World) (hr0 : Kd.C (Kd.int .u8) w A0 l0.length l0) (hc0 : l0.length ≤ c0) (h : impl_Checksum.f k l0 = some r) :
  Calls Tryz.prog 134 #[.slice A0 l0.length c0] w fun e w' => e = .returned (.int .i64 r) ∧ Drawn0 w w' := by
 have HR0 := Aside0.mk hr0
 have HC0 := Aside0.mk hc0
 clear hr0 hc0
 have H : (if (l0.length : Int) > 2000 then (some (-1)) else ((impl_onesSum.f k l0).bind fun t991 => (some (wrap64 (65535 - t991))))) = some r := h
 clear h
 by_cases c2 : (l0.length : Int) > 2000
 ·rw [if_pos c2] at H
  have c2b0 : decide (2000 < (l0.length : Int)) = true := decide_eq_true c2
  have c2b1 : decide (2000 < l0.length) = true := decide_eq_true (by omega)
  clear c2
  obtain rfl := Option.some.inj H
  go_enter Tryz.func134, Tryz.ntmps134
  go_wp2
  go_ret
  exact ⟨vF, vD⟩
 ·rw [if_neg c2] at H
  have c2b0 : decide (2000 < (l0.length : Int)) = false := decide_eq_false c2
  have c2b1 : decide (2000 < l0.length) = false := decide_eq_false (by omega)
  clear c2
  replace H := Option.bind_eq_some_iff.mp H
  obtain ⟨t991, A30, H⟩ := H
  replace H : (some (wrap64 (65535 - t991))) = some r := H
  have A3 := Aside0.mk A30
  clear A30
  obtain rfl := Option.some.inj H
  go_enter Tryz.func134, Tryz.ntmps134
  go_wp2_with (first | ((with_reducible refine gate_callee (f := 111) rfl ?_); refine goesL_ (some 7) rfl rfl Tryz.func111 (by kernel_rfl) rfl #[.slice A0 l0.length c0] rfl (by (try simp only [List.map_toArray, List.map_cons, List.map_nil]); first | done | rfl | (simp only [List.length_drop, List.length_take]; rfl)) ?_; (with_reducible refine (impl_onesSum.calls k _ _ l0 t991 _ ?side1 ?side2 A3.out).mono ?_); (case side1 => repeat (first | exact HR0.out | (with_reducible refine Kd.C_alloc ?_ _) | (with_reducible refine Kd.C_drewN ?_ _) | (with_reducible refine Kd.C_drew ?_))); (case side2 => exact HC0.out); rintro e w' ⟨rfl, ⟨nd, rfl⟩⟩; refine ⟨_, rfl, ?_⟩))
  go_ret
  exact ⟨vF, vD⟩

/-! ### impl_HeadSum: function 115 -/
def impl_HeadSum.f (k : Nat) (a0_0 a0_1 : Int) (a0_2 a0_3 : Int) (a0_4 a0_5 : Int) (a0_6 a0_7 : Int) (a0_8 a0_9 : Int) (a0_10 a0_11 : Int) (a0_12 a0_13 : Int) (a0_14 a0_15 a0_16 : Int) (l0_17 l0_18 : List Int) : Option (Int) := (impl_FourOk.f a0_0 a0_1 a0_2 a0_3 a0_4 a0_5 a0_6 a0_7 a0_8 a0_9 a0_10 a0_11 a0_12 a0_13 a0_14 a0_15 a0_16 l0_17 l0_18).bind fun t993 => (if t993 = true then ((impl_Four_head.f k a0_0 a0_1 a0_2 a0_3 a0_4 a0_5 a0_6 a0_7 a0_8 a0_9 a0_10 a0_11 a0_12 a0_13 a0_14 a0_15 a0_16 l0_17 l0_18 0).bind fun t994 => ((impl_Checksum.f k t994).bind fun t997 => (some t997))) else (some (-1)))
theorem impl_HeadSum.calls (k : Nat) (a0_0 a0_1 : Int) (a0_2 a0_3 : Int) (a0_4 a0_5 : Int) (a0_6 a0_7 : Int) (a0_8 a0_9 : Int) (a0_10 a0_11 : Int) (a0_12 a0_13 : Int) (a0_14 a0_15 a0_16 : Int) (A0_17 : Option Addr) (c0_17 : Nat) (l0_17 : List Int) (A0_18 : Option Addr) (c0_18 : Nat) (l0_18 : List Int) (r : Int) (w : World) (hr0_17 : Kd.C (Kd.int .u8) w A0_17 l0_17.length l0_17) (hc0_17 : l0_17.length ≤ c0_17) (hr0_18 : Kd.C (Kd.int .u8) w A0_18 l0_18.length l0_18) (hc0_18 : l0_18.length ≤ c0_18) (h : impl_HeadSum.f k a0_0 a0_1 a0_2 a0_3 a0_4 a0_5 a0_6 a0_7 a0_8 a0_9 a0_10 a0_11 a0_12 a0_13 a0_14 a0_15 a0_16 l0_17 l0_18 = some r) :
  Calls Tryz.prog 115 #[.agg #[.int .i64 a0_0, .int .i64 a0_1, .int .i64 a0_2, .int .i64 a0_3, .int .i64 a0_4, .int .i64 a0_5, .int .i64 a0_6, .int .i64 a0_7, .int .i64 a0_8, .int .i64 a0_9, .int .i64 a0_10, .int .i64 a0_11, .int .i64 a0_12, .int .i64 a0_13, .int .i64 a0_14, .int .i64 a0_15, .int .i64 a0_16, .slice A0_17 l0_17.length c0_17, .slice A0_18 l0_18.length c0_18]] w fun e w' => e = .returned (.int .i64 r) ∧ Below w.heap.size w w' := by
 have HR0_17 := Aside0.mk hr0_17
 have HC0_17 := Aside0.mk hc0_17
 have HR0_18 := Aside0.mk hr0_18
 have HC0_18 := Aside0.mk hc0_18
 clear hr0_17 hc0_17 hr0_18 hc0_18
 have HF := Fr.start [41] w
 have HP := Aside0.mk True.intro
 unfold impl_HeadSum.f at h
 have HH := Aside0.mk h
 clear h
 go_enter Tryz.func115, Tryz.ntmps115
 repeat' (with_reducible first | exact xE HH | (replace HH := iA HP HH; clear HP; rcases HH with ⟨p, HP, HH⟩ | ⟨p, HP, HH⟩ <;> first | subst p | cases p | skip) | fail)
 all_goals (repeat' (first
    | ((with_reducible refine gA 0 ?_) <;> (refine HF.bA ?_; clear HF; intro g_ w_ HF; refine nA ?_) <;> (refine sA ?_) <;> (apply lend))
    | ((with_reducible refine gA 1 ?_) <;> (refine sA ?_) <;> ((replace HH := bA HH); obtain ⟨_, A4_, HH⟩ := HH; (try dsimp only at HH)) <;> (repeat' (with_reducible first | exact xE HH | (replace HH := iA HP HH; clear HP; rcases HH with ⟨p, HP, HH⟩ | ⟨p, HP, HH⟩ <;> first | subst p | cases p | skip) | fail)) <;> (refine HF.cB Tryz.func81 (by (with_reducible apply impl_FourOk.calls (h := A4_.out)) <;> exact gP) ?_; clear HF A4_; intro w_ HF) <;> (refine sA ?_) <;> (apply lend))
    | ((with_reducible refine gA 2 ?_) <;> (refine sA ?_) <;> (apply lend))
    | ((with_reducible refine gA 3 ?_) <;> (refine sA ?_) <;> ((replace HH := bA HH); obtain ⟨_, A7_, HH⟩ := HH; (try dsimp only at HH)) <;> (repeat' (with_reducible first | exact xE HH | (replace HH := iA HP HH; clear HP; rcases HH with ⟨p, HP, HH⟩ | ⟨p, HP, HH⟩ <;> first | subst p | cases p | skip) | fail)) <;> (refine HF.rB Tryz.func114 (by (with_reducible apply impl_Four_head.calls (h := A7_.out)) <;> exact gP) ?_; clear HF A7_; intro Av7_0 cv7_0 w_ HO7_0 HB7 HF; refine nA ?_) <;> ((replace HH := bA HH); obtain ⟨_, A8_, HH⟩ := HH; (try dsimp only at HH)) <;> (repeat' (with_reducible first | exact xE HH | (replace HH := iA HP HH; clear HP; rcases HH with ⟨p, HP, HH⟩ | ⟨p, HP, HH⟩ <;> first | subst p | cases p | skip) | fail)) <;> (refine HF.dB Tryz.func134 (by (with_reducible apply impl_Checksum.calls (h := A8_.out)) <;> exact gP) ?_; clear HF A8_; intro w_ HF) <;> (refine sA ?_) <;> (apply lend))
    | go_step | fail))
 all_goals (have h_ := HH.out; clear HH; cases h_ <;> (go_ret; first
   | exact ⟨vE, HF.below⟩))

/-! ### impl_FourBytes: function 80 -/
def impl_FourBytes.f (k : Nat) (a0_0 a0_1 : Int) (a0_2 a0_3 : Int) (a0_4 a0_5 : Int) (a0_6 a0_7 : Int) (a0_8 a0_9 : Int) (a0_10 a0_11 : Int) (a0_12 a0_13 : Int) (a0_14 a0_15 a0_16 : Int) (l0_17 l0_18 : List Int) : Option (List Int) := (impl_FourOk.f a0_0 a0_1 a0_2 a0_3 a0_4 a0_5 a0_6 a0_7 a0_8 a0_9 a0_10 a0_11 a0_12 a0_13 a0_14 a0_15 a0_16 l0_17 l0_18).bind fun t999 => (if t999 = true then ((impl_HeadSum.f k a0_0 a0_1 a0_2 a0_3 a0_4 a0_5 a0_6 a0_7 a0_8 a0_9 a0_10 a0_11 a0_12 a0_13 a0_14 a0_15 a0_16 l0_17 l0_18).bind fun t1000 => ((impl_Four_head.f k a0_0 a0_1 a0_2 a0_3 a0_4 a0_5 a0_6 a0_7 a0_8 a0_9 a0_10 a0_11 a0_12 a0_13 a0_14 a0_15 a0_16 l0_17 l0_18 t1000).bind fun t1001 => ((slices_Concat_byte_byte.f k (([t1001, l0_18] : List (List Int)))).bind fun t1007 => (some t1007)))) else (some ([] : List Int)))
def impl_FourBytes.T3 : Bool × List (List Nat × List Nat) := (true, [([], []), ([], []), ([1], [1]), ([0, 2, 2], [0, 2]), ([], []), ([4], [4]), ([3, 5], [3, 5]), ([6, 3], [6]), ([7, 7, 0, 1, 2, 3, 4, 5, 6, 7], [7])])
def impl_FourBytes.B3 : List Nat := [0, 0, 2, 7, 0, 16, 63, 127, 255]
theorem impl_FourBytes.tab3 : rtab .any (opsOf Tryz.f80 3) = impl_FourBytes.T3 := by kernel_rfl
theorem impl_FourBytes.bits3 : waitsOk impl_FourBytes.T3.2 impl_FourBytes.B3 = true := by kernel_rfl
theorem impl_FourBytes.calls (k : Nat) (a0_0 a0_1 : Int) (a0_2 a0_3 : Int) (a0_4 a0_5 : Int) (a0_6 a0_7 : Int) (a0_8 a0_9 : Int) (a0_10 a0_11 : Int) (a0_12 a0_13 : Int) (a0_14 a0_15 a0_16 : Int) (A0_17 : Option Addr) (c0_17 : Nat) (l0_17 : List Int) (A0_18 : Option Addr) (c0_18 : Nat) (l0_18 r : List Int) (w : World) (hr0_17 : Kd.C (Kd.int .u8) w A0_17 l0_17.length l0_17) (hc0_17 : l0_17.length ≤ c0_17) (hr0_18 : Kd.C (Kd.int .u8) w A0_18 l0_18.length l0_18) (hc0_18 : l0_18.length ≤ c0_18) (h : impl_FourBytes.f k a0_0 a0_1 a0_2 a0_3 a0_4 a0_5 a0_6 a0_7 a0_8 a0_9 a0_10 a0_11 a0_12 a0_13 a0_14 a0_15 a0_16 l0_17 l0_18 = some r) :
  Calls Tryz.prog 80 #[.agg #[.int .i64 a0_0, .int .i64 a0_1, .int .i64 a0_2, .int .i64 a0_3, .int .i64 a0_4, .int .i64 a0_5, .int .i64 a0_6, .int .i64 a0_7, .int .i64 a0_8, .int .i64 a0_9, .int .i64 a0_10, .int .i64 a0_11, .int .i64 a0_12, .int .i64 a0_13, .int .i64 a0_14, .int .i64 a0_15, .int .i64 a0_16, .slice A0_17 l0_17.length c0_17, .slice A0_18 l0_18.length c0_18]] w fun e w' => ∃ v0_ : Value, e = .returned (v0_) ∧ Kd.R (Kd.int .u8) 5 w' w.heap.size (fun _ => True) v0_ r ∧ Below w.heap.size w w' := by
 have hu41 := Tryz.underlying41
 have hu109 := Tryz.underlying109
 have HR0_17 := Aside0.mk hr0_17
 have HC0_17 := Aside0.mk hc0_17
 have HR0_18 := Aside0.mk hr0_18
 have HC0_18 := Aside0.mk hc0_18
 clear hr0_17 hc0_17 hr0_18 hc0_18
 have HF := Fr.start [41] w
 have HP := Aside0.mk True.intro
 unfold impl_FourBytes.f at h
 have HH := Aside0.mk h
 clear h
 go_enter Tryz.func80, Tryz.ntmps80
 repeat' (with_reducible first | exact xE HH | (replace HH := iA HP HH; clear HP; rcases HH with ⟨p, HP, HH⟩ | ⟨p, HP, HH⟩ <;> first | subst p | cases p | skip) | fail)
 all_goals (repeat' (first
    | ((with_reducible refine gA 0 ?_) <;> (refine HF.bA ?_; clear HF; intro g_ w_ HF; refine nA ?_) <;> (refine sA ?_) <;> (apply lend))
    | ((with_reducible refine gA 1 ?_) <;> (refine sA ?_) <;> ((replace HH := bA HH); obtain ⟨_, A4_, HH⟩ := HH; (try dsimp only at HH)) <;> (repeat' (with_reducible first | exact xE HH | (replace HH := iA HP HH; clear HP; rcases HH with ⟨p, HP, HH⟩ | ⟨p, HP, HH⟩ <;> first | subst p | cases p | skip) | fail)) <;> (refine HF.cB Tryz.func81 (by (with_reducible apply impl_FourOk.calls (h := A4_.out)) <;> exact gP) ?_; clear HF A4_; intro w_ HF) <;> (refine sA ?_) <;> (apply lend))
    | ((with_reducible refine gA 2 ?_) <;> (refine sA ?_) <;> (apply lend))
    | (((with_reducible refine gate_region (id := 3) ?_); have HG := HF; refine HG.region2 HF (by kernel_rfl) rfl ?_; clear HF HG; intro w_ HF HG; refine with_tabW impl_FourBytes.tab3 impl_FourBytes.bits3 (fun HT_ HW_ => ?_)) <;> (repeat' (with_reducible first | exact xE HH | (replace HH := iA HP HH; clear HP; rcases HH with ⟨p, HP, HH⟩ | ⟨p, HP, HH⟩ <;> first | subst p | cases p | skip) | fail)) <;> ((replace HH := bA HH); obtain ⟨_, A8_, HH⟩ := HH; (try dsimp only at HH)) <;> (repeat' (with_reducible first | exact xE HH | (replace HH := iA HP HH; clear HP; rcases HH with ⟨p, HP, HH⟩ | ⟨p, HP, HH⟩ <;> first | subst p | cases p | skip) | fail)) <;> ((replace HH := bA HH); obtain ⟨_, A9_, HH⟩ := HH; (try dsimp only at HH)) <;> (repeat' (with_reducible first | exact xE HH | (replace HH := iA HP HH; clear HP; rcases HH with ⟨p, HP, HH⟩ | ⟨p, HP, HH⟩ <;> first | subst p | cases p | skip) | fail)) <;> ((replace HH := bA HH); obtain ⟨_, A13_, HH⟩ := HH; (try dsimp only at HH)) <;> (repeat' (with_reducible first | exact xE HH | (replace HH := iA HP HH; clear HP; rcases HH with ⟨p, HP, HH⟩ | ⟨p, HP, HH⟩ <;> first | subst p | cases p | skip) | fail)) <;> (refine dA 0 ?_; refine dA 1 ?_; refine dA 4 ?_; refine dA 5 ?_) <;> (refine HF.cD HG 2 Tryz.func115 (by (with_reducible apply impl_HeadSum.calls (h := A8_.out)) <;> exact gP) ?_; clear HF HG A8_; intro w_ HG HF) <;> (refine HF.rD HG 3 Tryz.func114 (by (with_reducible apply impl_Four_head.calls (h := A9_.out)) <;> exact gP) ?_; clear HF HG A9_; intro Av9_0 cv9_0 w_ HO9_0 HB9 HG HF; refine mA ?_) <;> (refine HF.nD HG 6 ?_; clear HF HG; intro g_ w_ HL12 HG HF; refine mA ?_) <;> (have HS13 := HG.since; refine HF.rD HG 7 Tryz.func49 (by (with_reducible apply slices_Concat_byte_byte.calls (A0 := some ⟨_, 0, none⟩) (c0 := 2) (h := A13_.out)); exact (rowsC (HG.lit HL12 (by simp) (by decide)) (by (repeat' (first | exact RowsAt.nil | refine RowsAt.cons rfl ?_ ?_ ?_)); exact (HG.r2 HO9_0); exact (HG.r1 HO9_0); exact HC0_18.out; exact (HG.pC HR0_18)) (by simp)); exact (Nat.le_refl _)) ?_; clear HF HG A13_; intro Av13_0 cv13_0 w_ HO13_0 HB13 HG HF; refine mA ?_) <;> ((refine qA 8 ?_); (try clear HO2_0); have HO2_0 := HO13_0) <;> (refine done_ (done_of HT_.out (by kernel_rfl)) ?_; clear HF; have HF := HG; clear HG))
    | go_step | fail))
 all_goals (have h_ := HH.out; clear HH; cases h_ <;> (go_ret; first
   | exact ⟨_, rfl, (Kd.R_nil _ _ _ _ _), HF.below⟩
   | exact ⟨_, rfl, (rN HF HO2_0), HF.below⟩))

/-! ### impl_extsSize: function 120 -/
def impl_extsSize.l0 : Nat → Int → List (S102) → Int → Int → Option (Int)
 | 0, _, _, _, _ => none
 | k + 1, x3, x6, x7, x8 => if x8 < x7 then (if 0 ≤ x8 then (if x8 < (x6.length : Int) then (impl_extsSize.l0 k (wrap64 (x3 + (wrap64 (2 + (((rd_T102 x6 x8).f1).length : Int))))) x6 x7 (wrap64 (x8 + 1))) else (none)) else (none)) else (some x3)
def impl_extsSize.f (k : Nat) (l0 : List (S102)) : Option (Int) := impl_extsSize.l0 k 0 l0 (l0.length : Int) 0
theorem impl_extsSize.nm {k_ : Nat} {y0 : Int} {y1 : List (S102)} {y2 : Int} {y3 : Int} {r_ : Option (Int)} (h : Aside0 (impl_extsSize.l0 k_ y0 y1 y2 y3 = r_)) : ∃ (z2 : Int), Aside0 (impl_extsSize.l0 k_ y0 y1 z2 y3 = r_) ∧ Aside0 (z2 = y2) := ⟨_, h, ⟨rfl⟩⟩
theorem impl_extsSize.calls (k : Nat) (A0 : Option Addr) (c0 : Nat) (l0 : List (S102)) (r : Int) (w : World) (hr0 : Kd.C k102 w A0 l0.length l0) (hc0 : l0.length ≤ c0) (h : impl_extsSize.f k l0 = some r) :
  Calls Tryz.prog 120 #[.slice A0 l0.length c0] w fun e w' => e = .returned (.int .i64 r) ∧ Below w.heap.size w w' := by
 have hu22 := Tryz.underlying22
 have hu42 := Tryz.underlying42
 have hu102 := Tryz.underlying102
 have z102_ : (Tryz.prog.info? 102).map (·.size) = some 2 := by kernel_rfl
 have R102_ : IsRow Tryz.prog 102 2 := ⟨⟨_, Tryz.underlying102, rfl⟩, by kernel_rfl⟩
 have HR0 := Aside0.mk hr0
 have HC0 := Aside0.mk hc0
 clear hr0 hc0
 have HF := Fr.start [102] w
 have HP := Aside0.mk True.intro
 unfold impl_extsSize.f at h
 have HH := Aside0.mk h
 clear h
 go_enter Tryz.func120, Tryz.ntmps120
 repeat' (with_reducible first | exact xE HH | (replace HH := iA HP HH; clear HP; rcases HH with ⟨p, HP, HH⟩ | ⟨p, HP, HH⟩ <;> first | subst p | cases p | skip) | fail)
 all_goals (repeat' (first
    | ((with_reducible refine gA 0 ?_) <;> (refine sA ?_) <;> (apply lend))
    | ((with_reducible refine gA 1 ?_) <;> (refine sA ?_) <;> (apply lend))
    | ((with_reducible refine gA 2 ?_) <;> (iterate 3 refine sA ?_) <;> (apply lend))
    | ((with_reducible refine gA 3 ?_) <;> (refine sA ?_) <;> (apply lend))
    | ((with_reducible refine gA 4 ?_) <;> (obtain ⟨ad10_, Ax10_, cx10_, ea_, x10_0_, x10_1_, lx_, hx_⟩ := at_T102 HR0.out x8_ bN bN; have X10_0 := Aside0.mk x10_0_; have X10_1 := Aside0.mk x10_1_; have LX10 := Aside0.mk lx_; have CX10 := Aside0.mk hx_; have EA10 := Aside0.mk ea_; clear lx_ hx_ ea_ x10_0_ x10_1_; (apply lpure rfl rfl; (exact run_idxn rfl rfl rfl hu42 z102_ EA10.out bN bN); (simp only [Act.put, List.setIfInBounds_toArray, List.set_cons_zero, List.set_cons_succ, i64_w, i32_w, u8_wr, tmod_nat, Int.reduceToNat]; rfl))) <;> (apply lrow2 rfl rfl rfl R102_ rfl X10_0.out X10_1.out HF.below; refine nA ?_) <;> (refine HF.aA ?_; clear HF; intro g_ w_ HF; refine nA ?_) <;> (refine HF.tA ?_; clear HF; intro w_ HF) <;> (apply lend))
    | ((with_reducible refine gA 5 ?_) <;> (iterate 7 refine sA ?_) <;> (apply lend))
    | ((with_reducible refine gA 6 ?_) <;> (iterate 2 refine sA ?_) <;> (apply lend))
    | ((with_reducible refine gA 7 ?_) <;> (iterate 2 refine sA ?_) <;> (apply lend))
    | go_step | fail))
 all_goals (first
  | (have h_ := HH.out; clear HH; cases h_ <;> (go_ret; first
   | exact ⟨vE, HF.below⟩))
  | (obtain ⟨z2_, HH2_, EZ2_⟩ := impl_extsSize.nm HH; clear HH; have HH := HH2_; clear HH2_; obtain ⟨LV_, HF2_, EL_⟩ := Fr_name HF; clear HF; have HF := HF2_; clear HF2_; go_loopg [3, 8] k (fun kq_ v3_ v8_ w_ => ∃ (x3_ : Int) (x8_ : Int), v3_ = .int .i64 x3_ ∧ v8_ = .int .i64 x8_ ∧ Aside0 (impl_extsSize.l0 kq_ x3_ l0 z2_ x8_ = some r) ∧ Aside0 (kq_ ≤ k) ∧ Fr [102] w w_ LV_ [w_]) <;> first
   | (exact ⟨_, _, rfl, rfl, HH, ⟨Nat.le_refl _⟩, Fr_now HF⟩)
   | ((try clear HH); (try clear HF); obtain ⟨x3_, x8_, rfl, rfl, HH, HK_, HF⟩ := hrel; (rcases gk with _ | gk_); exact absurd HH.out (by simp [impl_extsSize.l0]); (rw [EL_.out] at HF); have e_ := EZ2_.out; clear EZ2_; subst e_; have h_ := HH.out; clear HH; simp only [impl_extsSize.l0] at h_; have HH := Aside0.mk h_; clear h_)))
 all_goals (repeat' (with_reducible first | exact xE HH | (replace HH := iA HP HH; clear HP; rcases HH with ⟨p, HP, HH⟩ | ⟨p, HP, HH⟩ <;> first | subst p | cases p | skip) | fail))
 all_goals (repeat' (first
    | ((with_reducible refine gA 0 ?_) <;> (refine sA ?_) <;> (apply lend))
    | ((with_reducible refine gA 1 ?_) <;> (refine sA ?_) <;> (apply lend))
    | ((with_reducible refine gA 2 ?_) <;> (iterate 3 refine sA ?_) <;> (apply lend))
    | ((with_reducible refine gA 3 ?_) <;> (refine sA ?_) <;> (apply lend))
    | ((with_reducible refine gA 4 ?_) <;> (obtain ⟨ad10_, Ax10_, cx10_, ea_, x10_0_, x10_1_, lx_, hx_⟩ := at_T102 HR0.out x8_ bN bN; have X10_0 := Aside0.mk x10_0_; have X10_1 := Aside0.mk x10_1_; have LX10 := Aside0.mk lx_; have CX10 := Aside0.mk hx_; have EA10 := Aside0.mk ea_; clear lx_ hx_ ea_ x10_0_ x10_1_; (apply lpure rfl rfl; (exact run_idxn rfl rfl rfl hu42 z102_ EA10.out bN bN); (simp only [Act.put, List.setIfInBounds_toArray, List.set_cons_zero, List.set_cons_succ, i64_w, i32_w, u8_wr, tmod_nat, Int.reduceToNat]; rfl))) <;> (apply lrow2 rfl rfl rfl R102_ rfl X10_0.out X10_1.out HF.below; refine nA ?_) <;> (refine HF.aA ?_; clear HF; intro g_ w_ HF; refine nA ?_) <;> (refine HF.tA ?_; clear HF; intro w_ HF) <;> (apply lend))
    | ((with_reducible refine gA 5 ?_) <;> (iterate 7 refine sA ?_) <;> (apply lend))
    | ((with_reducible refine gA 6 ?_) <;> (iterate 2 refine sA ?_) <;> (apply lend))
    | ((with_reducible refine gA 7 ?_) <;> (iterate 2 refine sA ?_) <;> (apply lend))
    | go_step | fail))
 all_goals (first
  | (have h_ := HH.out; clear HH; cases h_ <;> (go_ret; first
   | exact ⟨vE, HF.below⟩))
  | (go_roundg gk_; (case measure => have := HK_.out; omega); (case rel => exact ⟨_, _, rfl, rfl, HH, ⟨by have := HK_.out; omega⟩, Fr_now (HF.part (by rw [EL_.out]; repeat (first | exact List.Sublist.slnil | apply List.Sublist.cons_cons | apply List.Sublist.cons)) (fun _ h_ => h_))⟩)))

/-! ### impl_isExtKind: function 123 -/
def impl_isExtKind.f (a0 : Int) : Option (Bool) := if a0 = 0 then (some true) else (if a0 = 43 then (some true) else (some (a0 == 60)))
theorem impl_isExtKind.calls (a0 : Int) (r : Bool) (w : World) (h : impl_isExtKind.f a0 = some r) :
  Calls Tryz.prog 123 #[.int .i64 a0] w fun e w' => e = .returned (.bool r) ∧ Drawn0 w w' := by
 have H : (if a0 = 0 then (some true) else (if a0 = 43 then (some true) else (some (a0 == 60)))) = some r := h
 clear h
 by_cases c2 : a0 = 0
 ·rw [if_pos c2] at H
  have c2b0 : (a0 == 0) = true := beq_iff_eq.mpr c2
  have c2b1 : (a0 != 0) = false := bne_eq_false_iff_eq.mpr c2
  clear c2
  obtain rfl := Option.some.inj H
  go_enter Tryz.func123, Tryz.ntmps123
  go_wp2
  go_ret
  exact ⟨vF, vD⟩
 ·rw [if_neg c2] at H
  have c2b0 : (a0 == 0) = false := beq_eq_false_iff_ne.mpr c2
  have c2b1 : (a0 != 0) = true := bne_iff_ne.mpr c2
  by_cases c3 : a0 = 43
  ·rw [if_pos c3] at H
   have c3b0 : (a0 == 43) = true := beq_iff_eq.mpr c3
   have c3b1 : (a0 != 43) = false := bne_eq_false_iff_eq.mpr c3
   clear c3
   obtain rfl := Option.some.inj H
   go_enter Tryz.func123, Tryz.ntmps123
   go_wp2
   go_ret
   exact ⟨vF, vD⟩
  ·rw [if_neg c3] at H
   have c3b0 : (a0 == 43) = false := beq_eq_false_iff_ne.mpr c3
   have c3b1 : (a0 != 43) = true := bne_iff_ne.mpr c3
   obtain rfl := Option.some.inj H
   go_enter Tryz.func123, Tryz.ntmps123
   go_wp2
   go_ret
   exact ⟨vF, vD⟩

/-! ### impl_areExts: function 124 -/
def impl_areExts.l0 : Nat → List (S102) → List (S102) → Int → Int → Option (Bool)
 | 0, _, _, _, _ => none
 | k + 1, x0, x5, x6, x7 => if x7 < x6 then (if 0 ≤ x7 then (if x7 < (x5.length : Int) then ((impl_isExtKind.f ((rd_T102 x5 x7).f0)).bind fun t1014 => (if t1014 = true then (if x7 > 0 then (if ((rd_T102 x5 x7).f0) = 0 then (some false) else (if ((((rd_T102 x5 x7).f1).length : Int) % 8) = 6 then (if (((rd_T102 x5 x7).f1).length : Int) > 62 then (some false) else (impl_areExts.l0 k x0 x5 x6 (wrap64 (x7 + 1)))) else (some false))) else (if ((((rd_T102 x5 x7).f1).length : Int) % 8) = 6 then (if (((rd_T102 x5 x7).f1).length : Int) > 62 then (some false) else (impl_areExts.l0 k x0 x5 x6 (wrap64 (x7 + 1)))) else (some false))) else (some false))) else (none)) else (none)) else (some (decide ((x0.length : Int) ≤ 3)))
def impl_areExts.f (k : Nat) (l0 : List (S102)) : Option (Bool) := impl_areExts.l0 k l0 l0 (l0.length : Int) 0
theorem impl_areExts.nm {k_ : Nat} {y0 : List (S102)} {y1 : List (S102)} {y2 : Int} {y3 : Int} {r_ : Option (Bool)} (h : Aside0 (impl_areExts.l0 k_ y0 y1 y2 y3 = r_)) : ∃ (z2 : Int), Aside0 (impl_areExts.l0 k_ y0 y1 z2 y3 = r_) ∧ Aside0 (z2 = y2) := ⟨_, h, ⟨rfl⟩⟩
theorem impl_areExts.calls (k : Nat) (A0 : Option Addr) (c0 : Nat) (l0 : List (S102)) (r : Bool) (w : World) (hr0 : Kd.C k102 w A0 l0.length l0) (hc0 : l0.length ≤ c0) (h : impl_areExts.f k l0 = some r) :
  Calls Tryz.prog 124 #[.slice A0 l0.length c0] w fun e w' => e = .returned (.bool r) ∧ Below w.heap.size w w' := by
 have hu22 := Tryz.underlying22
 have hu42 := Tryz.underlying42
 have hu102 := Tryz.underlying102
 have z102_ : (Tryz.prog.info? 102).map (·.size) = some 2 := by kernel_rfl
 have R102_ : IsRow Tryz.prog 102 2 := ⟨⟨_, Tryz.underlying102, rfl⟩, by kernel_rfl⟩
 have HR0 := Aside0.mk hr0
 have HC0 := Aside0.mk hc0
 clear hr0 hc0
 have HF := Fr.start [102] w
 have HP := Aside0.mk True.intro
 unfold impl_areExts.f at h
 have HH := Aside0.mk h
 clear h
 go_enter Tryz.func124, Tryz.ntmps124
 repeat' (with_reducible first | exact xE HH | (replace HH := iA HP HH; clear HP; rcases HH with ⟨p, HP, HH⟩ | ⟨p, HP, HH⟩ <;> first | subst p | cases p | skip) | fail)
 all_goals (repeat' (first
    | ((with_reducible refine gA 0 ?_) <;> (refine sA ?_) <;> (apply lend))
    | ((with_reducible refine gA 1 ?_) <;> (iterate 3 refine sA ?_) <;> (apply lend))
    | ((with_reducible refine gA 2 ?_) <;> (refine sA ?_) <;> (apply lend))
    | ((with_reducible refine gA 3 ?_) <;> (refine sA ?_) <;> (obtain ⟨ad10_, Ax10_, cx10_, ea_, x10_0_, x10_1_, lx_, hx_⟩ := at_T102 HR0.out x7_ bN bN; have X10_0 := Aside0.mk x10_0_; have X10_1 := Aside0.mk x10_1_; have LX10 := Aside0.mk lx_; have CX10 := Aside0.mk hx_; have EA10 := Aside0.mk ea_; clear lx_ hx_ ea_ x10_0_ x10_1_; (apply lpure rfl rfl; (exact run_idxn rfl rfl rfl hu42 z102_ EA10.out bN bN); (simp only [Act.put, List.setIfInBounds_toArray, List.set_cons_zero, List.set_cons_succ, i64_w, i32_w, u8_wr, tmod_nat, Int.reduceToNat]; rfl))) <;> (apply lrow2 rfl rfl rfl R102_ rfl X10_0.out X10_1.out HF.below; refine nA ?_) <;> (refine HF.aA ?_; clear HF; intro g_ w_ HF; refine nA ?_) <;> (refine sA ?_) <;> (refine HF.tA ?_; clear HF; intro w_ HF) <;> (apply lend))
    | ((with_reducible refine gA 4 ?_) <;> (iterate 2 refine sA ?_) <;> ((replace HH := bA HH); obtain ⟨_, A14_, HH⟩ := HH; (try dsimp only at HH)) <;> (repeat' (with_reducible first | exact xE HH | (replace HH := iA HP HH; clear HP; rcases HH with ⟨p, HP, HH⟩ | ⟨p, HP, HH⟩ <;> first | subst p | cases p | skip) | fail)) <;> (refine HF.dB Tryz.func123 (by (with_reducible apply impl_isExtKind.calls (h := A14_.out))) ?_; clear HF A14_; intro w_ HF) <;> (iterate 23 refine sA ?_) <;> (apply lend))
    | ((with_reducible refine gA 5 ?_) <;> (refine sA ?_) <;> (apply lend))
    | ((with_reducible refine gA 6 ?_) <;> (iterate 2 refine sA ?_) <;> (apply lend))
    | ((with_reducible refine gA 7 ?_) <;> (iterate 4 refine sA ?_) <;> (apply lend))
    | go_step | fail))
 all_goals (first
  | (have h_ := HH.out; clear HH; cases h_ <;> (go_ret; first
   | exact ⟨vE, HF.below⟩))
  | (obtain ⟨z2_, HH2_, EZ2_⟩ := impl_areExts.nm HH; clear HH; have HH := HH2_; clear HH2_; obtain ⟨LV_, HF2_, EL_⟩ := Fr_name HF; clear HF; have HF := HF2_; clear HF2_; go_loopg [7] k (fun kq_ v7_ w_ => ∃ (x7_ : Int), v7_ = .int .i64 x7_ ∧ Aside0 (impl_areExts.l0 kq_ l0 l0 z2_ x7_ = some r) ∧ Aside0 (kq_ ≤ k) ∧ Fr [102] w w_ LV_ [w_]) <;> first
   | (exact ⟨_, rfl, HH, ⟨Nat.le_refl _⟩, Fr_now HF⟩)
   | ((try clear HH); (try clear HF); obtain ⟨x7_, rfl, HH, HK_, HF⟩ := hrel; (rcases gk with _ | gk_); exact absurd HH.out (by simp [impl_areExts.l0]); (rw [EL_.out] at HF); have e_ := EZ2_.out; clear EZ2_; subst e_; have h_ := HH.out; clear HH; simp only [impl_areExts.l0] at h_; have HH := Aside0.mk h_; clear h_)))
 all_goals (repeat' (with_reducible first | exact xE HH | (replace HH := iA HP HH; clear HP; rcases HH with ⟨p, HP, HH⟩ | ⟨p, HP, HH⟩ <;> first | subst p | cases p | skip) | fail))
 all_goals (repeat' (first
    | ((with_reducible refine gA 0 ?_) <;> (refine sA ?_) <;> (apply lend))
    | ((with_reducible refine gA 1 ?_) <;> (iterate 3 refine sA ?_) <;> (apply lend))
    | ((with_reducible refine gA 2 ?_) <;> (refine sA ?_) <;> (apply lend))
    | ((with_reducible refine gA 3 ?_) <;> (refine sA ?_) <;> (obtain ⟨ad10_, Ax10_, cx10_, ea_, x10_0_, x10_1_, lx_, hx_⟩ := at_T102 HR0.out x7_ bN bN; have X10_0 := Aside0.mk x10_0_; have X10_1 := Aside0.mk x10_1_; have LX10 := Aside0.mk lx_; have CX10 := Aside0.mk hx_; have EA10 := Aside0.mk ea_; clear lx_ hx_ ea_ x10_0_ x10_1_; (apply lpure rfl rfl; (exact run_idxn rfl rfl rfl hu42 z102_ EA10.out bN bN); (simp only [Act.put, List.setIfInBounds_toArray, List.set_cons_zero, List.set_cons_succ, i64_w, i32_w, u8_wr, tmod_nat, Int.reduceToNat]; rfl))) <;> (apply lrow2 rfl rfl rfl R102_ rfl X10_0.out X10_1.out HF.below; refine nA ?_) <;> (refine HF.aA ?_; clear HF; intro g_ w_ HF; refine nA ?_) <;> (refine sA ?_) <;> (refine HF.tA ?_; clear HF; intro w_ HF) <;> (apply lend))
    | ((with_reducible refine gA 4 ?_) <;> (iterate 2 refine sA ?_) <;> ((replace HH := bA HH); obtain ⟨_, A14_, HH⟩ := HH; (try dsimp only at HH)) <;> (repeat' (with_reducible first | exact xE HH | (replace HH := iA HP HH; clear HP; rcases HH with ⟨p, HP, HH⟩ | ⟨p, HP, HH⟩ <;> first | subst p | cases p | skip) | fail)) <;> (refine HF.dB Tryz.func123 (by (with_reducible apply impl_isExtKind.calls (h := A14_.out))) ?_; clear HF A14_; intro w_ HF) <;> (iterate 23 refine sA ?_) <;> (apply lend))
    | ((with_reducible refine gA 5 ?_) <;> (refine sA ?_) <;> (apply lend))
    | ((with_reducible refine gA 6 ?_) <;> (iterate 2 refine sA ?_) <;> (apply lend))
    | ((with_reducible refine gA 7 ?_) <;> (iterate 4 refine sA ?_) <;> (apply lend))
    | go_step | fail))
 all_goals (first
  | (have h_ := HH.out; clear HH; cases h_ <;> (go_ret; first
   | exact ⟨vE, HF.below⟩))
  | (go_roundg gk_; (case measure => have := HK_.out; omega); (case rel => exact ⟨_, rfl, HH, ⟨by have := HK_.out; omega⟩, Fr_now (HF.part (by rw [EL_.out]; repeat (first | exact List.Sublist.slnil | apply List.Sublist.cons_cons | apply List.Sublist.cons)) (fun _ h_ => h_))⟩)))

end Go.Proofs.YtffkgndghbdgnaaGreat.FFnExactPacketSize
