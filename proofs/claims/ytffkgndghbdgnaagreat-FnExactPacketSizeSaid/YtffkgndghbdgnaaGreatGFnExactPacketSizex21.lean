-- Functions and their contracts, written by a program of this claim (wip/tools/oprint.py) out of the translation.
import Derived.Test.YtffkgndghbdgnaaGreatGFnExactPacketSizex20
namespace Go.Proofs.YtffkgndghbdgnaaGreat.FFnExactPacketSize
open Go.RowKit Go.Proofs.YtffkgndghbdgnaaGreatW.PrintWords Go.Proofs.YtffkgndghbdgnaaGreatW.PrintLast Go.Proofs.YtffkgndghbdgnaaGreatW.PrintMore Go.Proofs.YtffkgndghbdgnaaGreat.Frame
attribute [local go_sem] max2_int min2_int max_two min_two max_three min_three max_four min_four   -- for this text's walks alone
set_option linter.unusedVariables false
set_option maxHeartbeats 8000000
set_option maxRecDepth 100000
set_option linter.unusedSimpArgs false

/-! ### impl_within: function 85 -/
def impl_within.f (a0 a1 a2 : Int) : Option (Bool) := if a0 ≥ a1 then (some (decide (a0 ≤ a2))) else (some false)
theorem impl_within.calls (a0 a1 a2 : Int) (r : Bool) (w : World) (h : impl_within.f a0 a1 a2 = some r) :
  Calls Tryz.prog 85 #[.int .i64 a0, .int .i64 a1, .int .i64 a2] w fun e w' => e = .returned (.bool r) ∧ Drawn0 w w' := by
 have H : (if a0 ≥ a1 then (some (decide (a0 ≤ a2))) else (some false)) = some r := h
 clear h
 by_cases c4 : a0 ≥ a1
 ·rw [if_pos c4] at H
  have c4b0 : decide (a1 ≤ a0) = true := decide_eq_true c4
  clear c4
  obtain rfl := Option.some.inj H
  go_enter Tryz.func85, Tryz.ntmps85
  go_wp2
  go_ret
  exact ⟨vF, vD⟩
 ·rw [if_neg c4] at H
  have c4b0 : decide (a1 ≤ a0) = false := decide_eq_false c4
  clear c4
  obtain rfl := Option.some.inj H
  go_enter Tryz.func85, Tryz.ntmps85
  go_wp2
  go_ret
  exact ⟨vF, vD⟩

/-! ### impl_isLong: function 130 -/
def impl_isLong.f (a0 : Int) : Option (Bool) := (impl_within.f a0 0 4294967295).bind fun t750 => (some t750)
theorem impl_isLong.calls (a0 : Int) (r : Bool) (w : World) (h : impl_isLong.f a0 = some r) :
  Calls Tryz.prog 130 #[.int .i64 a0] w fun e w' => e = .returned (.bool r) ∧ Drawn0 w w' := by
 have H : ((impl_within.f a0 0 4294967295).bind fun t750 => (some t750)) = some r := h
 clear h
 replace H := Option.bind_eq_some_iff.mp H
 obtain ⟨t750, A20, H⟩ := H
 replace H : (some t750) = some r := H
 have A2 := Aside0.mk A20
 clear A20
 obtain rfl := Option.some.inj H
 go_enter Tryz.func130, Tryz.ntmps130
 go_wp2_with (first | ((with_reducible refine gate_callee (f := 85) rfl ?_); refine goesL_ (some 4) rfl rfl Tryz.func85 (by kernel_rfl) rfl #[.int .i64 a0, .int .i64 0, .int .i64 4294967295] rfl (by (try simp only [List.map_toArray, List.map_cons, List.map_nil]); first | done | rfl | (simp only [List.length_drop, List.length_take]; rfl)) ?_; (with_reducible refine (impl_within.calls a0 0 4294967295 t750 _ A2.out).mono ?_); rintro e w' ⟨rfl, ⟨nd, rfl⟩⟩; refine ⟨_, rfl, ?_⟩))
 go_ret
 exact ⟨vF, vD⟩

/-! ### impl_AddrOk: function 128 -/
def impl_AddrOk.f (a0_0 a0_1 : Int) (a0_2 a0_3 a0_4 : Int) : Option (Bool) := if a0_0 = 4 then (if a0_1 = 0 then (if a0_2 = 0 then (if a0_3 = 0 then ((impl_isLong.f a0_4).bind fun t752 => (some t752)) else (some false)) else (some false)) else (some false)) else (if a0_0 = 6 then ((impl_isLong.f a0_1).bind fun t753 => (if t753 = true then ((impl_isLong.f a0_2).bind fun t754 => (if t754 = true then ((impl_isLong.f a0_3).bind fun t755 => (if t755 = true then ((impl_isLong.f a0_4).bind fun t756 => (some t756)) else (some false))) else (some false))) else (some false))) else (some false))
theorem impl_AddrOk.calls (a0_0 a0_1 : Int) (a0_2 a0_3 a0_4 : Int) (r : Bool) (w : World) (h : impl_AddrOk.f a0_0 a0_1 a0_2 a0_3 a0_4 = some r) :
  Calls Tryz.prog 128 #[.agg #[.int .i64 a0_0, .int .i64 a0_1, .int .i64 a0_2, .int .i64 a0_3, .int .i64 a0_4]] w fun e w' => e = .returned (.bool r) ∧ Below w.heap.size w w' := by
 have hu39 := Tryz.underlying39
 have HF := Fr.start [39] w
 have HP := Aside0.mk True.intro
 unfold impl_AddrOk.f at h
 have HH := Aside0.mk h
 clear h
 go_enter Tryz.func128, Tryz.ntmps128
 repeat' (with_reducible first | exact xE HH | (replace HH := iA HP HH; clear HP; rcases HH with ⟨p, HP, HH⟩ | ⟨p, HP, HH⟩ <;> first | subst p | cases p | skip) | fail)
 all_goals (repeat' (first
    | ((with_reducible refine gA 0 ?_) <;> (refine HF.bA ?_; clear HF; intro g_ w_ HF; refine nA ?_) <;> (refine sA ?_) <;> (apply lend))
    | ((with_reducible refine gA 1 ?_) <;> (iterate 2 refine sA ?_) <;> (apply lend))
    | ((with_reducible refine gA 2 ?_) <;> (iterate 2 refine sA ?_) <;> (apply lend))
    | ((with_reducible refine gA 3 ?_) <;> (iterate 16 refine sA ?_) <;> (first | (((replace HH := bA HH); obtain ⟨_, A23_, HH⟩ := HH; (try dsimp only at HH)) <;> (repeat' (with_reducible first | exact xE HH | (replace HH := iA HP HH; clear HP; rcases HH with ⟨p, HP, HH⟩ | ⟨p, HP, HH⟩ <;> first | subst p | cases p | skip) | fail)) <;> (refine HF.dB Tryz.func130 (by (with_reducible apply impl_isLong.calls (h := A23_.out))) ?_; clear HF A23_; intro w_ HF)) | (refine oA ?_)) <;> (iterate 2 refine sA ?_) <;> (apply lend))
    | ((with_reducible refine gA 4 ?_) <;> (iterate 2 refine sA ?_) <;> (apply lend))
    | ((with_reducible refine gA 5 ?_) <;> (iterate 2 refine sA ?_) <;> ((replace HH := bA HH); obtain ⟨_, A29_, HH⟩ := HH; (try dsimp only at HH)) <;> (repeat' (with_reducible first | exact xE HH | (replace HH := iA HP HH; clear HP; rcases HH with ⟨p, HP, HH⟩ | ⟨p, HP, HH⟩ <;> first | subst p | cases p | skip) | fail)) <;> (refine HF.dB Tryz.func130 (by (with_reducible apply impl_isLong.calls (h := A29_.out))) ?_; clear HF A29_; intro w_ HF) <;> (iterate 3 refine sA ?_) <;> (first | (((replace HH := bA HH); obtain ⟨_, A33_, HH⟩ := HH; (try dsimp only at HH)) <;> (repeat' (with_reducible first | exact xE HH | (replace HH := iA HP HH; clear HP; rcases HH with ⟨p, HP, HH⟩ | ⟨p, HP, HH⟩ <;> first | subst p | cases p | skip) | fail)) <;> (refine HF.dB Tryz.func130 (by (with_reducible apply impl_isLong.calls (h := A33_.out))) ?_; clear HF A33_; intro w_ HF)) | (refine oA ?_)) <;> (iterate 4 refine sA ?_) <;> (first | (((replace HH := bA HH); obtain ⟨_, A38_, HH⟩ := HH; (try dsimp only at HH)) <;> (repeat' (with_reducible first | exact xE HH | (replace HH := iA HP HH; clear HP; rcases HH with ⟨p, HP, HH⟩ | ⟨p, HP, HH⟩ <;> first | subst p | cases p | skip) | fail)) <;> (refine HF.dB Tryz.func130 (by (with_reducible apply impl_isLong.calls (h := A38_.out))) ?_; clear HF A38_; intro w_ HF)) | (refine oA ?_)) <;> (iterate 4 refine sA ?_) <;> (first | (((replace HH := bA HH); obtain ⟨_, A43_, HH⟩ := HH; (try dsimp only at HH)) <;> (repeat' (with_reducible first | exact xE HH | (replace HH := iA HP HH; clear HP; rcases HH with ⟨p, HP, HH⟩ | ⟨p, HP, HH⟩ <;> first | subst p | cases p | skip) | fail)) <;> (refine HF.dB Tryz.func130 (by (with_reducible apply impl_isLong.calls (h := A43_.out))) ?_; clear HF A43_; intro w_ HF)) | (refine oA ?_)) <;> (iterate 2 refine sA ?_) <;> (apply lend))
    | ((with_reducible refine gA 6 ?_) <;> (refine sA ?_) <;> (apply lend))
    | go_step | fail))
 all_goals (have h_ := HH.out; clear HH; cases h_ <;> (go_ret; first
   | exact ⟨vE, HF.below⟩))

/-! ### impl_areBoth: function 106 -/
def impl_areBoth.f (a0_0 a0_1 : Int) (a0_2 a0_3 : Int) (a0_4 a1_0 : Int) (a1_1 a1_2 : Int) (a1_3 a1_4 : Int) : Option (Bool) := (impl_AddrOk.f a0_0 a0_1 a0_2 a0_3 a0_4).bind fun t759 => (if t759 = true then ((impl_AddrOk.f a1_0 a1_1 a1_2 a1_3 a1_4).bind fun t760 => (if t760 = true then (some (a0_0 == a1_0)) else (some false))) else (some false))
theorem impl_areBoth.calls (a0_0 a0_1 : Int) (a0_2 a0_3 : Int) (a0_4 a1_0 : Int) (a1_1 a1_2 : Int) (a1_3 a1_4 : Int) (r : Bool) (w : World) (h : impl_areBoth.f a0_0 a0_1 a0_2 a0_3 a0_4 a1_0 a1_1 a1_2 a1_3 a1_4 = some r) :
  Calls Tryz.prog 106 #[.agg #[.int .i64 a0_0, .int .i64 a0_1, .int .i64 a0_2, .int .i64 a0_3, .int .i64 a0_4], .agg #[.int .i64 a1_0, .int .i64 a1_1, .int .i64 a1_2, .int .i64 a1_3, .int .i64 a1_4]] w fun e w' => e = .returned (.bool r) ∧ Below w.heap.size w w' := by
 have hu39 := Tryz.underlying39
 have HF := Fr.start [39] w
 have HP := Aside0.mk True.intro
 unfold impl_areBoth.f at h
 have HH := Aside0.mk h
 clear h
 go_enter Tryz.func106, Tryz.ntmps106
 repeat' (with_reducible first | exact xE HH | (replace HH := iA HP HH; clear HP; rcases HH with ⟨p, HP, HH⟩ | ⟨p, HP, HH⟩ <;> first | subst p | cases p | skip) | fail)
 all_goals (repeat' (first
    | ((with_reducible refine gA 0 ?_) <;> (refine HF.bA ?_; clear HF; intro g_ w_ HF; refine nA ?_) <;> (refine HF.bA ?_; clear HF; intro g_ w_ HF; refine nA ?_) <;> (refine sA ?_) <;> (apply lend))
    | ((with_reducible refine gA 1 ?_) <;> (refine sA ?_) <;> ((replace HH := bA HH); obtain ⟨_, A6_, HH⟩ := HH; (try dsimp only at HH)) <;> (repeat' (with_reducible first | exact xE HH | (replace HH := iA HP HH; clear HP; rcases HH with ⟨p, HP, HH⟩ | ⟨p, HP, HH⟩ <;> first | subst p | cases p | skip) | fail)) <;> (refine HF.cB Tryz.func128 (by (with_reducible apply impl_AddrOk.calls (h := A6_.out))) ?_; clear HF A6_; intro w_ HF) <;> (iterate 2 refine sA ?_) <;> (first | (((replace HH := bA HH); obtain ⟨_, A9_, HH⟩ := HH; (try dsimp only at HH)) <;> (repeat' (with_reducible first | exact xE HH | (replace HH := iA HP HH; clear HP; rcases HH with ⟨p, HP, HH⟩ | ⟨p, HP, HH⟩ <;> first | subst p | cases p | skip) | fail)) <;> (refine HF.cB Tryz.func128 (by (with_reducible apply impl_AddrOk.calls (h := A9_.out))) ?_; clear HF A9_; intro w_ HF)) | (refine oA ?_)) <;> (iterate 9 refine sA ?_) <;> (apply lend))
    | go_step | fail))
 all_goals (have h_ := HH.out; clear HH; cases h_ <;> (go_ret; first
   | exact ⟨vE, HF.below⟩))

/-! ### impl_upperHead: function 131 -/
def impl_upperHead.f (a0 : Int) : Option (Int) := if a0 = 0 then (some 0) else (if a0 = 1 then (some 20) else (if a0 = 2 then (some 8) else (if a0 = 3 then (some 8) else (some (-1)))))
theorem impl_upperHead.calls (a0 r : Int) (w : World) (h : impl_upperHead.f a0 = some r) :
  Calls Tryz.prog 131 #[.int .i64 a0] w fun e w' => e = .returned (.int .i64 r) ∧ Drawn0 w w' := by
 have H : (if a0 = 0 then (some 0) else (if a0 = 1 then (some 20) else (if a0 = 2 then (some 8) else (if a0 = 3 then (some 8) else (some (-1)))))) = some r := h
 clear h
 by_cases c2 : a0 = 0
 ·rw [if_pos c2] at H
  have c2b0 : (a0 == 0) = true := beq_iff_eq.mpr c2
  have c2b1 : (a0 != 0) = false := bne_eq_false_iff_eq.mpr c2
  clear c2
  obtain rfl := Option.some.inj H
  go_enter Tryz.func131, Tryz.ntmps131
  go_wp2
  go_ret
  exact ⟨vF, vD⟩
 ·rw [if_neg c2] at H
  have c2b0 : (a0 == 0) = false := beq_eq_false_iff_ne.mpr c2
  have c2b1 : (a0 != 0) = true := bne_iff_ne.mpr c2
  by_cases c3 : a0 = 1
  ·rw [if_pos c3] at H
   have c3b0 : (a0 == 1) = true := beq_iff_eq.mpr c3
   have c3b1 : (a0 != 1) = false := bne_eq_false_iff_eq.mpr c3
   clear c3
   obtain rfl := Option.some.inj H
   go_enter Tryz.func131, Tryz.ntmps131
   go_wp2
   go_ret
   exact ⟨vF, vD⟩
  ·rw [if_neg c3] at H
   have c3b0 : (a0 == 1) = false := beq_eq_false_iff_ne.mpr c3
   have c3b1 : (a0 != 1) = true := bne_iff_ne.mpr c3
   by_cases c4 : a0 = 2
   ·rw [if_pos c4] at H
    have c4b0 : (a0 == 2) = true := beq_iff_eq.mpr c4
    have c4b1 : (a0 != 2) = false := bne_eq_false_iff_eq.mpr c4
    clear c4
    obtain rfl := Option.some.inj H
    go_enter Tryz.func131, Tryz.ntmps131
    go_wp2
    go_ret
    exact ⟨vF, vD⟩
   ·rw [if_neg c4] at H
    have c4b0 : (a0 == 2) = false := beq_eq_false_iff_ne.mpr c4
    have c4b1 : (a0 != 2) = true := bne_iff_ne.mpr c4
    by_cases c5 : a0 = 3
    ·rw [if_pos c5] at H
     have c5b0 : (a0 == 3) = true := beq_iff_eq.mpr c5
     have c5b1 : (a0 != 3) = false := bne_eq_false_iff_eq.mpr c5
     clear c5
     obtain rfl := Option.some.inj H
     go_enter Tryz.func131, Tryz.ntmps131
     go_wp2
     go_ret
     exact ⟨vF, vD⟩
    ·rw [if_neg c5] at H
     have c5b0 : (a0 == 3) = false := beq_eq_false_iff_ne.mpr c5
     have c5b1 : (a0 != 3) = true := bne_iff_ne.mpr c5
     obtain rfl := Option.some.inj H
     go_enter Tryz.func131, Tryz.ntmps131
     go_wp2
     go_ret
     exact ⟨vF, vD⟩

/-! ### impl_UpperSize: function 109 -/
def impl_UpperSize.f (a0_0 a0_1 : Int) (a0_2 a0_3 : Int) (a0_4 a0_5 : Int) (a0_6 a0_7 : Int) (a0_8 a0_9 a0_10 : Int) (a0_11 : Bool) (l0_12 l0_13 : List Int) : Option (Int) := (impl_upperHead.f a0_0).bind fun t762 => (if t762 < 0 then (some (-1)) else (if a0_0 = 1 then (some (wrap64 ((wrap64 (t762 + (l0_12.length : Int))) + (l0_13.length : Int)))) else (some (wrap64 (t762 + (l0_13.length : Int))))))
theorem impl_UpperSize.calls (a0_0 a0_1 : Int) (a0_2 a0_3 : Int) (a0_4 a0_5 : Int) (a0_6 a0_7 : Int) (a0_8 a0_9 a0_10 : Int) (a0_11 : Bool) (A0_12 : Option Addr) (c0_12 : Nat) (l0_12 : List Int) (A0_13 : Option Addr) (c0_13 : Nat) (l0_13 : List Int) (r : Int) (w : World) (hr0_12 : Kd.C (Kd.int .u8) w A0_12 l0_12.length l0_12) (hc0_12 : l0_12.length ≤ c0_12) (hr0_13 : Kd.C (Kd.int .u8) w A0_13 l0_13.length l0_13) (hc0_13 : l0_13.length ≤ c0_13) (h : impl_UpperSize.f a0_0 a0_1 a0_2 a0_3 a0_4 a0_5 a0_6 a0_7 a0_8 a0_9 a0_10 a0_11 l0_12 l0_13 = some r) :
  Calls Tryz.prog 109 #[.agg #[.int .i64 a0_0, .int .i64 a0_1, .int .i64 a0_2, .int .i64 a0_3, .int .i64 a0_4, .int .i64 a0_5, .int .i64 a0_6, .int .i64 a0_7, .int .i64 a0_8, .int .i64 a0_9, .int .i64 a0_10, .bool a0_11, .slice A0_12 l0_12.length c0_12, .slice A0_13 l0_13.length c0_13]] w fun e w' => e = .returned (.int .i64 r) ∧ Below w.heap.size w w' := by
 have hu22 := Tryz.underlying22
 have hu45 := Tryz.underlying45
 have HR0_12 := Aside0.mk hr0_12
 have HC0_12 := Aside0.mk hc0_12
 have HR0_13 := Aside0.mk hr0_13
 have HC0_13 := Aside0.mk hc0_13
 clear hr0_12 hc0_12 hr0_13 hc0_13
 have HF := Fr.start [45] w
 have HP := Aside0.mk True.intro
 unfold impl_UpperSize.f at h
 have HH := Aside0.mk h
 clear h
 go_enter Tryz.func109, Tryz.ntmps109
 repeat' (with_reducible first | exact xE HH | (replace HH := iA HP HH; clear HP; rcases HH with ⟨p, HP, HH⟩ | ⟨p, HP, HH⟩ <;> first | subst p | cases p | skip) | fail)
 all_goals (repeat' (first
    | ((with_reducible refine gA 0 ?_) <;> (refine HF.bA ?_; clear HF; intro g_ w_ HF; refine nA ?_) <;> (refine sA ?_) <;> (apply lend))
    | ((with_reducible refine gA 1 ?_) <;> (iterate 2 refine sA ?_) <;> ((replace HH := bA HH); obtain ⟨_, A6_, HH⟩ := HH; (try dsimp only at HH)) <;> (repeat' (with_reducible first | exact xE HH | (replace HH := iA HP HH; clear HP; rcases HH with ⟨p, HP, HH⟩ | ⟨p, HP, HH⟩ <;> first | subst p | cases p | skip) | fail)) <;> (refine HF.dB Tryz.func131 (by (with_reducible apply impl_upperHead.calls (h := A6_.out))) ?_; clear HF A6_; intro w_ HF) <;> (refine sA ?_) <;> (apply lend))
    | ((with_reducible refine gA 2 ?_) <;> (iterate 2 refine sA ?_) <;> (apply lend))
    | ((with_reducible refine gA 3 ?_) <;> (refine sA ?_) <;> (apply lend))
    | ((with_reducible refine gA 4 ?_) <;> (iterate 3 refine sA ?_) <;> (apply lend))
    | ((with_reducible refine gA 5 ?_) <;> (iterate 6 refine sA ?_) <;> (apply lend))
    | ((with_reducible refine gA 6 ?_) <;> (iterate 6 refine sA ?_) <;> (apply lend))
    | go_step | fail))
 all_goals (have h_ := HH.out; clear HH; cases h_ <;> (go_ret; first
   | exact ⟨vE, HF.below⟩))

/-! ### impl_isByte: function 113 -/
def impl_isByte.f (a0 : Int) : Option (Bool) := (impl_within.f a0 0 255).bind fun t763 => (some t763)
theorem impl_isByte.calls (a0 : Int) (r : Bool) (w : World) (h : impl_isByte.f a0 = some r) :
  Calls Tryz.prog 113 #[.int .i64 a0] w fun e w' => e = .returned (.bool r) ∧ Drawn0 w w' := by
 have H : ((impl_within.f a0 0 255).bind fun t763 => (some t763)) = some r := h
 clear h
 replace H := Option.bind_eq_some_iff.mp H
 obtain ⟨t763, A20, H⟩ := H
 replace H : (some t763) = some r := H
 have A2 := Aside0.mk A20
 clear A20
 obtain rfl := Option.some.inj H
 go_enter Tryz.func113, Tryz.ntmps113
 go_wp2_with (first | ((with_reducible refine gate_callee (f := 85) rfl ?_); refine goesL_ (some 4) rfl rfl Tryz.func85 (by kernel_rfl) rfl #[.int .i64 a0, .int .i64 0, .int .i64 255] rfl (by (try simp only [List.map_toArray, List.map_cons, List.map_nil]); first | done | rfl | (simp only [List.length_drop, List.length_take]; rfl)) ?_; (with_reducible refine (impl_within.calls a0 0 255 t763 _ A2.out).mono ?_); rintro e w' ⟨rfl, ⟨nd, rfl⟩⟩; refine ⟨_, rfl, ?_⟩))
 go_ret
 exact ⟨vF, vD⟩

/-! ### impl_isWord: function 116 -/
def impl_isWord.f (a0 : Int) : Option (Bool) := (impl_within.f a0 0 65535).bind fun t764 => (some t764)
theorem impl_isWord.calls (a0 : Int) (r : Bool) (w : World) (h : impl_isWord.f a0 = some r) :
  Calls Tryz.prog 116 #[.int .i64 a0] w fun e w' => e = .returned (.bool r) ∧ Drawn0 w w' := by
 have H : ((impl_within.f a0 0 65535).bind fun t764 => (some t764)) = some r := h
 clear h
 replace H := Option.bind_eq_some_iff.mp H
 obtain ⟨t764, A20, H⟩ := H
 replace H : (some t764) = some r := H
 have A2 := Aside0.mk A20
 clear A20
 obtain rfl := Option.some.inj H
 go_enter Tryz.func116, Tryz.ntmps116
 go_wp2_with (first | ((with_reducible refine gate_callee (f := 85) rfl ?_); refine goesL_ (some 4) rfl rfl Tryz.func85 (by kernel_rfl) rfl #[.int .i64 a0, .int .i64 0, .int .i64 65535] rfl (by (try simp only [List.map_toArray, List.map_cons, List.map_nil]); first | done | rfl | (simp only [List.length_drop, List.length_take]; rfl)) ?_; (with_reducible refine (impl_within.calls a0 0 65535 t764 _ A2.out).mono ?_); rintro e w' ⟨rfl, ⟨nd, rfl⟩⟩; refine ⟨_, rfl, ?_⟩))
 go_ret
 exact ⟨vF, vD⟩

/-! ### impl_areWords: function 129 -/
def impl_areWords.l0 : Nat → List Int → Int → Int → Option (Bool)
 | 0, _, _, _ => none
 | k + 1, x5, x6, x7 => if x7 < x6 then (if 0 ≤ x7 then (if x7 < (x5.length : Int) then ((impl_isWord.f (rd x5 x7)).bind fun t766 => (if t766 = true then (impl_areWords.l0 k x5 x6 (wrap64 (x7 + 1))) else (some false))) else (none)) else (none)) else (some true)
def impl_areWords.f (k : Nat) (l0 : List Int) : Option (Bool) := impl_areWords.l0 k l0 (l0.length : Int) 0
theorem impl_areWords.calls (k : Nat) (A0 : Option Addr) (c0 : Nat) (l0 : List Int) (r : Bool) (w : World) (hr0 : Kd.C (Kd.int .i64) w A0 l0.length l0) (hc0 : l0.length ≤ c0) (h : impl_areWords.f k l0 = some r) :
  Calls Tryz.prog 129 #[.slice A0 l0.length c0] w fun e w' => e = .returned (.bool r) ∧ Drawn0 w w' := by
 have HR0 := Aside0.mk hr0
 have HC0 := Aside0.mk hc0
 clear hr0 hc0
 have H : (impl_areWords.l0 k l0 (l0.length : Int) 0) = some r := h
 clear h
 have H' := Aside0.mk H
 clear H
 go_enter Tryz.func129, Tryz.ntmps129
 go_wp2
 go_loopg [7] k (fun kq v7 w' => ∃ (x7_1 : Int), v7 = .int .i64 x7_1 ∧ Aside0 (impl_areWords.l0 kq l0 (l0.length : Int) x7_1 = some r) ∧ Aside0 (kq ≤ k) ∧ Drawn0 w w')
 case atStart => exact ⟨(0), (by first | rfl | (simp; done) | (simp [*]; done)), H', ⟨Nat.le_refl _⟩, by repeat (first | exact Drawn0.refl _ | apply Drawn0.step)⟩
 case round =>
  clear H'
  try clear c1
  obtain ⟨x7_1, rfl, HA, HK1, ⟨m1, rfl⟩⟩ := hrel
  cases gk with
  | zero => exact absurd HA.out (by simp [impl_areWords.l0])
  | succ k1 =>
   have H := HA.out
   clear HA
   simp only [impl_areWords.l0] at H
   by_cases c2 : x7_1 < (l0.length : Int)
   ·rw [if_pos c2] at H
    have c2b0 : decide (x7_1 < (l0.length : Int)) = true := decide_eq_true c2
    clear c2
    by_cases c3 : 0 ≤ x7_1
    ·rw [if_pos c3] at H
     have c3b0 : decide (0 ≤ x7_1) = true := decide_eq_true c3
     clear c3
     by_cases c4 : x7_1 < (l0.length : Int)
     ·rw [if_pos c4] at H
      have c4b0 : decide (x7_1 < (l0.length : Int)) = true := decide_eq_true c4
      clear c4
      replace H := Option.bind_eq_some_iff.mp H
      obtain ⟨t766, A50, H⟩ := H
      replace H : (if t766 = true then (impl_areWords.l0 k1 l0 (l0.length : Int) (wrap64 (x7_1 + 1))) else (some false)) = some r := H
      have A5 := Aside0.mk A50
      clear A50
      by_cases c6 : t766 = true
      ·subst c6
       have H1 : (impl_areWords.l0 k1 l0 (l0.length : Int) (wrap64 (x7_1 + 1))) = some r := by rw [if_pos rfl] at H; exact H
       clear H
       have H := H1
       clear H1
       have H' := Aside0.mk H
       clear H
       have p765 : 0 ≤ (x7_1 : Int) := of_decide_eq_true (by first | (with_reducible assumption) | assumption)
       have q765 : x7_1 < (l0.length : Int) := of_decide_eq_true (by first | (with_reducible assumption) | assumption)
       obtain ⟨ad765, e765, hx765_0⟩ := Kd.at_int HR0.out x7_1 p765 q765
       cases e765
       replace p765 := eq_true p765
       replace q765 := eq_true q765
       go_wp2_with (first | ((with_reducible refine gate_callee (f := 116) rfl ?_); refine goesL_ (some 12) rfl rfl Tryz.func116 (by kernel_rfl) rfl #[.int .i64 (rd l0 x7_1)] rfl (by (try simp only [List.map_toArray, List.map_cons, List.map_nil]); first | done | rfl | (simp only [List.length_drop, List.length_take]; rfl)) ?_; (with_reducible refine (impl_isWord.calls (rd l0 x7_1) true _ A5.out).mono ?_); rintro e w' ⟨rfl, ⟨nd, rfl⟩⟩; refine ⟨_, rfl, ?_⟩))
       go_roundg k1
       case measure => have := HK1.out; omega
       case rel => exact ⟨(wrap64 (x7_1 + 1)), (by first | rfl | (simp; done) | (simp [*]; done)), H', ⟨by have := HK1.out; omega⟩, by repeat (first | exact Drawn0.refl _ | apply Drawn0.step)⟩
      ·replace c6 := Bool.eq_false_iff.mpr c6
       subst c6
       have H1 : (some false) = some r := by rw [if_neg (show ¬ (false = true) by decide)] at H; exact H
       clear H
       have H := H1
       clear H1
       obtain rfl := Option.some.inj H
       have p765 : 0 ≤ (x7_1 : Int) := of_decide_eq_true (by first | (with_reducible assumption) | assumption)
       have q765 : x7_1 < (l0.length : Int) := of_decide_eq_true (by first | (with_reducible assumption) | assumption)
       obtain ⟨ad765, e765, hx765_0⟩ := Kd.at_int HR0.out x7_1 p765 q765
       cases e765
       replace p765 := eq_true p765
       replace q765 := eq_true q765
       go_wp2_with (first | ((with_reducible refine gate_callee (f := 116) rfl ?_); refine goesL_ (some 12) rfl rfl Tryz.func116 (by kernel_rfl) rfl #[.int .i64 (rd l0 x7_1)] rfl (by (try simp only [List.map_toArray, List.map_cons, List.map_nil]); first | done | rfl | (simp only [List.length_drop, List.length_take]; rfl)) ?_; (with_reducible refine (impl_isWord.calls (rd l0 x7_1) false _ A5.out).mono ?_); rintro e w' ⟨rfl, ⟨nd, rfl⟩⟩; refine ⟨_, rfl, ?_⟩))
       go_ret
       exact ⟨vF, vD⟩
     ·rw [if_neg c4] at H
      exact absurd H (by simp)
    ·rw [if_neg c3] at H
     exact absurd H (by simp)
   ·rw [if_neg c2] at H
    have c2b0 : decide (x7_1 < (l0.length : Int)) = false := decide_eq_false c2
    clear c2
    obtain rfl := Option.some.inj H
    go_wp2
    go_ret
    exact ⟨vF, vD⟩

/-! ### impl_UpperOk: function 107 -/
def impl_UpperOk.F1 (a0_0 : Int) (a0_1 : Int) (a0_2 : Int) (a0_3 : Int) (a0_4 : Int) (a0_5 : Int) (a0_6 : Int) (a0_7 : Int) (a0_8 : Int) (a0_9 : Int) (a0_10 : Int) (a0_11 : Bool) (l0_12 : List Int) (l0_13 : List Int) (a1 : Int) : Option Bool := if a1 = 4 then ((impl_UpperSize.f a0_0 a0_1 a0_2 a0_3 a0_4 a0_5 a0_6 a0_7 a0_8 a0_9 a0_10 a0_11 l0_12 l0_13).bind fun t5 => (if t5 < 0 then ((some true)) else ((impl_UpperSize.f a0_0 a0_1 a0_2 a0_3 a0_4 a0_5 a0_6 a0_7 a0_8 a0_9 a0_10 a0_11 l0_12 l0_13).bind fun t6 => (if t6 > 1500 then ((some true)) else ((some false)))))) else (if a1 = 6 then ((impl_UpperSize.f a0_0 a0_1 a0_2 a0_3 a0_4 a0_5 a0_6 a0_7 a0_8 a0_9 a0_10 a0_11 l0_12 l0_13).bind fun t7 => (if t7 < 0 then ((some true)) else ((impl_UpperSize.f a0_0 a0_1 a0_2 a0_3 a0_4 a0_5 a0_6 a0_7 a0_8 a0_9 a0_10 a0_11 l0_12 l0_13).bind fun t8 => (if t8 > 1500 then ((some true)) else ((some false)))))) else ((some true)))
def impl_UpperOk.F4 (k : Nat) (a0_3 : Int) (a0_4 : Int) (a0_5 : Int) (a0_6 : Int) (a0_7 : Int) (l0_12 : List Int) : Option Bool := (impl_areWords.f k ([a0_6, a0_7] : List Int)).bind fun t15 => (if t15 = true then ((impl_isLong.f a0_3).bind fun t16 => (if t16 = true then ((impl_isLong.f a0_4).bind fun t17 => (if t17 = true then ((impl_within.f a0_5 0 4095).bind fun t18 => (if t18 = true then (if (l0_12.length : Int) ≤ 40 then (if ((l0_12.length : Int) % 4) = 0 then ((some true)) else ((some false))) else ((some false))) else ((some false)))) else ((some false)))) else ((some false)))) else ((some false)))
def impl_UpperOk.F5 (a0_8 : Int) (a0_9 : Int) (a0_10 : Int) : Option Bool := (impl_isByte.f a0_8).bind fun t22 => (if t22 = true then ((impl_isByte.f a0_9).bind fun t23 => (if t23 = true then ((impl_isLong.f a0_10).bind fun t24 => ((some t24))) else ((some false)))) else ((some false)))
def impl_UpperOk.f (k : Nat) (a0_0 a0_1 : Int) (a0_2 a0_3 : Int) (a0_4 a0_5 : Int) (a0_6 a0_7 : Int) (a0_8 a0_9 a0_10 : Int) (a0_11 : Bool) (l0_12 l0_13 : List Int) (a1 : Int) : Option (Bool) := (impl_UpperOk.F1 a0_0 a0_1 a0_2 a0_3 a0_4 a0_5 a0_6 a0_7 a0_8 a0_9 a0_10 a0_11 l0_12 l0_13 a1).bind fun b1 => (if b1 = true then ((some false)) else ((impl_areWords.f k ([a0_1, a0_2] : List Int)).bind fun t10 => ((impl_UpperOk.F4 k a0_3 a0_4 a0_5 a0_6 a0_7 l0_12).bind fun b4 => ((impl_UpperOk.F5 a0_8 a0_9 a0_10).bind fun b5 => (if a0_0 = 1 then (if t10 = true then (if b4 = true then ((impl_areZero.f ([a0_8, a0_9, a0_10] : List Int)).bind fun t25 => (if t25 = true then (if a0_11 = true then ((some false)) else ((some true))) else ((some false)))) else ((some false))) else ((some false))) else (if a0_0 = 2 then (if t10 = true then ((impl_areZero.f ([a0_3, a0_4, a0_5, a0_6, a0_7, a0_8, a0_9, a0_10, (l0_12.length : Int)] : List Int)).bind fun t26 => (if t26 = true then (if a0_11 = true then (if a1 = 4 then ((some true)) else ((some false))) else ((some true))) else ((some false)))) else ((some false))) else (if a0_0 = 3 then (if b5 = true then ((impl_areZero.f ([a0_1, a0_2, a0_3, a0_4, a0_5, a0_6, a0_7, (l0_12.length : Int)] : List Int)).bind fun t27 => (if t27 = true then (if a0_11 = true then ((some false)) else ((some true))) else ((some false)))) else ((some false))) else ((impl_areZero.f ([a0_1, a0_2, a0_3, a0_4, a0_5, a0_6, a0_7, a0_8, a0_9, a0_10, (l0_12.length : Int)] : List Int)).bind fun t28 => (if t28 = true then (if a0_11 = true then ((some false)) else ((some true))) else ((some false)))))))))))
theorem impl_UpperOk.calls (k : Nat) (a0_0 a0_1 : Int) (a0_2 a0_3 : Int) (a0_4 a0_5 : Int) (a0_6 a0_7 : Int) (a0_8 a0_9 a0_10 : Int) (a0_11 : Bool) (A0_12 : Option Addr) (c0_12 : Nat) (l0_12 : List Int) (A0_13 : Option Addr) (c0_13 : Nat) (l0_13 : List Int) (a1 : Int) (r : Bool) (w : World) (hr0_12 : Kd.C (Kd.int .u8) w A0_12 l0_12.length l0_12) (hc0_12 : l0_12.length ≤ c0_12) (hr0_13 : Kd.C (Kd.int .u8) w A0_13 l0_13.length l0_13) (hc0_13 : l0_13.length ≤ c0_13) (h : impl_UpperOk.f k a0_0 a0_1 a0_2 a0_3 a0_4 a0_5 a0_6 a0_7 a0_8 a0_9 a0_10 a0_11 l0_12 l0_13 a1 = some r) :
  Calls Tryz.prog 107 #[.agg #[.int .i64 a0_0, .int .i64 a0_1, .int .i64 a0_2, .int .i64 a0_3, .int .i64 a0_4, .int .i64 a0_5, .int .i64 a0_6, .int .i64 a0_7, .int .i64 a0_8, .int .i64 a0_9, .int .i64 a0_10, .bool a0_11, .slice A0_12 l0_12.length c0_12, .slice A0_13 l0_13.length c0_13], .int .i64 a1] w fun e w' => e = .returned (.bool r) ∧ Below w.heap.size w w' := by
 have hu22 := Tryz.underlying22
 have hu45 := Tryz.underlying45
 have hu104 := Tryz.underlying104
 have HR0_12 := Aside0.mk hr0_12
 have HC0_12 := Aside0.mk hc0_12
 have HR0_13 := Aside0.mk hr0_13
 have HC0_13 := Aside0.mk hc0_13
 clear hr0_12 hc0_12 hr0_13 hc0_13
 have HF := Fr.start [45] w
 have HP := Aside0.mk True.intro
 unfold impl_UpperOk.f at h
 have HH := Aside0.mk h
 clear h
 go_enter Tryz.func107, Tryz.ntmps107
 repeat' (with_reducible first | exact xE HH | (replace HH := iA HP HH; clear HP; rcases HH with ⟨p, HP, HH⟩ | ⟨p, HP, HH⟩ <;> first | subst p | cases p | skip) | fail)
 all_goals (repeat' (first
    | ((with_reducible refine gate_region (id := 0) ?_); ((apply plain_region) <;> (((with_reducible apply Fr.lbox HF rfl rfl rfl); (go_simp; rfl); decide; clear HF; intro g_ w_ HF); refine nA ?_) <;> (refine sA ?_) <;> (apply lend)))
    | ((with_reducible refine gate_region (id := 1) ?_); have h_ := HH.out; (with_reducible replace h_ := Option.bind_eq_some_iff.mp h_); clear HH; obtain ⟨bk_, A_, h_⟩ := h_; have HX := Aside0.mk h_; clear h_; unfold impl_UpperOk.F1 at A_; have HH := Aside0.mk A_; clear A_; refine join_ HF (fun a a' => ∃ v8 v9 v10 v11 v12 v13 v14 v15 v16 v17 v18 v19 v20 v21 v22 : Value, a' = ((((((((((((((((a.put (some 8) v8).put (some 9) v9).put (some 10) v10).put (some 11) v11).put (some 12) v12).put (some 13) v13).put (some 14) v14).put (some 15) v15).put (some 16) v16).put (some 17) v17).put (some 18) v18).put (some 19) v19).put (some 20) v20).put (some 21) v21).put (some 22) v22).put (some 23) (.bool bk_))) ?_ ?_; (focus ((intro Q1_ HQ1_) <;> (repeat' (with_reducible first | exact xE HH | (replace HH := iA HP HH; clear HP; rcases HH with ⟨p, HP, HH⟩ | ⟨p, HP, HH⟩ <;> first | subst p | cases p | skip) | fail)) <;> (apply plain_region) <;> (iterate 8 refine sA ?_) <;> (first | (have h_ := HH.out; (with_reducible replace h_ := Option.bind_eq_some_iff.mp h_); clear HH; obtain ⟨_, A_, h_⟩ := h_; have HH := Aside0.mk h_; clear h_; replace A_ := Aside0.mk A_; apply cA Tryz.func109 (by kernel_rfl) rfl rfl rfl rfl; (with_reducible apply impl_UpperSize.calls (h := A_.out)); (first | exact Kd.C_below HR0_12.out HF.below | exact Kd.C_below HR0_13.out HF.below); (first | exact HC0_12.out | exact HC0_13.out); (first | exact Kd.C_below HR0_12.out HF.below | exact Kd.C_below HR0_13.out HF.below); (first | exact HC0_12.out | exact HC0_13.out); rintro e w_ ⟨rfl, hb_⟩; refine ⟨_, rfl, ?_⟩; replace HF := HF.call hb_; clear hb_; rotate_left; exact hA; clear A_; refine nA ?_) | (refine oA ?_)) <;> (repeat' (with_reducible first | exact xE HH | (replace HH := iA HP HH; clear HP; rcases HH with ⟨p, HP, HH⟩ | ⟨p, HP, HH⟩ <;> first | subst p | cases p | skip) | fail)) <;> (iterate 4 refine sA ?_) <;> (first | (have h_ := HH.out; (with_reducible replace h_ := Option.bind_eq_some_iff.mp h_); clear HH; obtain ⟨_, A_, h_⟩ := h_; have HH := Aside0.mk h_; clear h_; replace A_ := Aside0.mk A_; apply cA Tryz.func109 (by kernel_rfl) rfl rfl rfl rfl; (with_reducible apply impl_UpperSize.calls (h := A_.out)); (first | exact Kd.C_below HR0_12.out HF.below | exact Kd.C_below HR0_13.out HF.below); (first | exact HC0_12.out | exact HC0_13.out); (first | exact Kd.C_below HR0_12.out HF.below | exact Kd.C_below HR0_13.out HF.below); (first | exact HC0_12.out | exact HC0_13.out); rintro e w_ ⟨rfl, hb_⟩; refine ⟨_, rfl, ?_⟩; replace HF := HF.call hb_; clear hb_; rotate_left; exact hA; clear A_; refine nA ?_) | (refine oA ?_)) <;> (repeat' (with_reducible first | exact xE HH | (replace HH := iA HP HH; clear HP; rcases HH with ⟨p, HP, HH⟩ | ⟨p, HP, HH⟩ <;> first | subst p | cases p | skip) | fail)) <;> (iterate 2 refine sA ?_) <;> (apply lend; obtain rfl := Option.some.inj HH.out; refine HQ1_ _ _ ?_ HF; (repeat' apply Exists.intro); (simp only [Act.put, List.setIfInBounds_toArray, List.set_cons_zero, List.set_cons_succ]; rfl)))); (try clear HL_); clear HF HH; rintro a1_ W1_ ⟨⟨_, _, _, _, _, _, _, _, _, _, _, _, _, _, _, rfl⟩, HF⟩; have HH := HX; clear HX; (refine qnorm (a' := ?_) ?_ ?_; rotate_left; (simp only [Act.put, List.setIfInBounds_toArray, List.set_cons_zero, List.set_cons_succ, i64_w, i32_w, tmod_nat, List.map_cons, List.map_nil]; rfl)); (repeat' (with_reducible first | exact xE HH | (replace HH := iA HP HH; clear HP; rcases HH with ⟨p, HP, HH⟩ | ⟨p, HP, HH⟩ <;> first | subst p | cases p | skip) | fail)))
    | ((with_reducible refine gate_region (id := 2) ?_); ((apply plain_region) <;> (refine sA ?_) <;> (apply lend)))
    | ((with_reducible refine gate_region (id := 3) ?_); ((apply plain_region) <;> (iterate 4 refine sA ?_) <;> (apply HF.lbuild rfl rfl; (go_simp; first | exact ⟨rfl, rfl⟩ | exact ⟨rfl, rfl, rfl⟩ | rfl); clear HF; intro g_ w_ hg_ hb_ hh_ HF; (try simp only [i64_w] at hh_); (try clear HL_); have HL_ := Aside0.mk hh_; clear hg_ hh_ hb_; refine nA ?_) <;> (have h_ := HH.out; (with_reducible replace h_ := Option.bind_eq_some_iff.mp h_); clear HH; obtain ⟨_, A_, h_⟩ := h_; have HH := Aside0.mk h_; clear h_; replace A_ := Aside0.mk A_; apply cA Tryz.func129 (by kernel_rfl) rfl rfl rfl rfl; (with_reducible apply impl_areWords.calls (A0 := some ⟨g_, 0, none⟩) (c0 := 2) (h := A_.out)); exact bytesC (k := .i64) (xs := [_, _]) HL_.out (by simp); exact Nat.le_refl _; rintro e w_ ⟨rfl, hb_⟩; refine ⟨_, rfl, ?_⟩; replace HF := HF.drawn hb_; clear hb_; rotate_left; exact hA; clear A_; refine nA ?_) <;> (repeat' (with_reducible first | exact xE HH | (replace HH := iA HP HH; clear HP; rcases HH with ⟨p, HP, HH⟩ | ⟨p, HP, HH⟩ <;> first | subst p | cases p | skip) | fail)) <;> (refine sA ?_) <;> (apply lend)))
    | ((with_reducible refine gate_region (id := 4) ?_); have h_ := HH.out; (with_reducible replace h_ := Option.bind_eq_some_iff.mp h_); clear HH; obtain ⟨bk_, A_, h_⟩ := h_; have HX := Aside0.mk h_; clear h_; unfold impl_UpperOk.F4 at A_; have HH := Aside0.mk A_; clear A_; refine join_ HF (fun a a' => ∃ v30 v31 v32 v33 v34 v35 v36 v37 v38 v39 v40 v41 v42 v43 v44 v45 v46 v47 v48 v49 v50 v51 v52 v53 v54 v55 v56 v57 v58 v59 v60 v61 v62 v63 : Value, a' = (((((((((((((((((((((((((((((((((((a.put (some 30) v30).put (some 31) v31).put (some 32) v32).put (some 33) v33).put (some 34) v34).put (some 35) v35).put (some 36) v36).put (some 37) v37).put (some 38) v38).put (some 39) v39).put (some 40) v40).put (some 41) v41).put (some 42) v42).put (some 43) v43).put (some 44) v44).put (some 45) v45).put (some 46) v46).put (some 47) v47).put (some 48) v48).put (some 49) v49).put (some 50) v50).put (some 51) v51).put (some 52) v52).put (some 53) v53).put (some 54) v54).put (some 55) v55).put (some 56) v56).put (some 57) v57).put (some 58) v58).put (some 59) v59).put (some 60) v60).put (some 61) v61).put (some 62) v62).put (some 63) v63).put (some 6) (.bool bk_))) ?_ ?_; (focus ((intro Q1_ HQ1_) <;> (repeat' (with_reducible first | exact xE HH | (replace HH := iA HP HH; clear HP; rcases HH with ⟨p, HP, HH⟩ | ⟨p, HP, HH⟩ <;> first | subst p | cases p | skip) | fail)) <;> (apply plain_region) <;> (iterate 4 refine sA ?_) <;> (apply HF.lbuild rfl rfl; (go_simp; first | exact ⟨rfl, rfl⟩ | exact ⟨rfl, rfl, rfl⟩ | rfl); clear HF; intro g_ w_ hg_ hb_ hh_ HF; (try simp only [i64_w] at hh_); (try clear HL_); have HL_ := Aside0.mk hh_; clear hg_ hh_ hb_; refine nA ?_) <;> (have h_ := HH.out; (with_reducible replace h_ := Option.bind_eq_some_iff.mp h_); clear HH; obtain ⟨_, A_, h_⟩ := h_; have HH := Aside0.mk h_; clear h_; replace A_ := Aside0.mk A_; apply cA Tryz.func129 (by kernel_rfl) rfl rfl rfl rfl; (with_reducible apply impl_areWords.calls (A0 := some ⟨g_, 0, none⟩) (c0 := 2) (h := A_.out)); exact bytesC (k := .i64) (xs := [_, _]) HL_.out (by simp); exact Nat.le_refl _; rintro e w_ ⟨rfl, hb_⟩; refine ⟨_, rfl, ?_⟩; replace HF := HF.drawn hb_; clear hb_; rotate_left; exact hA; clear A_; refine nA ?_) <;> (repeat' (with_reducible first | exact xE HH | (replace HH := iA HP HH; clear HP; rcases HH with ⟨p, HP, HH⟩ | ⟨p, HP, HH⟩ <;> first | subst p | cases p | skip) | fail)) <;> (iterate 3 refine sA ?_) <;> (first | (have h_ := HH.out; (with_reducible replace h_ := Option.bind_eq_some_iff.mp h_); clear HH; obtain ⟨_, A_, h_⟩ := h_; have HH := Aside0.mk h_; clear h_; replace A_ := Aside0.mk A_; apply cA Tryz.func130 (by kernel_rfl) rfl rfl rfl rfl; (with_reducible apply impl_isLong.calls (h := A_.out)); rintro e w_ ⟨rfl, hb_⟩; refine ⟨_, rfl, ?_⟩; replace HF := HF.drawn hb_; clear hb_; rotate_left; exact hA; clear A_; refine nA ?_) | (refine oA ?_)) <;> (repeat' (with_reducible first | exact xE HH | (replace HH := iA HP HH; clear HP; rcases HH with ⟨p, HP, HH⟩ | ⟨p, HP, HH⟩ <;> first | subst p | cases p | skip) | fail)) <;> (iterate 4 refine sA ?_) <;> (first | (have h_ := HH.out; (with_reducible replace h_ := Option.bind_eq_some_iff.mp h_); clear HH; obtain ⟨_, A_, h_⟩ := h_; have HH := Aside0.mk h_; clear h_; replace A_ := Aside0.mk A_; apply cA Tryz.func130 (by kernel_rfl) rfl rfl rfl rfl; (with_reducible apply impl_isLong.calls (h := A_.out)); rintro e w_ ⟨rfl, hb_⟩; refine ⟨_, rfl, ?_⟩; replace HF := HF.drawn hb_; clear hb_; rotate_left; exact hA; clear A_; refine nA ?_) | (refine oA ?_)) <;> (repeat' (with_reducible first | exact xE HH | (replace HH := iA HP HH; clear HP; rcases HH with ⟨p, HP, HH⟩ | ⟨p, HP, HH⟩ <;> first | subst p | cases p | skip) | fail)) <;> (iterate 4 refine sA ?_) <;> (first | (have h_ := HH.out; (with_reducible replace h_ := Option.bind_eq_some_iff.mp h_); clear HH; obtain ⟨_, A_, h_⟩ := h_; have HH := Aside0.mk h_; clear h_; replace A_ := Aside0.mk A_; apply cA Tryz.func85 (by kernel_rfl) rfl rfl rfl rfl; (with_reducible apply impl_within.calls (h := A_.out)); rintro e w_ ⟨rfl, hb_⟩; refine ⟨_, rfl, ?_⟩; replace HF := HF.drawn hb_; clear hb_; rotate_left; exact hA; clear A_; refine nA ?_) | (refine oA ?_)) <;> (repeat' (with_reducible first | exact xE HH | (replace HH := iA HP HH; clear HP; rcases HH with ⟨p, HP, HH⟩ | ⟨p, HP, HH⟩ <;> first | subst p | cases p | skip) | fail)) <;> (iterate 15 refine sA ?_) <;> (apply lend; obtain rfl := Option.some.inj HH.out; refine HQ1_ _ _ ?_ HF; (repeat' apply Exists.intro); (simp only [Act.put, List.setIfInBounds_toArray, List.set_cons_zero, List.set_cons_succ]; rfl)))); (try clear HL_); clear HF HH; rintro a1_ W1_ ⟨⟨_, _, _, _, _, _, _, _, _, _, _, _, _, _, _, _, _, _, _, _, _, _, _, _, _, _, _, _, _, _, _, _, _, _, rfl⟩, HF⟩; have HH := HX; clear HX; (refine qnorm (a' := ?_) ?_ ?_; rotate_left; (simp only [Act.put, List.setIfInBounds_toArray, List.set_cons_zero, List.set_cons_succ, i64_w, i32_w, tmod_nat, List.map_cons, List.map_nil]; rfl)); (repeat' (with_reducible first | exact xE HH | (replace HH := iA HP HH; clear HP; rcases HH with ⟨p, HP, HH⟩ | ⟨p, HP, HH⟩ <;> first | subst p | cases p | skip) | fail)))
    | ((with_reducible refine gate_region (id := 5) ?_); have h_ := HH.out; (with_reducible replace h_ := Option.bind_eq_some_iff.mp h_); clear HH; obtain ⟨bk_, A_, h_⟩ := h_; have HX := Aside0.mk h_; clear h_; unfold impl_UpperOk.F5 at A_; have HH := Aside0.mk A_; clear A_; refine join_ HF (fun a a' => ∃ v64 v65 v66 v67 v68 v69 v70 v71 v72 v73 v74 v75 v76 : Value, a' = ((((((((((((((a.put (some 64) v64).put (some 65) v65).put (some 66) v66).put (some 67) v67).put (some 68) v68).put (some 69) v69).put (some 70) v70).put (some 71) v71).put (some 72) v72).put (some 73) v73).put (some 74) v74).put (some 75) v75).put (some 76) v76).put (some 7) (.bool bk_))) ?_ ?_; (focus ((intro Q1_ HQ1_) <;> (repeat' (with_reducible first | exact xE HH | (replace HH := iA HP HH; clear HP; rcases HH with ⟨p, HP, HH⟩ | ⟨p, HP, HH⟩ <;> first | subst p | cases p | skip) | fail)) <;> (apply plain_region) <;> (iterate 2 refine sA ?_) <;> (have h_ := HH.out; (with_reducible replace h_ := Option.bind_eq_some_iff.mp h_); clear HH; obtain ⟨_, A_, h_⟩ := h_; have HH := Aside0.mk h_; clear h_; replace A_ := Aside0.mk A_; apply cA Tryz.func113 (by kernel_rfl) rfl rfl rfl rfl; (with_reducible apply impl_isByte.calls (h := A_.out)); rintro e w_ ⟨rfl, hb_⟩; refine ⟨_, rfl, ?_⟩; replace HF := HF.drawn hb_; clear hb_; rotate_left; exact hA; clear A_; refine nA ?_) <;> (repeat' (with_reducible first | exact xE HH | (replace HH := iA HP HH; clear HP; rcases HH with ⟨p, HP, HH⟩ | ⟨p, HP, HH⟩ <;> first | subst p | cases p | skip) | fail)) <;> (iterate 3 refine sA ?_) <;> (first | (have h_ := HH.out; (with_reducible replace h_ := Option.bind_eq_some_iff.mp h_); clear HH; obtain ⟨_, A_, h_⟩ := h_; have HH := Aside0.mk h_; clear h_; replace A_ := Aside0.mk A_; apply cA Tryz.func113 (by kernel_rfl) rfl rfl rfl rfl; (with_reducible apply impl_isByte.calls (h := A_.out)); rintro e w_ ⟨rfl, hb_⟩; refine ⟨_, rfl, ?_⟩; replace HF := HF.drawn hb_; clear hb_; rotate_left; exact hA; clear A_; refine nA ?_) | (refine oA ?_)) <;> (repeat' (with_reducible first | exact xE HH | (replace HH := iA HP HH; clear HP; rcases HH with ⟨p, HP, HH⟩ | ⟨p, HP, HH⟩ <;> first | subst p | cases p | skip) | fail)) <;> (iterate 4 refine sA ?_) <;> (first | (have h_ := HH.out; (with_reducible replace h_ := Option.bind_eq_some_iff.mp h_); clear HH; obtain ⟨_, A_, h_⟩ := h_; have HH := Aside0.mk h_; clear h_; replace A_ := Aside0.mk A_; apply cA Tryz.func130 (by kernel_rfl) rfl rfl rfl rfl; (with_reducible apply impl_isLong.calls (h := A_.out)); rintro e w_ ⟨rfl, hb_⟩; refine ⟨_, rfl, ?_⟩; replace HF := HF.drawn hb_; clear hb_; rotate_left; exact hA; clear A_; refine nA ?_) | (refine oA ?_)) <;> (repeat' (with_reducible first | exact xE HH | (replace HH := iA HP HH; clear HP; rcases HH with ⟨p, HP, HH⟩ | ⟨p, HP, HH⟩ <;> first | subst p | cases p | skip) | fail)) <;> (iterate 2 refine sA ?_) <;> (apply lend; obtain rfl := Option.some.inj HH.out; refine HQ1_ _ _ ?_ HF; (repeat' apply Exists.intro); (simp only [Act.put, List.setIfInBounds_toArray, List.set_cons_zero, List.set_cons_succ]; rfl)))); (try clear HL_); clear HF HH; rintro a1_ W1_ ⟨⟨_, _, _, _, _, _, _, _, _, _, _, _, _, rfl⟩, HF⟩; have HH := HX; clear HX; (refine qnorm (a' := ?_) ?_ ?_; rotate_left; (simp only [Act.put, List.setIfInBounds_toArray, List.set_cons_zero, List.set_cons_succ, i64_w, i32_w, tmod_nat, List.map_cons, List.map_nil]; rfl)); (repeat' (with_reducible first | exact xE HH | (replace HH := iA HP HH; clear HP; rcases HH with ⟨p, HP, HH⟩ | ⟨p, HP, HH⟩ <;> first | subst p | cases p | skip) | fail)))
    | ((with_reducible refine gate_region (id := 6) ?_); ((apply plain_region) <;> (iterate 2 refine sA ?_) <;> (apply lend)))
    | ((with_reducible refine gate_region (id := 7) ?_); ((apply plain_region) <;> (iterate 2 refine sA ?_) <;> (apply lend)))
    | ((with_reducible refine gate_region (id := 8) ?_); ((apply plain_region) <;> (iterate 11 refine sA ?_) <;> (first | (apply HF.lbuild rfl rfl; (go_simp; first | exact ⟨rfl, rfl⟩ | exact ⟨rfl, rfl, rfl⟩ | rfl); clear HF; intro g_ w_ hg_ hb_ hh_ HF; (try simp only [i64_w] at hh_); (try clear HL_); have HL_ := Aside0.mk hh_; clear hg_ hh_ hb_; refine nA ?_) | (refine oA ?_)) <;> (first | (have h_ := HH.out; (with_reducible replace h_ := Option.bind_eq_some_iff.mp h_); clear HH; obtain ⟨_, A_, h_⟩ := h_; have HH := Aside0.mk h_; clear h_; replace A_ := Aside0.mk A_; apply cA Tryz.func47 (by kernel_rfl) rfl rfl rfl rfl; (with_reducible apply impl_areZero.calls (A0 := some ⟨g_, 0, none⟩) (c0 := 3) (h := A_.out)); exact bytesC (k := .i64) (xs := [_, _, _]) HL_.out (by simp); exact Nat.le_refl _; rintro e w_ ⟨rfl, hb_⟩; refine ⟨_, rfl, ?_⟩; replace HF := HF.drawn hb_; clear hb_; rotate_left; exact hA; clear A_; refine nA ?_) | (refine oA ?_)) <;> (repeat' (with_reducible first | exact xE HH | (replace HH := iA HP HH; clear HP; rcases HH with ⟨p, HP, HH⟩ | ⟨p, HP, HH⟩ <;> first | subst p | cases p | skip) | fail)) <;> (iterate 7 refine sA ?_) <;> (apply lend)))
    | ((with_reducible refine gate_region (id := 9) ?_); ((apply plain_region) <;> (iterate 2 refine sA ?_) <;> (apply lend)))
    | ((with_reducible refine gate_region (id := 10) ?_); ((apply plain_region) <;> (iterate 21 refine sA ?_) <;> (first | (apply HF.lbuild rfl rfl; (go_simp; first | exact ⟨rfl, rfl⟩ | exact ⟨rfl, rfl, rfl⟩ | rfl); clear HF; intro g_ w_ hg_ hb_ hh_ HF; (try simp only [i64_w] at hh_); (try clear HL_); have HL_ := Aside0.mk hh_; clear hg_ hh_ hb_; refine nA ?_) | (refine oA ?_)) <;> (first | (have h_ := HH.out; (with_reducible replace h_ := Option.bind_eq_some_iff.mp h_); clear HH; obtain ⟨_, A_, h_⟩ := h_; have HH := Aside0.mk h_; clear h_; replace A_ := Aside0.mk A_; apply cA Tryz.func47 (by kernel_rfl) rfl rfl rfl rfl; (with_reducible apply impl_areZero.calls (A0 := some ⟨g_, 0, none⟩) (c0 := 9) (h := A_.out)); exact bytesC (k := .i64) (xs := [_, _, _, _, _, _, _, _, _]) HL_.out (by simp); exact Nat.le_refl _; rintro e w_ ⟨rfl, hb_⟩; refine ⟨_, rfl, ?_⟩; replace HF := HF.drawn hb_; clear hb_; rotate_left; exact hA; clear A_; refine nA ?_) | (refine oA ?_)) <;> (repeat' (with_reducible first | exact xE HH | (replace HH := iA HP HH; clear HP; rcases HH with ⟨p, HP, HH⟩ | ⟨p, HP, HH⟩ <;> first | subst p | cases p | skip) | fail)) <;> (iterate 11 refine sA ?_) <;> (apply lend)))
    | ((with_reducible refine gate_region (id := 11) ?_); ((apply plain_region) <;> (iterate 2 refine sA ?_) <;> (apply lend)))
    | ((with_reducible refine gate_region (id := 12) ?_); ((apply plain_region) <;> (iterate 19 refine sA ?_) <;> (first | (apply HF.lbuild rfl rfl; (go_simp; first | exact ⟨rfl, rfl⟩ | exact ⟨rfl, rfl, rfl⟩ | rfl); clear HF; intro g_ w_ hg_ hb_ hh_ HF; (try simp only [i64_w] at hh_); (try clear HL_); have HL_ := Aside0.mk hh_; clear hg_ hh_ hb_; refine nA ?_) | (refine oA ?_)) <;> (first | (have h_ := HH.out; (with_reducible replace h_ := Option.bind_eq_some_iff.mp h_); clear HH; obtain ⟨_, A_, h_⟩ := h_; have HH := Aside0.mk h_; clear h_; replace A_ := Aside0.mk A_; apply cA Tryz.func47 (by kernel_rfl) rfl rfl rfl rfl; (with_reducible apply impl_areZero.calls (A0 := some ⟨g_, 0, none⟩) (c0 := 8) (h := A_.out)); exact bytesC (k := .i64) (xs := [_, _, _, _, _, _, _, _]) HL_.out (by simp); exact Nat.le_refl _; rintro e w_ ⟨rfl, hb_⟩; refine ⟨_, rfl, ?_⟩; replace HF := HF.drawn hb_; clear hb_; rotate_left; exact hA; clear A_; refine nA ?_) | (refine oA ?_)) <;> (repeat' (with_reducible first | exact xE HH | (replace HH := iA HP HH; clear HP; rcases HH with ⟨p, HP, HH⟩ | ⟨p, HP, HH⟩ <;> first | subst p | cases p | skip) | fail)) <;> (iterate 7 refine sA ?_) <;> (apply lend)))
    | ((with_reducible refine gate_region (id := 13) ?_); ((apply plain_region) <;> (iterate 23 refine sA ?_) <;> (apply HF.lbuild rfl rfl; (go_simp; first | exact ⟨rfl, rfl⟩ | exact ⟨rfl, rfl, rfl⟩ | rfl); clear HF; intro g_ w_ hg_ hb_ hh_ HF; (try simp only [i64_w] at hh_); (try clear HL_); have HL_ := Aside0.mk hh_; clear hg_ hh_ hb_; refine nA ?_) <;> (have h_ := HH.out; (with_reducible replace h_ := Option.bind_eq_some_iff.mp h_); clear HH; obtain ⟨_, A_, h_⟩ := h_; have HH := Aside0.mk h_; clear h_; replace A_ := Aside0.mk A_; apply cA Tryz.func47 (by kernel_rfl) rfl rfl rfl rfl; (with_reducible apply impl_areZero.calls (A0 := some ⟨g_, 0, none⟩) (c0 := 11) (h := A_.out)); exact bytesC (k := .i64) (xs := [_, _, _, _, _, _, _, _, _, _, _]) HL_.out (by simp); exact Nat.le_refl _; rintro e w_ ⟨rfl, hb_⟩; refine ⟨_, rfl, ?_⟩; replace HF := HF.drawn hb_; clear hb_; rotate_left; exact hA; clear A_; refine nA ?_) <;> (repeat' (with_reducible first | exact xE HH | (replace HH := iA HP HH; clear HP; rcases HH with ⟨p, HP, HH⟩ | ⟨p, HP, HH⟩ <;> first | subst p | cases p | skip) | fail)) <;> (iterate 6 refine sA ?_) <;> (apply lend)))
    | go_step | fail))
 all_goals ((first | (obtain rfl := Option.some.inj HH.out) | skip); go_ret; exact ⟨by first | rfl | (simp [errW_none, errW_some] <;> rfl) | (simp [*, errW_none, errW_some] <;> rfl), HF.below⟩)

/-! ### slices_Grow_byte_byte: function 84 -/
def slices_Grow_byte_byte.f (_l0 : List Int) (a1 : Int) : Option (List Int) := if 0 ≤ a1 then (if a1 ≤ 140737488355328 then some [] else none) else none
set_option maxHeartbeats 4000000 in
set_option maxRecDepth 100000 in
theorem slices_Grow_byte_byte.grow (n : Nat) (hn : n ≠ 0) (hb : n ≤ 140737488355328) (w : World) :
  Calls Tryz.prog 84 #[.slice none 0 0, .int .i64 (n : Int)] w fun e w' => ∃ v0_ : Value, e = .returned (v0_) ∧ Kd.R (Kd.int .u8) 5 w' w.heap.size (fun _ => True) v0_ [] ∧ Below w.heap.size w w' := by
 obtain ⟨i0, hi, hz0, hz1, hz2⟩ := info_parts (show (Tryz.prog.info? 5).map (fun i => (i.zero, i.size, i.bytes)) = some (some (.int .u8 0), 1, 1) by kernel_rfl)
 have z25 : ∀ w, (Go.sizeOf 5).run Tryz.prog w = .ok i0.size w := fun w => by simp [Go.sizeOf, typeInfo, hi]
 have h1 : ¬ ((n : Int) < 0) := by omega
 have h3 : wrap64 ((n : Int) - 0) = (n : Int) := by unfold wrap64; omega
 have h4 : (n : Int) > 0 := by omega
 have hrz : ∀ ty, (Builtin.append_ #[22, 3] ty #[.slice none 0 0, .int .i64 (n : Int)]).run Tryz.prog w =
   .ok (.slice (some ⟨w.heap.size, 0, none⟩) n (grownCap w n 0 5)) (w.drew.alloc (.cells (Builtin.zeroCells (Value.int .u8 0).cells n ++ Builtin.zeroCells (Value.int .u8 0).cells (grownCap w n 0 5 - n)) 5)) := fun ty => by
  have h := Lib.run_append_grow_zeros w 22 3 ty 5 i0 (.int .u8 0) .i64 .i64 Tryz.underlying22 Tryz.underlying3 hi hz0 none 0 0 [] (run_firstCells_none w.drew i0.size 0 0 0) n (by omega) (by omega) (by omega) (by omega)
   (by rw [hz2]; omega) (by rw [Nat.zero_add]; exact growslice_fits (by omega) (by rw [hz2]; omega))
  rw [Nat.zero_add] at h
  simpa using h
 have hG : n ≤ grownCap w n 0 5 := grownCap_ge w _ _ _
 have hG63 : grownCap w n 0 5 ≤ 9223372036854775807 := by
  have := grownCap_le_maxLen w n 0 5 (by unfold maxLen; omega)
  unfold maxLen at this
  omega
 obtain ⟨G, hg⟩ : ∃ G, G = grownCap w n 0 5 := ⟨_, rfl⟩
 rw [← hg] at hrz hG hG63
 clear hg
 go_enter Tryz.func84, Tryz.ntmps84
 go_wp2_with (at_builtin; refine Lib.wpList_append_run _ rfl _ _ _ _ rfl _ _ rfl rfl _ _ (hrz _) ?_)
 all_goals (go_ret; exact ⟨_, rfl, ⟨fun _ _ => trivial, [], ⟨rfl, .inr ⟨w.heap.size, G, _, rfl, Nat.le_refl _, heap_alloc_new w _, Nat.zero_le _, by unfold maxLen; omega, by show _ = G * 1; simp [Builtin.zeroCells, Value.cells]; omega, by simp⟩⟩, Reps.none _ _⟩, below_drew (below_alloc (Below.refl _ _) _)⟩)
set_option maxHeartbeats 4000000 in
set_option maxRecDepth 100000 in
theorem slices_Grow_byte_byte.calls (A0 : Option Addr) (c0 : Nat) (l0 : List Int) (a1 : Int) (r : List Int) (w : World) (_hr0 : Kd.C (Kd.int .u8) w A0 l0.length l0) (_hc0 : l0.length ≤ c0) (h : slices_Grow_byte_byte.f l0 a1 = some r) :
  Calls Tryz.prog 84 #[.slice none 0 0, .int .i64 a1] w fun e w' => ∃ v0_ : Value, e = .returned (v0_) ∧ Kd.R (Kd.int .u8) 5 w' w.heap.size (fun _ => True) v0_ r ∧ Below w.heap.size w w' := by
 unfold slices_Grow_byte_byte.f at h
 by_cases h0 : 0 ≤ a1
 ·rw [if_pos h0] at h
  by_cases h1 : a1 ≤ 140737488355328
  ·rw [if_pos h1] at h
   obtain rfl := Option.some.inj h
   clear h _hr0 _hc0
   obtain ⟨n, rfl⟩ := Int.eq_ofNat_of_zero_le h0
   by_cases hz : n = 0
   ·subst hz
    go_enter Tryz.func84, Tryz.ntmps84
    go_wp2
    go_ret
    exact ⟨_, rfl, Kd.R_nil _ _ _ _ _, Below.refl _ _⟩
   ·exact slices_Grow_byte_byte.grow n hz (by omega) w
  ·rw [if_neg h1] at h
   exact absurd h (by simp)
 ·rw [if_neg h0] at h
  exact absurd h (by simp)


/-! ### slices_Concat_byte_byte: function 49 -/
mutual
def slices_Concat_byte_byte.l0 : Nat → List (List Int) → Int → List (List Int) → Int → Int → Option (List Int)
 | 0, _, _, _, _, _ => none
 | k + 1, x0, x3, x9, x10, x11 => if x11 < x10 then (if 0 ≤ x11 then (if x11 < (x9.length : Int) then (if (wrap64 (x3 + ((rd_L2 x9 x11).length : Int))) < 0 then (none) else (slices_Concat_byte_byte.l0 k x0 (wrap64 (x3 + ((rd_L2 x9 x11).length : Int))) x9 x10 (wrap64 (x11 + 1)))) else (none)) else (none)) else ((slices_Grow_byte_byte.f ([] : List Int) x3).bind fun t768 => (slices_Concat_byte_byte.l1 k t768 x0 (x0.length : Int) 0))
def slices_Concat_byte_byte.l1 : Nat → List Int → List (List Int) → Int → Int → Option (List Int)
 | 0, _, _, _, _ => none
 | k + 1, x6, x25, x26, x27 => if x27 < x26 then (if 0 ≤ x27 then (if x27 < (x25.length : Int) then (if x6.length + (rd_L2 x25 x27).length < 140737488355328 then (slices_Concat_byte_byte.l1 k (x6 ++ (rd_L2 x25 x27)) x25 x26 (wrap64 (x27 + 1))) else (none)) else (none)) else (none)) else (some x6)
end
def slices_Concat_byte_byte.f (k : Nat) (l0 : List (List Int)) : Option (List Int) := slices_Concat_byte_byte.l0 k l0 0 l0 (l0.length : Int) 0
theorem slices_Concat_byte_byte.calls (k : Nat) (A0 : Option Addr) (c0 : Nat) (l0 : List (List Int)) (r : List Int) (w : World) (hr0 : Kd.C (Kd.slice 5 (Kd.int .u8)) w A0 l0.length l0) (hc0 : l0.length ≤ c0) (h : slices_Concat_byte_byte.f k l0 = some r) :
  Calls Tryz.prog 49 #[.slice A0 l0.length c0] w fun e w' => ∃ v0_ : Value, e = .returned (v0_) ∧ Kd.R (Kd.int .u8) 5 w' w.heap.size (fun _ => True) v0_ r ∧ Below w.heap.size w w' := by
 have HR0 := Aside0.mk hr0
 have HC0 := Aside0.mk hc0
 clear hr0 hc0
 have HB := Aside0.mk (Below.refl w.heap.size w)
 have H : (slices_Concat_byte_byte.l0 k l0 0 l0 (l0.length : Int) 0) = some r := h
 clear h
 have H' := Aside0.mk H
 clear H
 go_enter Tryz.func49, Tryz.ntmps49
 go_wp2
 go_loopg [3, 11] k (fun kq v3 v11 w' => ∃ (x3_1 : Int) (x11_1 : Int), v3 = .int .i64 x3_1 ∧ v11 = .int .i64 x11_1 ∧ Aside0 (slices_Concat_byte_byte.l0 kq l0 x3_1 l0 (l0.length : Int) x11_1 = some r) ∧ Aside0 (kq ≤ k) ∧ Aside0 (Below w.heap.size w w'))
 case atStart => exact ⟨(0), (0), (by first | rfl | (simp; done) | (simp [*]; done)), (by first | rfl | (simp; done) | (simp [*]; done)), H', ⟨Nat.le_refl _⟩, ⟨by repeat (first | (with_reducible first | exact HB.out | apply below_alloc | apply pw_below_drewN | apply below_drew1) | exact HB.out)⟩⟩
 case round =>
  clear H'
  obtain ⟨x3_1, x11_1, rfl, rfl, HA, HK1, HB⟩ := hrel
  cases gk with
  | zero => exact absurd HA.out (by simp [slices_Concat_byte_byte.l0])
  | succ k1 =>
   have H := HA.out
   clear HA
   simp only [slices_Concat_byte_byte.l0] at H
   by_cases c2 : x11_1 < (l0.length : Int)
   ·rw [if_pos c2] at H
    have c2b0 : decide (x11_1 < (l0.length : Int)) = true := decide_eq_true c2
    clear c2
    by_cases c3 : 0 ≤ x11_1
    ·rw [if_pos c3] at H
     have c3b0 : decide (0 ≤ x11_1) = true := decide_eq_true c3
     clear c3
     by_cases c4 : x11_1 < (l0.length : Int)
     ·rw [if_pos c4] at H
      have c4b0 : decide (x11_1 < (l0.length : Int)) = true := decide_eq_true c4
      clear c4
      by_cases c5 : (wrap64 (x3_1 + ((rd_L2 l0 x11_1).length : Int))) < 0
      ·rw [if_pos c5] at H
       exact absurd H (by simp)
      ·rw [if_neg c5] at H
       have c5b0 : decide ((wrap64 (x3_1 + ((rd_L2 l0 x11_1).length : Int))) < 0) = false := decide_eq_false c5
       clear c5
       have H' := Aside0.mk H
       clear H
       have p767 : 0 ≤ (x11_1 : Int) := of_decide_eq_true (by first | (with_reducible assumption) | assumption)
       have q767 : x11_1 < (l0.length : Int) := of_decide_eq_true (by first | (with_reducible assumption) | assumption)
       obtain ⟨ad767, A767_0, c767_0, e767, hx767_0, hl767_0, hi767_0⟩ := at_L2 HR0.out x11_1 p767 q767
       cases e767
       replace hx767_0 := (HB.out.cell (World.block_lt_of_cell? w _ hx767_0)).trans hx767_0
       have HR767_0 := Aside0.mk hi767_0
       have HC767_0 := Aside0.mk hl767_0
       clear hi767_0 hl767_0
       replace p767 := eq_true p767
       replace q767 := eq_true q767
       go_wp2
       go_roundg k1
       case measure => have := HK1.out; omega
       case rel => exact ⟨(wrap64 (x3_1 + ((rd_L2 l0 x11_1).length : Int))), (wrap64 (x11_1 + 1)), (by first | rfl | (simp; done) | (simp [*]; done)), (by first | rfl | (simp; done) | (simp [*]; done)), H', ⟨by have := HK1.out; omega⟩, ⟨by repeat (first | (with_reducible first | exact HB.out | apply below_alloc | apply pw_below_drewN | apply below_drew1) | exact HB.out)⟩⟩
     ·rw [if_neg c4] at H
      exact absurd H (by simp)
    ·rw [if_neg c3] at H
     exact absurd H (by simp)
   ·rw [if_neg c2] at H
    have c2b0 : decide (x11_1 < (l0.length : Int)) = false := decide_eq_false c2
    clear c2
    replace H := Option.bind_eq_some_iff.mp H
    obtain ⟨t768, A60, H⟩ := H
    replace H : (slices_Concat_byte_byte.l1 k1 t768 l0 (l0.length : Int) 0) = some r := H
    have A6 := Aside0.mk A60
    clear A60
    have H' := Aside0.mk H
    clear H
    go_wp2_with (first | ((with_reducible refine gate_callee (f := 84) rfl ?_); refine goesL_ (some 24) rfl rfl Tryz.func84 (by kernel_rfl) rfl #[.slice none 0 0, .int .i64 x3_1] rfl (by (try simp only [List.map_toArray, List.map_cons, List.map_nil]); first | done | rfl | (simp only [List.length_drop, List.length_take]; rfl)) ?_; (refine (slices_Grow_byte_byte.calls none 0 ([] : List Int) x3_1 t768 _ ?side1 ?side2 A6.out).mono ?_); (case side1 => exact Kd.C_nil _ _); (case side2 => exact Nat.le_refl _); rintro e w7 ⟨v769, rfl, ho0, hb⟩; refine ⟨_, rfl, ?_⟩; have n0_ := Aside0.mk (Kd.R_lower ho0 (below_size (by repeat (first | (with_reducible first | exact HB.out | apply below_alloc | apply pw_below_drewN | apply below_drew1) | exact HB.out)))); have n1_ := Aside0.mk (below_step (by repeat (first | (with_reducible first | exact HB.out | apply below_alloc | apply pw_below_drewN | apply below_drew1) | exact HB.out)) hb); clear HB; have HO770 := n0_; have HB := n1_; clear n0_ n1_; (try clear hb); (try clear hb2); (try clear hk); (try clear hi); (try clear ho0)))
    go_loopg [6, 27] k1 (fun kq v6 v27 w' => ∃ (x6_2 : List Int) (x27_2 : Int), v27 = .int .i64 x27_2 ∧ Aside0 (slices_Concat_byte_byte.l1 kq x6_2 l0 (l0.length : Int) x27_2 = some r) ∧ Aside0 (kq ≤ k1) ∧ Aside0 (Kd.R (Kd.int .u8) 5 w' w.heap.size (fun _ => True) v6 x6_2) ∧ Aside0 (Below w.heap.size w w'))
    case atStart => exact ⟨(t768), (0), (by first | rfl | (simp; done) | (simp [*]; done)), H', ⟨Nat.le_refl _⟩, ⟨by (with_reducible repeat (first | apply Kd.R_alloc | apply Kd.R_drewN | apply Kd.R_drew)); exact HO770.out⟩, ⟨by repeat (first | (with_reducible first | exact HB.out | apply below_alloc | apply pw_below_drewN | apply below_drew1) | exact HB.out)⟩⟩
    case round =>
     clear H'
     try clear c2
     try clear c2b0
     try clear p2
     try clear c3
     try clear c3b0
     try clear c4
     try clear c4b0
     try clear c5
     try clear c5b0
     try clear p6
     try clear c7
     try clear p7
     try clear q7
     try clear hx7
     try clear hx767_0
     try clear p767
     try clear q767
     obtain ⟨x6_2, x27_2, rfl, HA, HK2, HO_6, HB⟩ := hrel
     cases gk with
     | zero => exact absurd HA.out (by simp [slices_Concat_byte_byte.l1])
     | succ k2 =>
      have H := HA.out
      clear HA
      simp only [slices_Concat_byte_byte.l1] at H
      by_cases c8 : x27_2 < (l0.length : Int)
      ·rw [if_pos c8] at H
       have c8b0 : decide (x27_2 < (l0.length : Int)) = true := decide_eq_true c8
       clear c8
       by_cases c9 : 0 ≤ x27_2
       ·rw [if_pos c9] at H
        have c9b0 : decide (0 ≤ x27_2) = true := decide_eq_true c9
        clear c9
        by_cases c10 : x27_2 < (l0.length : Int)
        ·rw [if_pos c10] at H
         have c10b0 : decide (x27_2 < (l0.length : Int)) = true := decide_eq_true c10
         clear c10
         by_cases c11 : x6_2.length + (rd_L2 l0 x27_2).length < 140737488355328
         ·rw [if_pos c11] at H
          have LMc11 := Aside0.mk c11
          clear c11
          obtain ⟨y772, hy772⟩ : ∃ y_ : List Int, y_ = (x6_2 ++ (rd_L2 l0 x27_2)) := ⟨_, rfl⟩
          replace H : (slices_Concat_byte_byte.l1 k2 y772 l0 (l0.length : Int) (wrap64 (x27_2 + 1))) = some r := by first | (rw [hy772]; with_reducible exact H) | (have H2_ := (Option.bind_some _ _).symm.trans H; rw [hy772]; with_reducible exact H2_) | (have H2_ := (Option.bind_some _ _).symm.trans H; with_reducible exact H2_) | with_reducible exact H | (rw [hy772]; exact H) | exact H
          have Ny772 := Aside0.mk hy772
          clear hy772
          have H' := Aside0.mk H
          clear H
          have p771 : 0 ≤ (x27_2 : Int) := of_decide_eq_true (by first | (with_reducible assumption) | assumption)
          have q771 : x27_2 < (l0.length : Int) := of_decide_eq_true (by first | (with_reducible assumption) | assumption)
          obtain ⟨ad771, A771_0, c771_0, e771, hx771_0, hl771_0, hi771_0⟩ := at_L2 HR0.out x27_2 p771 q771
          cases e771
          replace hx771_0 := (HB.out.cell (World.block_lt_of_cell? w _ hx771_0)).trans hx771_0
          have HR771_0 := Aside0.mk hi771_0
          have HC771_0 := Aside0.mk hl771_0
          clear hi771_0 hl771_0
          replace p771 := eq_true p771
          replace q771 := eq_true q771
          go_wp2_with (first | ((with_reducible refine gate_builtin (b := .append) (xs := #[.tmp 31, .tmp 32]) rfl ?_); at_builtin; refine Kd.R_append_rows (Kd.int .u8) (w0 := w) w.heap.size rfl (.tmp 31) (.tmp 32) 22 5 (.int .u8 0) 1 rfl Tryz.underlying22 info5 rfl (by decide) (by omega) u6 x6_2 (rd_L2 l0 x27_2) _ _ _ (fun _ => True) (fun _ => False) rfl rfl ?aO ?aR (fun _ _ h => h) (fun _ h => h.elim) ?aF ?aB ?aS ?aL ?_; (case aR => repeat (first | exact (Kd.C_below HR771_0.out HB.out) | (with_reducible refine Kd.C_alloc ?_ _) | (with_reducible refine Kd.C_drewN ?_ _) | (with_reducible refine Kd.C_drew ?_))); (case aB => exact (by repeat (first | (with_reducible first | exact HB.out | apply below_alloc | apply pw_below_drewN | apply below_drew1) | exact HB.out))); (case aF => exact (fun _ _ => trivial)); (case aO => exact (by (with_reducible repeat (first | apply Kd.R_alloc | apply Kd.R_drewN | apply Kd.R_drew)); exact HO_6.out)); (case aS => exact (below_size (by repeat (first | (with_reducible first | exact HB.out | apply below_alloc | apply pw_below_drewN | apply below_drew1) | exact HB.out)))); (case aL => have := LMc11.out; omega); intro v773 w12 ho hb hg hat; rw [← Ny772.out] at ho; have n0_ := Aside0.mk (hb); have n1_ := Aside0.mk (ho); clear HB; clear HO_6; have HB := n0_; have HO774 := n1_; clear n0_ n1_; clear ho hb hg hat))
          go_roundg k2
          case measure => have := HK1.out; have := HK2.out; omega
          case rel => exact ⟨(y772), (wrap64 (x27_2 + 1)), (by first | rfl | (simp; done) | (simp [*]; done)), H', ⟨by have := HK1.out; have := HK2.out; omega⟩, ⟨by (with_reducible repeat (first | apply Kd.R_alloc | apply Kd.R_drewN | apply Kd.R_drew)); exact HO774.out⟩, ⟨by repeat (first | (with_reducible first | exact HB.out | apply below_alloc | apply pw_below_drewN | apply below_drew1) | exact HB.out)⟩⟩
         ·rw [if_neg c11] at H
          exact absurd H (by simp)
        ·rw [if_neg c10] at H
         exact absurd H (by simp)
       ·rw [if_neg c9] at H
        exact absurd H (by simp)
      ·rw [if_neg c8] at H
       have c8b0 : decide (x27_2 < (l0.length : Int)) = false := decide_eq_false c8
       clear c8
       obtain rfl := Option.some.inj H
       go_wp2
       go_ret
       exact ⟨_, by first | rfl | (simp [errW_none, errW_some] <;> rfl) | (simp [*, errW_none, errW_some] <;> rfl), by (with_reducible repeat (first | apply Kd.R_alloc | apply Kd.R_drewN | apply Kd.R_drew)); exact HO_6.out, by repeat (first | (with_reducible first | exact HB.out | apply below_alloc | apply pw_below_drewN | apply below_drew1) | exact HB.out)⟩

end Go.Proofs.YtffkgndghbdgnaaGreat.FFnExactPacketSize
