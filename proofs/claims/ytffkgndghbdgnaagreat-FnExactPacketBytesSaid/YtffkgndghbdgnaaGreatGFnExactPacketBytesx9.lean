-- Contracts of functions, no condition.
import Derived.Test.YtffkgndghbdgnaaGreatGFnExactPacketBytesx8
namespace Go.Proofs.YtffkgndghbdgnaaGreat.FFnExactPacketBytes
open Go.RowKit Go.Proofs.YtffkgndghbdgnaaGreatW.PrintWords Go.Proofs.YtffkgndghbdgnaaGreatW.PrintLast Go.Proofs.YtffkgndghbdgnaaGreatW.PrintMore Go.Proofs.YtffkgndghbdgnaaGreat.Frame
attribute [local go_sem] max2_int min2_int max_two min_two max_three min_three max_four min_four
set_option linter.unusedVariables false
set_option maxHeartbeats 8000000
set_option maxRecDepth 100000
set_option linter.unusedSimpArgs false

/-! ### spec_l07Pair: function 88 -/
def spec_l07Pair.f (a0_0 a0_1 a0_2 a0_3 a0_4 a1_0 a1_1 a1_2 a1_3 a1_4 : Int) : Option (Bool) := (spec_AddrOk.f a0_0 a0_1 a0_2 a0_3 a0_4).bind fun t316 => (if t316 = true then ((spec_AddrOk.f a1_0 a1_1 a1_2 a1_3 a1_4).bind fun t317 => (if t317 = true then (some (a0_0 == a1_0)) else (some false))) else (some false))
theorem spec_l07Pair.calls (a0_0 a0_1 a0_2 a0_3 a0_4 a1_0 a1_1 a1_2 a1_3 a1_4 : Int) (r : Bool) (w : World) (h : spec_l07Pair.f a0_0 a0_1 a0_2 a0_3 a0_4 a1_0 a1_1 a1_2 a1_3 a1_4 = some r) :
  Calls Tryz.prog 88 #[.agg #[.int .i64 a0_0, .int .i64 a0_1, .int .i64 a0_2, .int .i64 a0_3, .int .i64 a0_4], .agg #[.int .i64 a1_0, .int .i64 a1_1, .int .i64 a1_2, .int .i64 a1_3, .int .i64 a1_4]] w fun e w' => e = .returned (.bool r) ∧ Below w.heap.size w w' := by
 have hu39 := Tryz.underlying39
 have HF := Fr.start [39] w
 have HP := Aside0.mk True.intro
 unfold spec_l07Pair.f at h
 have HH := Aside0.mk h
 clear h
 go_enter Tryz.func88, Tryz.ntmps88
 all_goals (repeat' (first
    | ((with_reducible refine gA 0 ?_) <;> (refine HF.bA ?_; clear HF; intro g_ w_ HF; refine nA ?_) <;> (refine HF.bA ?_; clear HF; intro g_ w_ HF; refine nA ?_) <;> (refine sA ?_) <;> (apply lend))
    | ((with_reducible refine gA 1 ?_) <;> (refine sA ?_) <;> ((replace HH := bA HH); obtain ⟨_, A6_, HH⟩ := HH) <;> (repeat' (with_reducible first | (replace HH := iA HP HH; clear HP; rcases HH with ⟨p, HP, HH⟩ | ⟨p, HP, HH⟩ <;> subst p) | fail)) <;> (refine HF.cB Tryz.func96 (by (with_reducible apply spec_AddrOk.calls (h := A6_.out))) ?_; clear HF A6_; intro w_ HF) <;> (iterate 2 refine sA ?_) <;> (first | (((replace HH := bA HH); obtain ⟨_, A9_, HH⟩ := HH) <;> (repeat' (with_reducible first | (replace HH := iA HP HH; clear HP; rcases HH with ⟨p, HP, HH⟩ | ⟨p, HP, HH⟩ <;> subst p) | fail)) <;> (refine HF.cB Tryz.func96 (by (with_reducible apply spec_AddrOk.calls (h := A9_.out))) ?_; clear HF A9_; intro w_ HF)) | (refine oA ?_)) <;> (iterate 9 refine sA ?_) <;> (apply lend))
    | go_step | fail))
 all_goals (have h_ := HH.out; clear HH; cases h_ <;> (go_ret; first
   | exact ⟨vE, HF.below⟩))

/-! ### spec_UpperSize: function 91 -/
def spec_UpperSize.f (a0_0 a0_1 a0_2 a0_3 a0_4 a0_5 a0_6 a0_7 a0_8 a0_9 a0_10 : Int) (a0_11 : Bool) (l0_12 l0_13 : List Int) : Option (Int) := if a0_0 = 0 then (some (l0_13.length : Int)) else (if a0_0 = 1 then (some (wrap64 ((wrap64 (20 + (l0_12.length : Int))) + (l0_13.length : Int)))) else (if a0_0 = 2 then (some (wrap64 (8 + (l0_13.length : Int)))) else (if a0_0 = 3 then (some (wrap64 (8 + (l0_13.length : Int)))) else (some (-1)))))
theorem spec_UpperSize.calls (a0_0 a0_1 a0_2 a0_3 a0_4 a0_5 a0_6 a0_7 a0_8 a0_9 a0_10 : Int) (a0_11 : Bool) (A0_12 : Option Addr) (c0_12 : Nat) (l0_12 : List Int) (A0_13 : Option Addr) (c0_13 : Nat) (l0_13 : List Int) (r : Int) (w : World) (hr0_12 : Kd.C (Kd.int .u8) w A0_12 l0_12.length l0_12) (hc0_12 : l0_12.length ≤ c0_12) (hr0_13 : Kd.C (Kd.int .u8) w A0_13 l0_13.length l0_13) (hc0_13 : l0_13.length ≤ c0_13) (h : spec_UpperSize.f a0_0 a0_1 a0_2 a0_3 a0_4 a0_5 a0_6 a0_7 a0_8 a0_9 a0_10 a0_11 l0_12 l0_13 = some r) :
  Calls Tryz.prog 91 #[.agg #[.int .i64 a0_0, .int .i64 a0_1, .int .i64 a0_2, .int .i64 a0_3, .int .i64 a0_4, .int .i64 a0_5, .int .i64 a0_6, .int .i64 a0_7, .int .i64 a0_8, .int .i64 a0_9, .int .i64 a0_10, .bool a0_11, .slice A0_12 l0_12.length c0_12, .slice A0_13 l0_13.length c0_13]] w fun e w' => e = .returned (.int .i64 r) ∧ Below w.heap.size w w' := by
 have hu22 := Tryz.underlying22
 have hu45 := Tryz.underlying45
 have HR0_12 := Aside0.mk hr0_12
 have HC0_12 := Aside0.mk hc0_12
 have HR0_13 := Aside0.mk hr0_13
 have HC0_13 := Aside0.mk hc0_13
 clear hr0_12 hc0_12 hr0_13 hc0_13
 have HF := Fr.start [45] w
 have HP := Aside0.mk True.intro
 unfold spec_UpperSize.f at h
 have HH := Aside0.mk h
 clear h
 go_enter Tryz.func91, Tryz.ntmps91
 repeat' (with_reducible first | (replace HH := iA HP HH; clear HP; rcases HH with ⟨p, HP, HH⟩ | ⟨p, HP, HH⟩ <;> cases p) | fail)
 all_goals (repeat' (first
    | ((with_reducible refine gA 0 ?_) <;> (refine HF.bA ?_; clear HF; intro g_ w_ HF; refine nA ?_) <;> (refine sA ?_) <;> (apply lend))
    | ((with_reducible refine gA 1 ?_) <;> (iterate 2 refine sA ?_) <;> (apply lend))
    | ((with_reducible refine gA 2 ?_) <;> (iterate 2 refine sA ?_) <;> (apply lend))
    | ((with_reducible refine gA 3 ?_) <;> (iterate 4 refine sA ?_) <;> (apply lend))
    | ((with_reducible refine gA 4 ?_) <;> (iterate 2 refine sA ?_) <;> (apply lend))
    | ((with_reducible refine gA 5 ?_) <;> (iterate 9 refine sA ?_) <;> (apply lend))
    | ((with_reducible refine gA 6 ?_) <;> (iterate 2 refine sA ?_) <;> (apply lend))
    | ((with_reducible refine gA 8 ?_) <;> (iterate 5 refine sA ?_) <;> (apply lend))
    | ((with_reducible refine gA 9 ?_) <;> (refine sA ?_) <;> (apply lend))
    | ((with_reducible refine gA 7 ?_) <;> (iterate 2 refine sA ?_) <;> (apply lend))
    | go_step | fail))
 all_goals (have h_ := HH.out; clear HH; cases h_ <;> (go_ret; first
   | exact ⟨vE, HF.below⟩))

/-! ### spec_l05In: function 95 -/
def spec_l05In.f (a0 a1 : Int) : Option (Bool) := if a0 ≥ 0 then (some (decide (a0 ≤ a1))) else (some false)
theorem spec_l05In.calls (a0 a1 : Int) (r : Bool) (w : World) (h : spec_l05In.f a0 a1 = some r) :
  Calls Tryz.prog 95 #[.int .i64 a0, .int .i64 a1] w fun e w' => e = .returned (.bool r) ∧ Drawn0 w w' := by
 have H : (if a0 ≥ 0 then (some (decide (a0 ≤ a1))) else (some false)) = some r := h
 clear h
 by_cases c3 : a0 ≥ 0
 ·rw [if_pos c3] at H
  have c3b0 : decide (0 ≤ a0) = true := decide_eq_true c3
  clear c3
  obtain rfl := Option.some.inj H
  go_enter Tryz.func95, Tryz.ntmps95
  go_wp2
  go_ret
  exact ⟨vF, vD⟩
 ·rw [if_neg c3] at H
  have c3b0 : decide (0 ≤ a0) = false := decide_eq_false c3
  clear c3
  obtain rfl := Option.some.inj H
  go_enter Tryz.func95, Tryz.ntmps95
  go_wp2
  go_ret
  exact ⟨vF, vD⟩

/-! ### spec_UpperOk: function 89 -/
def spec_UpperOk.F1 (a1 : Int) : Option Bool := if a1 = 4 then ((some false)) else (if a1 = 6 then ((some false)) else ((some true)))
def spec_UpperOk.F3 (a0_0 : Int) : Option Bool := if a0_0 = 1 then ((some true)) else (if a0_0 = 2 then ((some true)) else ((some false)))
def spec_UpperOk.F4 (a0_1 : Int) (a0_2 : Int) (b3 : Bool) : Option Bool := (spec_l05In.f a0_1 65535).bind fun t3 => (if t3 = true then ((spec_l05In.f a0_2 65535).bind fun t4 => (if t4 = true then (if b3 = true then ((some false)) else (if a0_1 = 0 then (if a0_2 = 0 then ((some false)) else ((some true))) else ((some true)))) else ((some true)))) else ((some true)))
def spec_UpperOk.F7 (a0_3 : Int) (a0_4 : Int) (a0_5 : Int) (a0_6 : Int) (a0_7 : Int) (l0_12 : List Int) : Option Bool := (spec_l03Half.f a0_3).bind fun t10 => (if t10 = true then ((spec_l03Half.f a0_4).bind fun t11 => (if t11 = true then ((spec_l05In.f a0_5 4095).bind fun t12 => (if t12 = true then ((spec_l05In.f a0_6 65535).bind fun t13 => (if t13 = true then ((spec_l05In.f a0_7 65535).bind fun t14 => (if t14 = true then (if (l0_12.length : Int) > 40 then ((some true)) else (if ((l0_12.length : Int) % 4) = 0 then ((some false)) else ((some true)))) else ((some true)))) else ((some true)))) else ((some true)))) else ((some true)))) else ((some true)))
def spec_UpperOk.F12 (a0_8 : Int) (a0_9 : Int) (a0_10 : Int) : Option Bool := (spec_l05In.f a0_8 255).bind fun t18 => (if t18 = true then ((spec_l05In.f a0_9 255).bind fun t19 => (if t19 = true then ((spec_l03Half.f a0_10).bind fun t20 => (if t20 = true then ((some false)) else ((some true)))) else ((some true)))) else ((some true)))
def spec_UpperOk.F16 (a0_0 : Int) (a0_11 : Bool) (a1 : Int) : Option Bool := if a0_11 = true then (if a0_0 = 2 then (if a1 = 4 then ((some false)) else ((some true))) else ((some true))) else ((some false))
def spec_UpperOk.F14 (a0_8 : Int) (a0_9 : Int) (a0_10 : Int) : Option Bool := if a0_8 = 0 then (if a0_9 = 0 then (if a0_10 = 0 then ((some false)) else ((some true))) else ((some true))) else ((some true))
def spec_UpperOk.F9 (a0_3 : Int) (a0_4 : Int) (a0_5 : Int) (a0_6 : Int) (a0_7 : Int) (l0_12 : List Int) : Option Bool := if a0_3 = 0 then (if a0_4 = 0 then (if a0_5 = 0 then (if a0_6 = 0 then (if a0_7 = 0 then (if (l0_12.length : Int) = 0 then ((some false)) else ((some true))) else ((some true))) else ((some true))) else ((some true))) else ((some true))) else ((some true))
def spec_UpperOk.f (a0_0 a0_1 a0_2 a0_3 a0_4 a0_5 a0_6 a0_7 a0_8 a0_9 a0_10 : Int) (a0_11 : Bool) (l0_12 l0_13 : List Int) (a1 : Int) : Option (Bool) := (spec_UpperOk.F1 a1).bind fun b1 => (if b1 = true then ((some false)) else ((spec_UpperOk.F3 a0_0).bind fun b3 => ((spec_UpperOk.F4 a0_1 a0_2 b3).bind fun b4 => (if b4 = true then ((some false)) else (if a0_0 = 1 then ((spec_UpperOk.F7 a0_3 a0_4 a0_5 a0_6 a0_7 l0_12).bind fun b7 => (if b7 = true then ((some false)) else (if a0_0 = 3 then ((spec_UpperOk.F12 a0_8 a0_9 a0_10).bind fun b12 => (if b12 = true then ((some false)) else ((spec_UpperOk.F16 a0_0 a0_11 a1).bind fun b16 => (if b16 = true then ((some false)) else ((spec_UpperSize.f a0_0 a0_1 a0_2 a0_3 a0_4 a0_5 a0_6 a0_7 a0_8 a0_9 a0_10 a0_11 l0_12 l0_13).bind fun t22 => (if t22 ≥ 0 then (if t22 ≤ 1500 then ((some true)) else ((some false))) else ((some false)))))))) else ((spec_UpperOk.F14 a0_8 a0_9 a0_10).bind fun b14 => (if b14 = true then ((some false)) else ((spec_UpperOk.F16 a0_0 a0_11 a1).bind fun b16 => (if b16 = true then ((some false)) else ((spec_UpperSize.f a0_0 a0_1 a0_2 a0_3 a0_4 a0_5 a0_6 a0_7 a0_8 a0_9 a0_10 a0_11 l0_12 l0_13).bind fun t24 => (if t24 ≥ 0 then (if t24 ≤ 1500 then ((some true)) else ((some false))) else ((some false))))))))))) else ((spec_UpperOk.F9 a0_3 a0_4 a0_5 a0_6 a0_7 l0_12).bind fun b9 => (if b9 = true then ((some false)) else (if a0_0 = 3 then ((spec_UpperOk.F12 a0_8 a0_9 a0_10).bind fun b12 => (if b12 = true then ((some false)) else ((spec_UpperOk.F16 a0_0 a0_11 a1).bind fun b16 => (if b16 = true then ((some false)) else ((spec_UpperSize.f a0_0 a0_1 a0_2 a0_3 a0_4 a0_5 a0_6 a0_7 a0_8 a0_9 a0_10 a0_11 l0_12 l0_13).bind fun t32 => (if t32 ≥ 0 then (if t32 ≤ 1500 then ((some true)) else ((some false))) else ((some false)))))))) else ((spec_UpperOk.F14 a0_8 a0_9 a0_10).bind fun b14 => (if b14 = true then ((some false)) else ((spec_UpperOk.F16 a0_0 a0_11 a1).bind fun b16 => (if b16 = true then ((some false)) else ((spec_UpperSize.f a0_0 a0_1 a0_2 a0_3 a0_4 a0_5 a0_6 a0_7 a0_8 a0_9 a0_10 a0_11 l0_12 l0_13).bind fun t34 => (if t34 ≥ 0 then (if t34 ≤ 1500 then ((some true)) else ((some false))) else ((some false))))))))))))))))
theorem spec_UpperOk.calls (a0_0 a0_1 a0_2 a0_3 a0_4 a0_5 a0_6 a0_7 a0_8 a0_9 a0_10 : Int) (a0_11 : Bool) (A0_12 : Option Addr) (c0_12 : Nat) (l0_12 : List Int) (A0_13 : Option Addr) (c0_13 : Nat) (l0_13 : List Int) (a1 : Int) (r : Bool) (w : World) (hr0_12 : Kd.C (Kd.int .u8) w A0_12 l0_12.length l0_12) (hc0_12 : l0_12.length ≤ c0_12) (hr0_13 : Kd.C (Kd.int .u8) w A0_13 l0_13.length l0_13) (hc0_13 : l0_13.length ≤ c0_13) (h : spec_UpperOk.f a0_0 a0_1 a0_2 a0_3 a0_4 a0_5 a0_6 a0_7 a0_8 a0_9 a0_10 a0_11 l0_12 l0_13 a1 = some r) :
  Calls Tryz.prog 89 #[.agg #[.int .i64 a0_0, .int .i64 a0_1, .int .i64 a0_2, .int .i64 a0_3, .int .i64 a0_4, .int .i64 a0_5, .int .i64 a0_6, .int .i64 a0_7, .int .i64 a0_8, .int .i64 a0_9, .int .i64 a0_10, .bool a0_11, .slice A0_12 l0_12.length c0_12, .slice A0_13 l0_13.length c0_13], .int .i64 a1] w fun e w' => e = .returned (.bool r) ∧ Below w.heap.size w w' := by
 have hu22 := Tryz.underlying22
 have hu45 := Tryz.underlying45
 have HR0_12 := Aside0.mk hr0_12
 have HC0_12 := Aside0.mk hc0_12
 have HR0_13 := Aside0.mk hr0_13
 have HC0_13 := Aside0.mk hc0_13
 clear hr0_12 hc0_12 hr0_13 hc0_13
 have HF := Fr.start [45] w
 have HP := Aside0.mk True.intro
 unfold spec_UpperOk.f at h
 have HH := Aside0.mk h
 clear h
 go_enter Tryz.func89, Tryz.ntmps89
 all_goals (repeat' (first
    | ((with_reducible refine gate_region (id := 0) ?_); ((apply plain_region) <;> (((with_reducible apply Fr.lbox HF rfl rfl rfl); (go_simp; rfl); decide; clear HF; intro g_ w_ HF); refine nA ?_) <;> (refine sA ?_) <;> (apply lend)))
    | ((with_reducible refine gate_region (id := 1) ?_); have h_ := HH.out; (with_reducible replace h_ := Option.bind_eq_some_iff.mp h_); clear HH; obtain ⟨bk_, A_, h_⟩ := h_; have HX := Aside0.mk h_; clear h_; unfold spec_UpperOk.F1 at A_; have HH := Aside0.mk A_; clear A_; refine join_ HF (fun a a' => ∃ v7 v8 v9 v10 v11 : Value, a' = ((((((a.put (some 7) v7).put (some 8) v8).put (some 9) v9).put (some 10) v10).put (some 11) v11).put (some 12) (.bool bk_))) ?_ ?_; (focus ((intro Q1_ HQ1_) <;> (repeat' (with_reducible first | (replace HH := iA HP HH; clear HP; rcases HH with ⟨p, HP, HH⟩ | ⟨p, HP, HH⟩ <;> cases p) | fail)) <;> (apply plain_region) <;> (iterate 6 refine sA ?_) <;> (apply lend; obtain rfl := Option.some.inj HH.out; refine HQ1_ _ _ ?_ HF; (repeat' apply Exists.intro); (simp only [Act.put, List.setIfInBounds_toArray, List.set_cons_zero, List.set_cons_succ]; rfl)))); clear HF HH; rintro a1_ W1_ ⟨⟨_, _, _, _, _, rfl⟩, HF⟩; have HH := HX; clear HX; (refine qnorm (a' := ?_) ?_ ?_; rotate_left; (simp only [Act.put, List.setIfInBounds_toArray, List.set_cons_zero, List.set_cons_succ, i64_w, i32_w, tmod_nat, List.map_cons, List.map_nil]; rfl)); (repeat' (with_reducible first | (replace HH := iA HP HH; clear HP; rcases HH with ⟨p, HP, HH⟩ | ⟨p, HP, HH⟩ <;> subst p) | fail)))
    | ((with_reducible refine gate_region (id := 2) ?_); ((apply plain_region) <;> (refine sA ?_) <;> (apply lend)))
    | ((with_reducible refine gate_region (id := 3) ?_); have h_ := HH.out; (with_reducible replace h_ := Option.bind_eq_some_iff.mp h_); clear HH; obtain ⟨bk_, A_, h_⟩ := h_; have HX := Aside0.mk h_; clear h_; unfold spec_UpperOk.F3 at A_; have HH := Aside0.mk A_; clear A_; refine join_ HF (fun a a' => ∃ v13 v14 v15 v16 v17 v18 v19 v20 : Value, a' = (((((((((a.put (some 13) v13).put (some 14) v14).put (some 15) v15).put (some 16) v16).put (some 17) v17).put (some 18) v18).put (some 19) v19).put (some 20) v20).put (some 5) (.bool bk_))) ?_ ?_; (focus ((intro Q1_ HQ1_) <;> (repeat' (with_reducible first | (replace HH := iA HP HH; clear HP; rcases HH with ⟨p, HP, HH⟩ | ⟨p, HP, HH⟩ <;> cases p) | fail)) <;> (apply plain_region) <;> (iterate 9 refine sA ?_) <;> (apply lend; obtain rfl := Option.some.inj HH.out; refine HQ1_ _ _ ?_ HF; (repeat' apply Exists.intro); (simp only [Act.put, List.setIfInBounds_toArray, List.set_cons_zero, List.set_cons_succ]; rfl)))); clear HF HH; rintro a1_ W1_ ⟨⟨_, _, _, _, _, _, _, _, rfl⟩, HF⟩; have HH := HX; clear HX; (refine qnorm (a' := ?_) ?_ ?_; rotate_left; (simp only [Act.put, List.setIfInBounds_toArray, List.set_cons_zero, List.set_cons_succ, i64_w, i32_w, tmod_nat, List.map_cons, List.map_nil]; rfl)); (repeat' (with_reducible first | exact xE HH | (replace HH := iA HP HH; clear HP; rcases HH with ⟨p, HP, HH⟩ | ⟨p, HP, HH⟩ <;> first | subst p | cases p | skip) | fail)))
    | ((with_reducible refine gate_region (id := 4) ?_); have h_ := HH.out; (with_reducible replace h_ := Option.bind_eq_some_iff.mp h_); clear HH; obtain ⟨bk_, A_, h_⟩ := h_; have HX := Aside0.mk h_; clear h_; unfold spec_UpperOk.F4 at A_; have HH := Aside0.mk A_; clear A_; refine join_ HF (fun a a' => ∃ v21 v22 v23 v24 v25 v26 v27 v28 v29 v30 v31 v32 v33 v34 v35 v36 v37 v38 v39 v40 v41 v42 v43 : Value, a' = ((((((((((((((((((((((((a.put (some 21) v21).put (some 22) v22).put (some 23) v23).put (some 24) v24).put (some 25) v25).put (some 26) v26).put (some 27) v27).put (some 28) v28).put (some 29) v29).put (some 30) v30).put (some 31) v31).put (some 32) v32).put (some 33) v33).put (some 34) v34).put (some 35) v35).put (some 36) v36).put (some 37) v37).put (some 38) v38).put (some 39) v39).put (some 40) v40).put (some 41) v41).put (some 42) v42).put (some 43) v43).put (some 44) (.bool bk_))) ?_ ?_; (focus ((intro Q1_ HQ1_) <;> (apply plain_region) <;> (iterate 2 refine sA ?_) <;> (have h_ := HH.out; (with_reducible replace h_ := Option.bind_eq_some_iff.mp h_); clear HH; obtain ⟨_, A_, h_⟩ := h_; have HH := Aside0.mk h_; clear h_; replace A_ := Aside0.mk A_; apply cA Tryz.func95 (by kernel_rfl) rfl rfl rfl rfl; (with_reducible apply spec_l05In.calls (h := A_.out)); rintro e w_ ⟨rfl, hb_⟩; refine ⟨_, rfl, ?_⟩; replace HF := HF.drawn hb_; clear hb_; rotate_left; exact hA; clear A_; refine nA ?_) <;> (repeat' (with_reducible first | (replace HH := iA HP HH; clear HP; rcases HH with ⟨p, HP, HH⟩ | ⟨p, HP, HH⟩ <;> subst p) | fail)) <;> (iterate 4 refine sA ?_) <;> (first | (have h_ := HH.out; (with_reducible replace h_ := Option.bind_eq_some_iff.mp h_); clear HH; obtain ⟨_, A_, h_⟩ := h_; have HH := Aside0.mk h_; clear h_; replace A_ := Aside0.mk A_; apply cA Tryz.func95 (by kernel_rfl) rfl rfl rfl rfl; (with_reducible apply spec_l05In.calls (h := A_.out)); rintro e w_ ⟨rfl, hb_⟩; refine ⟨_, rfl, ?_⟩; replace HF := HF.drawn hb_; clear hb_; rotate_left; exact hA; clear A_; refine nA ?_) | (refine oA ?_)) <;> (repeat' (with_reducible first | (replace HH := iA HP HH; clear HP; rcases HH with ⟨p, HP, HH⟩ | ⟨p, HP, HH⟩ <;> first | subst p | cases p) | fail)) <;> (iterate 16 refine sA ?_) <;> (apply lend; obtain rfl := Option.some.inj HH.out; refine HQ1_ _ _ ?_ HF; (repeat' apply Exists.intro); (simp only [Act.put, List.setIfInBounds_toArray, List.set_cons_zero, List.set_cons_succ]; rfl)))); clear HF HH; rintro a1_ W1_ ⟨⟨_, _, _, _, _, _, _, _, _, _, _, _, _, _, _, _, _, _, _, _, _, _, _, rfl⟩, HF⟩; have HH := HX; clear HX; (refine qnorm (a' := ?_) ?_ ?_; rotate_left; (simp only [Act.put, List.setIfInBounds_toArray, List.set_cons_zero, List.set_cons_succ, i64_w, i32_w, tmod_nat, List.map_cons, List.map_nil]; rfl)); (repeat' (with_reducible first | (replace HH := iA HP HH; clear HP; rcases HH with ⟨p, HP, HH⟩ | ⟨p, HP, HH⟩ <;> first | subst p | cases p) | fail)))
    | ((with_reducible refine gate_region (id := 5) ?_); ((apply plain_region) <;> (refine sA ?_) <;> (apply lend)))
    | ((with_reducible refine gate_region (id := 6) ?_); ((apply plain_region) <;> (iterate 3 refine sA ?_) <;> (apply lend)))
    | ((with_reducible refine gate_region (id := 7) ?_); have h_ := HH.out; (with_reducible replace h_ := Option.bind_eq_some_iff.mp h_); clear HH; obtain ⟨bk_, A_, h_⟩ := h_; have HX := Aside0.mk h_; clear h_; unfold spec_UpperOk.F7 at A_; have HH := Aside0.mk A_; clear A_; refine join_ HF (fun a a' => ∃ v48 v49 v50 v51 v52 v53 v54 v55 v56 v57 v58 v59 v60 v61 v62 v63 v64 v65 v66 v67 v68 v69 v70 v71 v72 v73 v74 v75 v76 v77 v78 v79 v80 v81 v82 v83 v84 v85 v86 v87 : Value, a' = (((((((((((((((((((((((((((((((((((((((((a.put (some 48) v48).put (some 49) v49).put (some 50) v50).put (some 51) v51).put (some 52) v52).put (some 53) v53).put (some 54) v54).put (some 55) v55).put (some 56) v56).put (some 57) v57).put (some 58) v58).put (some 59) v59).put (some 60) v60).put (some 61) v61).put (some 62) v62).put (some 63) v63).put (some 64) v64).put (some 65) v65).put (some 66) v66).put (some 67) v67).put (some 68) v68).put (some 69) v69).put (some 70) v70).put (some 71) v71).put (some 72) v72).put (some 73) v73).put (some 74) v74).put (some 75) v75).put (some 76) v76).put (some 77) v77).put (some 78) v78).put (some 79) v79).put (some 80) v80).put (some 81) v81).put (some 82) v82).put (some 83) v83).put (some 84) v84).put (some 85) v85).put (some 86) v86).put (some 87) v87).put (some 88) (.bool bk_))) ?_ ?_; (focus ((intro Q1_ HQ1_) <;> (apply plain_region) <;> (iterate 2 refine sA ?_) <;> (have h_ := HH.out; (with_reducible replace h_ := Option.bind_eq_some_iff.mp h_); clear HH; obtain ⟨_, A_, h_⟩ := h_; have HH := Aside0.mk h_; clear h_; replace A_ := Aside0.mk A_; apply cA Tryz.func125 (by kernel_rfl) rfl rfl rfl rfl; (with_reducible apply spec_l03Half.calls (h := A_.out)); rintro e w_ ⟨rfl, hb_⟩; refine ⟨_, rfl, ?_⟩; replace HF := HF.drawn hb_; clear hb_; rotate_left; exact hA; clear A_; refine nA ?_) <;> (repeat' (with_reducible first | (replace HH := iA HP HH; clear HP; rcases HH with ⟨p, HP, HH⟩ | ⟨p, HP, HH⟩ <;> subst p) | fail)) <;> (iterate 4 refine sA ?_) <;> (first | (have h_ := HH.out; (with_reducible replace h_ := Option.bind_eq_some_iff.mp h_); clear HH; obtain ⟨_, A_, h_⟩ := h_; have HH := Aside0.mk h_; clear h_; replace A_ := Aside0.mk A_; apply cA Tryz.func125 (by kernel_rfl) rfl rfl rfl rfl; (with_reducible apply spec_l03Half.calls (h := A_.out)); rintro e w_ ⟨rfl, hb_⟩; refine ⟨_, rfl, ?_⟩; replace HF := HF.drawn hb_; clear hb_; rotate_left; exact hA; clear A_; refine nA ?_) | (refine oA ?_)) <;> (repeat' (with_reducible first | (replace HH := iA HP HH; clear HP; rcases HH with ⟨p, HP, HH⟩ | ⟨p, HP, HH⟩ <;> subst p) | fail)) <;> (iterate 5 refine sA ?_) <;> (first | (have h_ := HH.out; (with_reducible replace h_ := Option.bind_eq_some_iff.mp h_); clear HH; obtain ⟨_, A_, h_⟩ := h_; have HH := Aside0.mk h_; clear h_; replace A_ := Aside0.mk A_; apply cA Tryz.func95 (by kernel_rfl) rfl rfl rfl rfl; (with_reducible apply spec_l05In.calls (h := A_.out)); rintro e w_ ⟨rfl, hb_⟩; refine ⟨_, rfl, ?_⟩; replace HF := HF.drawn hb_; clear hb_; rotate_left; exact hA; clear A_; refine nA ?_) | (refine oA ?_)) <;> (repeat' (with_reducible first | (replace HH := iA HP HH; clear HP; rcases HH with ⟨p, HP, HH⟩ | ⟨p, HP, HH⟩ <;> subst p) | fail)) <;> (iterate 5 refine sA ?_) <;> (first | (have h_ := HH.out; (with_reducible replace h_ := Option.bind_eq_some_iff.mp h_); clear HH; obtain ⟨_, A_, h_⟩ := h_; have HH := Aside0.mk h_; clear h_; replace A_ := Aside0.mk A_; apply cA Tryz.func95 (by kernel_rfl) rfl rfl rfl rfl; (with_reducible apply spec_l05In.calls (h := A_.out)); rintro e w_ ⟨rfl, hb_⟩; refine ⟨_, rfl, ?_⟩; replace HF := HF.drawn hb_; clear hb_; rotate_left; exact hA; clear A_; refine nA ?_) | (refine oA ?_)) <;> (repeat' (with_reducible first | (replace HH := iA HP HH; clear HP; rcases HH with ⟨p, HP, HH⟩ | ⟨p, HP, HH⟩ <;> subst p) | fail)) <;> (iterate 5 refine sA ?_) <;> (first | (have h_ := HH.out; (with_reducible replace h_ := Option.bind_eq_some_iff.mp h_); clear HH; obtain ⟨_, A_, h_⟩ := h_; have HH := Aside0.mk h_; clear h_; replace A_ := Aside0.mk A_; apply cA Tryz.func95 (by kernel_rfl) rfl rfl rfl rfl; (with_reducible apply spec_l05In.calls (h := A_.out)); rintro e w_ ⟨rfl, hb_⟩; refine ⟨_, rfl, ?_⟩; replace HF := HF.drawn hb_; clear hb_; rotate_left; exact hA; clear A_; refine nA ?_) | (refine oA ?_)) <;> (repeat' (with_reducible first | (replace HH := iA HP HH; clear HP; rcases HH with ⟨p, HP, HH⟩ | ⟨p, HP, HH⟩ <;> first | subst p | cases p | skip) | fail)) <;> (iterate 15 refine sA ?_) <;> (apply lend; obtain rfl := Option.some.inj HH.out; refine HQ1_ _ _ ?_ HF; (repeat' apply Exists.intro); (simp only [Act.put, List.setIfInBounds_toArray, List.set_cons_zero, List.set_cons_succ]; rfl)))); clear HF HH; rintro a1_ W1_ ⟨⟨_, _, _, _, _, _, _, _, _, _, _, _, _, _, _, _, _, _, _, _, _, _, _, _, _, _, _, _, _, _, _, _, _, _, _, _, _, _, _, _, rfl⟩, HF⟩; have HH := HX; clear HX; (refine qnorm (a' := ?_) ?_ ?_; rotate_left; (simp only [Act.put, List.setIfInBounds_toArray, List.set_cons_zero, List.set_cons_succ, i64_w, i32_w, tmod_nat, List.map_cons, List.map_nil]; rfl)); (repeat' (with_reducible first | (replace HH := iA HP HH; clear HP; rcases HH with ⟨p, HP, HH⟩ | ⟨p, HP, HH⟩ <;> first | subst p | cases p) | fail)))
    | ((with_reducible refine gate_region (id := 8) ?_); ((apply plain_region) <;> (refine sA ?_) <;> (apply lend)))
    | ((with_reducible refine gate_region (id := 9) ?_); have h_ := HH.out; (with_reducible replace h_ := Option.bind_eq_some_iff.mp h_); clear HH; obtain ⟨bk_, A_, h_⟩ := h_; have HX := Aside0.mk h_; clear h_; unfold spec_UpperOk.F9 at A_; have HH := Aside0.mk A_; clear A_; refine join_ HF (fun a a' => ∃ v89 v90 v91 v92 v93 v94 v95 v96 v97 v98 v99 v100 v101 v102 v103 v104 v105 v106 v107 v108 v109 v110 v111 v112 v113 v114 v115 v116 : Value, a' = (((((((((((((((((((((((((((((a.put (some 89) v89).put (some 90) v90).put (some 91) v91).put (some 92) v92).put (some 93) v93).put (some 94) v94).put (some 95) v95).put (some 96) v96).put (some 97) v97).put (some 98) v98).put (some 99) v99).put (some 100) v100).put (some 101) v101).put (some 102) v102).put (some 103) v103).put (some 104) v104).put (some 105) v105).put (some 106) v106).put (some 107) v107).put (some 108) v108).put (some 109) v109).put (some 110) v110).put (some 111) v111).put (some 112) v112).put (some 113) v113).put (some 114) v114).put (some 115) v115).put (some 116) v116).put (some 117) (.bool bk_))) ?_ ?_; (focus ((intro Q1_ HQ1_) <;> (repeat' (with_reducible first | (replace HH := iA HP HH; clear HP; rcases HH with ⟨p, HP, HH⟩ | ⟨p, HP, HH⟩ <;> cases p) | fail)) <;> (apply plain_region) <;> (iterate 29 refine sA ?_) <;> (apply lend; obtain rfl := Option.some.inj HH.out; refine HQ1_ _ _ ?_ HF; (repeat' apply Exists.intro); (simp only [Act.put, List.setIfInBounds_toArray, List.set_cons_zero, List.set_cons_succ]; rfl)))); clear HF HH; rintro a1_ W1_ ⟨⟨_, _, _, _, _, _, _, _, _, _, _, _, _, _, _, _, _, _, _, _, _, _, _, _, _, _, _, _, rfl⟩, HF⟩; have HH := HX; clear HX; (refine qnorm (a' := ?_) ?_ ?_; rotate_left; (simp only [Act.put, List.setIfInBounds_toArray, List.set_cons_zero, List.set_cons_succ, i64_w, i32_w, tmod_nat, List.map_cons, List.map_nil]; rfl)); (repeat' (with_reducible first | (replace HH := iA HP HH; clear HP; rcases HH with ⟨p, HP, HH⟩ | ⟨p, HP, HH⟩ <;> first | subst p | cases p) | fail)))
    | ((with_reducible refine gate_region (id := 10) ?_); ((apply plain_region) <;> (refine sA ?_) <;> (apply lend)))
    | ((with_reducible refine gate_region (id := 11) ?_); ((apply plain_region) <;> (iterate 3 refine sA ?_) <;> (apply lend)))
    | ((with_reducible refine gate_region (id := 12) ?_); have h_ := HH.out; (with_reducible replace h_ := Option.bind_eq_some_iff.mp h_); clear HH; obtain ⟨bk_, A_, h_⟩ := h_; have HX := Aside0.mk h_; clear h_; unfold spec_UpperOk.F12 at A_; have HH := Aside0.mk A_; clear A_; refine join_ HF (fun a a' => ∃ v121 v122 v123 v124 v125 v126 v127 v128 v129 v130 v131 v132 v133 v134 v135 : Value, a' = ((((((((((((((((a.put (some 121) v121).put (some 122) v122).put (some 123) v123).put (some 124) v124).put (some 125) v125).put (some 126) v126).put (some 127) v127).put (some 128) v128).put (some 129) v129).put (some 130) v130).put (some 131) v131).put (some 132) v132).put (some 133) v133).put (some 134) v134).put (some 135) v135).put (some 136) (.bool bk_))) ?_ ?_; (focus ((intro Q1_ HQ1_) <;> (apply plain_region) <;> (iterate 2 refine sA ?_) <;> (have h_ := HH.out; (with_reducible replace h_ := Option.bind_eq_some_iff.mp h_); clear HH; obtain ⟨_, A_, h_⟩ := h_; have HH := Aside0.mk h_; clear h_; replace A_ := Aside0.mk A_; apply cA Tryz.func95 (by kernel_rfl) rfl rfl rfl rfl; (with_reducible apply spec_l05In.calls (h := A_.out)); rintro e w_ ⟨rfl, hb_⟩; refine ⟨_, rfl, ?_⟩; replace HF := HF.drawn hb_; clear hb_; rotate_left; exact hA; clear A_; refine nA ?_) <;> (repeat' (with_reducible first | (replace HH := iA HP HH; clear HP; rcases HH with ⟨p, HP, HH⟩ | ⟨p, HP, HH⟩ <;> subst p) | fail)) <;> (iterate 4 refine sA ?_) <;> (first | (have h_ := HH.out; (with_reducible replace h_ := Option.bind_eq_some_iff.mp h_); clear HH; obtain ⟨_, A_, h_⟩ := h_; have HH := Aside0.mk h_; clear h_; replace A_ := Aside0.mk A_; apply cA Tryz.func95 (by kernel_rfl) rfl rfl rfl rfl; (with_reducible apply spec_l05In.calls (h := A_.out)); rintro e w_ ⟨rfl, hb_⟩; refine ⟨_, rfl, ?_⟩; replace HF := HF.drawn hb_; clear hb_; rotate_left; exact hA; clear A_; refine nA ?_) | (refine oA ?_)) <;> (repeat' (with_reducible first | (replace HH := iA HP HH; clear HP; rcases HH with ⟨p, HP, HH⟩ | ⟨p, HP, HH⟩ <;> subst p) | fail)) <;> (iterate 5 refine sA ?_) <;> (first | (have h_ := HH.out; (with_reducible replace h_ := Option.bind_eq_some_iff.mp h_); clear HH; obtain ⟨_, A_, h_⟩ := h_; have HH := Aside0.mk h_; clear h_; replace A_ := Aside0.mk A_; apply cA Tryz.func125 (by kernel_rfl) rfl rfl rfl rfl; (with_reducible apply spec_l03Half.calls (h := A_.out)); rintro e w_ ⟨rfl, hb_⟩; refine ⟨_, rfl, ?_⟩; replace HF := HF.drawn hb_; clear hb_; rotate_left; exact hA; clear A_; refine nA ?_) | (refine oA ?_)) <;> (repeat' (with_reducible first | (replace HH := iA HP HH; clear HP; rcases HH with ⟨p, HP, HH⟩ | ⟨p, HP, HH⟩ <;> subst p) | fail)) <;> (iterate 2 refine sA ?_) <;> (apply lend; obtain rfl := Option.some.inj HH.out; refine HQ1_ _ _ ?_ HF; (repeat' apply Exists.intro); (simp only [Act.put, List.setIfInBounds_toArray, List.set_cons_zero, List.set_cons_succ]; rfl)))); clear HF HH; rintro a1_ W1_ ⟨⟨_, _, _, _, _, _, _, _, _, _, _, _, _, _, _, rfl⟩, HF⟩; have HH := HX; clear HX; (refine qnorm (a' := ?_) ?_ ?_; rotate_left; (simp only [Act.put, List.setIfInBounds_toArray, List.set_cons_zero, List.set_cons_succ, i64_w, i32_w, tmod_nat, List.map_cons, List.map_nil]; rfl)); (repeat' (with_reducible first | (replace HH := iA HP HH; clear HP; rcases HH with ⟨p, HP, HH⟩ | ⟨p, HP, HH⟩ <;> subst p) | fail)))
    | ((with_reducible refine gate_region (id := 13) ?_); ((apply plain_region) <;> (refine sA ?_) <;> (apply lend)))
    | ((with_reducible refine gate_region (id := 14) ?_); have h_ := HH.out; (with_reducible replace h_ := Option.bind_eq_some_iff.mp h_); clear HH; obtain ⟨bk_, A_, h_⟩ := h_; have HX := Aside0.mk h_; clear h_; unfold spec_UpperOk.F14 at A_; have HH := Aside0.mk A_; clear A_; refine join_ HF (fun a a' => ∃ v137 v138 v139 v140 v141 v142 v143 v144 v145 v146 v147 v148 : Value, a' = (((((((((((((a.put (some 137) v137).put (some 138) v138).put (some 139) v139).put (some 140) v140).put (some 141) v141).put (some 142) v142).put (some 143) v143).put (some 144) v144).put (some 145) v145).put (some 146) v146).put (some 147) v147).put (some 148) v148).put (some 149) (.bool bk_))) ?_ ?_; (focus ((intro Q1_ HQ1_) <;> (repeat' (with_reducible first | (replace HH := iA HP HH; clear HP; rcases HH with ⟨p, HP, HH⟩ | ⟨p, HP, HH⟩ <;> cases p) | fail)) <;> (apply plain_region) <;> (iterate 13 refine sA ?_) <;> (apply lend; obtain rfl := Option.some.inj HH.out; refine HQ1_ _ _ ?_ HF; (repeat' apply Exists.intro); (simp only [Act.put, List.setIfInBounds_toArray, List.set_cons_zero, List.set_cons_succ]; rfl)))); clear HF HH; rintro a1_ W1_ ⟨⟨_, _, _, _, _, _, _, _, _, _, _, _, rfl⟩, HF⟩; have HH := HX; clear HX; (refine qnorm (a' := ?_) ?_ ?_; rotate_left; (simp only [Act.put, List.setIfInBounds_toArray, List.set_cons_zero, List.set_cons_succ, i64_w, i32_w, tmod_nat, List.map_cons, List.map_nil]; rfl)); (repeat' (with_reducible first | (replace HH := iA HP HH; clear HP; rcases HH with ⟨p, HP, HH⟩ | ⟨p, HP, HH⟩ <;> subst p) | fail)))
    | ((with_reducible refine gate_region (id := 15) ?_); ((apply plain_region) <;> (refine sA ?_) <;> (apply lend)))
    | ((with_reducible refine gate_region (id := 16) ?_); have h_ := HH.out; (with_reducible replace h_ := Option.bind_eq_some_iff.mp h_); clear HH; obtain ⟨bk_, A_, h_⟩ := h_; have HX := Aside0.mk h_; clear h_; unfold spec_UpperOk.F16 at A_; have HH := Aside0.mk A_; clear A_; refine join_ HF (fun a a' => ∃ v150 v151 v152 v153 v154 v155 v156 v157 v158 v159 : Value, a' = (((((((((((a.put (some 150) v150).put (some 151) v151).put (some 152) v152).put (some 153) v153).put (some 154) v154).put (some 155) v155).put (some 156) v156).put (some 157) v157).put (some 158) v158).put (some 159) v159).put (some 160) (.bool bk_))) ?_ ?_; (focus ((intro Q1_ HQ1_) <;> (repeat' (with_reducible first | (replace HH := iA HP HH; clear HP; rcases HH with ⟨p, HP, HH⟩ | ⟨p, HP, HH⟩ <;> first | subst p | cases p) | fail)) <;> (apply plain_region) <;> (iterate 11 refine sA ?_) <;> (apply lend; obtain rfl := Option.some.inj HH.out; refine HQ1_ _ _ ?_ HF; (repeat' apply Exists.intro); (simp only [Act.put, List.setIfInBounds_toArray, List.set_cons_zero, List.set_cons_succ]; rfl)))); clear HF HH; rintro a1_ W1_ ⟨⟨_, _, _, _, _, _, _, _, _, _, rfl⟩, HF⟩; have HH := HX; clear HX; (refine qnorm (a' := ?_) ?_ ?_; rotate_left; (simp only [Act.put, List.setIfInBounds_toArray, List.set_cons_zero, List.set_cons_succ, i64_w, i32_w, tmod_nat, List.map_cons, List.map_nil]; rfl)); (repeat' (with_reducible first | (replace HH := iA HP HH; clear HP; rcases HH with ⟨p, HP, HH⟩ | ⟨p, HP, HH⟩ <;> subst p) | fail)))
    | ((with_reducible refine gate_region (id := 17) ?_); ((apply plain_region) <;> (refine sA ?_) <;> (apply lend)))
    | ((with_reducible refine gate_region (id := 18) ?_); ((apply plain_region) <;> (refine sA ?_) <;> (have h_ := HH.out; (with_reducible replace h_ := Option.bind_eq_some_iff.mp h_); clear HH; obtain ⟨_, A_, h_⟩ := h_; have HH := Aside0.mk h_; clear h_; replace A_ := Aside0.mk A_; apply cA Tryz.func91 (by kernel_rfl) rfl rfl rfl rfl; (with_reducible apply spec_UpperSize.calls (h := A_.out)); (exact Kd.C_below HR0_12.out HF.below); (exact HC0_12.out); (exact Kd.C_below HR0_13.out HF.below); (exact HC0_13.out); rintro e w_ ⟨rfl, hb_⟩; refine ⟨_, rfl, ?_⟩; replace HF := HF.call hb_; clear hb_; rotate_left; exact hA; clear A_; refine nA ?_) <;> (repeat' (with_reducible first | (replace HH := iA HP HH; clear HP; rcases HH with ⟨p, HP, HH⟩ | ⟨p, HP, HH⟩) | fail)) <;> (refine sA ?_) <;> (apply lend)))
    | ((with_reducible refine gate_region (id := 19) ?_); ((apply plain_region) <;> (iterate 7 refine sA ?_) <;> (apply lend)))
    | go_step | fail))
 all_goals (((obtain rfl := Option.some.inj HH.out)); go_ret; exact ⟨by rfl, HF.below⟩)

/-! ### spec_l01Low: function 104 -/
def spec_l01Low.f (a0 a1 : Int) : Option (Int) := if a1 = 0 then (none) else (if (Int.tmod a0 a1) < 0 then (some (wrap64 ((Int.tmod a0 a1) + a1))) else (some (Int.tmod a0 a1)))
theorem spec_l01Low.calls (a0 a1 r : Int) (w : World) (h : spec_l01Low.f a0 a1 = some r) :
  Calls Tryz.prog 104 #[.int .i64 a0, .int .i64 a1] w fun e w' => e = .returned (.int .i64 r) ∧ Drawn0 w w' := by
 have H : (if a1 = 0 then (none) else (if (Int.tmod a0 a1) < 0 then (some (wrap64 ((Int.tmod a0 a1) + a1))) else (some (Int.tmod a0 a1)))) = some r := h
 clear h
 by_cases c3 : a1 = 0
 ·rw [if_pos c3] at H
  exact absurd H (by simp)
 ·rw [if_neg c3] at H
  have c3b0 : (a1 == 0) = false := beq_eq_false_iff_ne.mpr c3
  have c3b1 : (a1 != 0) = true := bne_iff_ne.mpr c3
  by_cases c4 : (Int.tmod a0 a1) < 0
  ·rw [if_pos c4] at H
   have c4b0 : decide ((Int.tmod a0 a1) < 0) = true := decide_eq_true c4
   clear c4
   obtain rfl := Option.some.inj H
   go_enter Tryz.func104, Tryz.ntmps104
   go_wp2
   go_ret
   exact ⟨vF, vD⟩
  ·rw [if_neg c4] at H
   have c4b0 : decide ((Int.tmod a0 a1) < 0) = false := decide_eq_false c4
   clear c4
   obtain rfl := Option.some.inj H
   go_enter Tryz.func104, Tryz.ntmps104
   go_wp2
   go_ret
   exact ⟨vF, vD⟩

/-! ### spec_Put16: function 67 -/
def spec_Put16.f (a0 : Int) : Option (List Int) := (spec_l01Low.f a0 65536).bind fun t319 => (some (([(wrap64 (Int.tdiv t319 256)) % 256, (Int.tmod t319 256) % 256] : List Int)))
theorem spec_Put16.calls (a0 : Int) (r : List Int) (w : World) (h : spec_Put16.f a0 = some r) :
  Calls Tryz.prog 67 #[.int .i64 a0] w fun e w' => ∃ v0_ : Value, e = .returned (v0_) ∧ Kd.R (Kd.int .u8) 5 w' w.heap.size (fun _ => True) v0_ r ∧ Below w.heap.size w w' := by
 have hu22 := Tryz.underlying22
 have HF := Fr.start [] w
 have HP := Aside0.mk True.intro
 unfold spec_Put16.f at h
 have HH := Aside0.mk h
 clear h
 go_enter Tryz.func67, Tryz.ntmps67
 all_goals (repeat' (first
    | ((with_reducible refine gA 0 ?_) <;> (refine sA ?_) <;> (apply lend))
    | ((with_reducible refine gA 1 ?_) <;> (refine sA ?_) <;> ((replace HH := bA HH); obtain ⟨_, A5_, HH⟩ := HH) <;> (refine HF.dB Tryz.func104 (by (with_reducible apply spec_l01Low.calls (h := A5_.out))) ?_; clear HF A5_; intro w_ HF) <;> (refine sA ?_) <;> (apply lend))
    | ((with_reducible refine gA 2 ?_) <;> (iterate 6 refine sA ?_) <;> (apply HF.lbuild rfl rfl; (go_simp; exact ⟨rfl, rfl⟩); clear HF; intro g_ w_ hg_ hb_ hh_ HF; replace HF := HF.mark; have HO12_0 := lit_row (k := .u8) (xs := [_, _]) hg_ hh_ (Nat.le_of_ble_eq_true rfl); clear hg_ hb_ hh_; refine nA ?_) <;> ((refine pA ?_); have HO2_0 := HO12_0) <;> (apply lend))
    | go_step | fail))
 all_goals (have h_ := HH.out; clear HH; cases h_ <;> (go_ret; first
   | exact ⟨_, rfl, (rN HF HO2_0), HF.below⟩))

/-! ### spec_l02Word: function 126 -/
def spec_l02Word.f (a0 : Int) : Option (Bool) := if a0 ≥ 0 then (some (decide (a0 ≤ 65535))) else (some false)
theorem spec_l02Word.calls (a0 : Int) (r : Bool) (w : World) (h : spec_l02Word.f a0 = some r) :
  Calls Tryz.prog 126 #[.int .i64 a0] w fun e w' => e = .returned (.bool r) ∧ Drawn0 w w' := by
 have H : (if a0 ≥ 0 then (some (decide (a0 ≤ 65535))) else (some false)) = some r := h
 clear h
 by_cases c2 : a0 ≥ 0
 ·rw [if_pos c2] at H
  have c2b0 : decide (0 ≤ a0) = true := decide_eq_true c2
  clear c2
  obtain rfl := Option.some.inj H
  go_enter Tryz.func126, Tryz.ntmps126
  go_wp2
  go_ret
  exact ⟨vF, vD⟩
 ·rw [if_neg c2] at H
  have c2b0 : decide (0 ≤ a0) = false := decide_eq_false c2
  clear c2
  obtain rfl := Option.some.inj H
  go_enter Tryz.func126, Tryz.ntmps126
  go_wp2
  go_ret
  exact ⟨vF, vD⟩

/-! ### spec_SumAdd: function 92 -/
def spec_SumAdd.f (a0 a1 : Int) : Option (Int) := (spec_l02Word.f a0).bind fun t323 => (if t323 = true then ((spec_l02Word.f a1).bind fun t324 => (if t324 = true then (if (wrap64 (a0 + a1)) > 65535 then (some (wrap64 ((wrap64 (a0 + a1)) - 65535))) else (some (wrap64 (a0 + a1)))) else (some (-1)))) else (some (-1)))
theorem spec_SumAdd.calls (a0 a1 r : Int) (w : World) (h : spec_SumAdd.f a0 a1 = some r) :
  Calls Tryz.prog 92 #[.int .i64 a0, .int .i64 a1] w fun e w' => e = .returned (.int .i64 r) ∧ Drawn0 w w' := by
 have H : ((spec_l02Word.f a0).bind fun t323 => (if t323 = true then ((spec_l02Word.f a1).bind fun t324 => (if t324 = true then (if (wrap64 (a0 + a1)) > 65535 then (some (wrap64 ((wrap64 (a0 + a1)) - 65535))) else (some (wrap64 (a0 + a1)))) else (some (-1)))) else (some (-1)))) = some r := h
 clear h
 replace H := Option.bind_eq_some_iff.mp H
 obtain ⟨t323, A30, H⟩ := H
 replace H : (if t323 = true then ((spec_l02Word.f a1).bind fun t324 => (if t324 = true then (if (wrap64 (a0 + a1)) > 65535 then (some (wrap64 ((wrap64 (a0 + a1)) - 65535))) else (some (wrap64 (a0 + a1)))) else (some (-1)))) else (some (-1))) = some r := H
 have A3 := Aside0.mk A30
 clear A30
 by_cases c4 : t323 = true
 ·subst c4
  have H1 : ((spec_l02Word.f a1).bind fun t324 => (if t324 = true then (if (wrap64 (a0 + a1)) > 65535 then (some (wrap64 ((wrap64 (a0 + a1)) - 65535))) else (some (wrap64 (a0 + a1)))) else (some (-1)))) = some r := by rw [if_pos rfl] at H; exact H
  clear H
  have H := H1
  clear H1
  replace H := Option.bind_eq_some_iff.mp H
  obtain ⟨t324, A50, H⟩ := H
  replace H : (if t324 = true then (if (wrap64 (a0 + a1)) > 65535 then (some (wrap64 ((wrap64 (a0 + a1)) - 65535))) else (some (wrap64 (a0 + a1)))) else (some (-1))) = some r := H
  have A5 := Aside0.mk A50
  clear A50
  by_cases c6 : t324 = true
  ·subst c6
   have H1 : (if (wrap64 (a0 + a1)) > 65535 then (some (wrap64 ((wrap64 (a0 + a1)) - 65535))) else (some (wrap64 (a0 + a1)))) = some r := by rw [if_pos rfl] at H; exact H
   clear H
   have H := H1
   clear H1
   by_cases c7 : (wrap64 (a0 + a1)) > 65535
   ·rw [if_pos c7] at H
    have c7b0 : decide (65535 < (wrap64 (a0 + a1))) = true := decide_eq_true c7
    clear c7
    obtain rfl := Option.some.inj H
    go_enter Tryz.func92, Tryz.ntmps92
    go_wp2_with (first | ((with_reducible refine gate_callee (f := 126) rfl ?_); refine goesL_ (some 6) rfl rfl Tryz.func126 (by kernel_rfl) rfl #[.int .i64 a0] rfl (by (simp only [List.map_toArray, List.map_cons, List.map_nil]); rfl) ?_; (with_reducible refine (spec_l02Word.calls a0 true _ A3.out).mono ?_); rintro e w' ⟨rfl, ⟨nd, rfl⟩⟩; refine ⟨_, rfl, ?_⟩) | (go_at_call 126; (with_reducible refine (spec_l02Word.calls a1 true _ A5.out).mono ?_); rintro e w' ⟨rfl, ⟨nd, rfl⟩⟩))
    go_ret
    exact ⟨vF, vD⟩
   ·rw [if_neg c7] at H
    have c7b0 : decide (65535 < (wrap64 (a0 + a1))) = false := decide_eq_false c7
    clear c7
    obtain rfl := Option.some.inj H
    go_enter Tryz.func92, Tryz.ntmps92
    go_wp2_with (first | ((with_reducible refine gate_callee (f := 126) rfl ?_); refine goesL_ (some 6) rfl rfl Tryz.func126 (by kernel_rfl) rfl #[.int .i64 a0] rfl (by (simp only [List.map_toArray, List.map_cons, List.map_nil]); rfl) ?_; (with_reducible refine (spec_l02Word.calls a0 true _ A3.out).mono ?_); rintro e w' ⟨rfl, ⟨nd, rfl⟩⟩; refine ⟨_, rfl, ?_⟩) | (go_at_call 126; (with_reducible refine (spec_l02Word.calls a1 true _ A5.out).mono ?_); rintro e w' ⟨rfl, ⟨nd, rfl⟩⟩))
    go_ret
    exact ⟨vF, vD⟩
  ·replace c6 := Bool.eq_false_iff.mpr c6
   subst c6
   have H1 : (some (-1)) = some r := by rw [if_neg (show ¬ (false = true) by decide)] at H; exact H
   clear H
   have H := H1
   clear H1
   obtain rfl := Option.some.inj H
   go_enter Tryz.func92, Tryz.ntmps92
   go_wp2_with (first | ((with_reducible refine gate_callee (f := 126) rfl ?_); refine goesL_ (some 6) rfl rfl Tryz.func126 (by kernel_rfl) rfl #[.int .i64 a0] rfl (by (simp only [List.map_toArray, List.map_cons, List.map_nil]); rfl) ?_; (with_reducible refine (spec_l02Word.calls a0 true _ A3.out).mono ?_); rintro e w' ⟨rfl, ⟨nd, rfl⟩⟩; refine ⟨_, rfl, ?_⟩) | (go_at_call 126; (with_reducible refine (spec_l02Word.calls a1 false _ A5.out).mono ?_); rintro e w' ⟨rfl, ⟨nd, rfl⟩⟩))
   go_ret
   exact ⟨vF, vD⟩
 ·replace c4 := Bool.eq_false_iff.mpr c4
  subst c4
  have H1 : (some (-1)) = some r := by rw [if_neg (show ¬ (false = true) by decide)] at H; exact H
  clear H
  have H := H1
  clear H1
  obtain rfl := Option.some.inj H
  go_enter Tryz.func92, Tryz.ntmps92
  go_wp2_with (((with_reducible refine gate_callee (f := 126) rfl ?_); refine goesL_ (some 6) rfl rfl Tryz.func126 (by kernel_rfl) rfl #[.int .i64 a0] rfl (by (simp only [List.map_toArray, List.map_cons, List.map_nil]); rfl) ?_; (with_reducible refine (spec_l02Word.calls a0 false _ A3.out).mono ?_); rintro e w' ⟨rfl, ⟨nd, rfl⟩⟩; refine ⟨_, rfl, ?_⟩))
  go_ret
  exact ⟨vF, vD⟩

/-! ### spec_OnesSum: function 93 -/
def spec_OnesSum.l0 : Nat → List Int → Int → Int → Option (Int)
 | 0, _, _, _ => none
 | k + 1, x0, x3, x4 => if x4 < (x0.length : Int) then (if 0 ≤ x4 then (if (wrap64 (x4 + 1)) < (x0.length : Int) then (if 0 ≤ (wrap64 (x4 + 1)) then ((spec_SumAdd.f x3 (wrap64 ((wrap64 (256 * (wrap64 (rd x0 x4)))) + (wrap64 (rd x0 (wrap64 (x4 + 1))))))).bind fun t327 => (spec_OnesSum.l0 k x0 t327 (wrap64 (x4 + 2)))) else (none)) else ((spec_SumAdd.f x3 (wrap64 (256 * (wrap64 (rd x0 x4))))).bind fun t328 => (spec_OnesSum.l0 k x0 t328 (wrap64 (x4 + 2))))) else (none)) else (some x3)
def spec_OnesSum.f (k : Nat) (l0 : List Int) : Option (Int) := if (l0.length : Int) > 2000 then (some (-1)) else (spec_OnesSum.l0 k l0 0 0)
theorem spec_OnesSum.calls (k : Nat) (A0 : Option Addr) (c0 : Nat) (l0 : List Int) (r : Int) (w : World) (hr0 : Kd.C (Kd.int .u8) w A0 l0.length l0) (hc0 : l0.length ≤ c0) (h : spec_OnesSum.f k l0 = some r) :
  Calls Tryz.prog 93 #[.slice A0 l0.length c0] w fun e w' => e = .returned (.int .i64 r) ∧ Drawn0 w w' := by
 have HR0 := Aside0.mk hr0
 have HC0 := Aside0.mk hc0
 clear hr0 hc0
 have H : (if (l0.length : Int) > 2000 then (some (-1)) else (spec_OnesSum.l0 k l0 0 0)) = some r := h
 clear h
 by_cases c2 : (l0.length : Int) > 2000
 ·rw [if_pos c2] at H
  have c2b0 : decide (2000 < (l0.length : Int)) = true := decide_eq_true c2
  have c2b1 : decide (2000 < l0.length) = true := decide_eq_true (by omega)
  clear c2
  obtain rfl := Option.some.inj H
  go_enter Tryz.func93, Tryz.ntmps93
  go_wp2
  go_ret
  exact ⟨vF, vD⟩
 ·rw [if_neg c2] at H
  have c2b0 : decide (2000 < (l0.length : Int)) = false := decide_eq_false c2
  have c2b1 : decide (2000 < l0.length) = false := decide_eq_false (by omega)
  clear c2
  have H' := Aside0.mk H
  clear H
  go_enter Tryz.func93, Tryz.ntmps93
  go_wp2
  go_loopg [3, 4] k (fun kq v3 v4 w' => ∃ (x3_1 : Int) (x4_1 : Int), v3 = .int .i64 x3_1 ∧ v4 = .int .i64 x4_1 ∧ Aside0 (spec_OnesSum.l0 kq l0 x3_1 x4_1 = some r) ∧ Aside0 (kq ≤ k) ∧ Drawn0 w w')
  case atStart => exact ⟨(0), (0), (by rfl), (by rfl), H', ⟨Nat.le_refl _⟩, by repeat (exact Drawn0.refl _)⟩
  case round =>
   clear H'
   try clear c2
   try clear c2b0
   try clear c2b1
   try clear p2
   obtain ⟨x3_1, x4_1, rfl, rfl, HA, HK1, ⟨m1, rfl⟩⟩ := hrel
   cases gk with
   | zero => exact absurd HA.out (by simp [spec_OnesSum.l0])
   | succ k1 =>
    have H := HA.out
    clear HA
    simp only [spec_OnesSum.l0] at H
    by_cases c3 : x4_1 < (l0.length : Int)
    ·rw [if_pos c3] at H
     have c3b0 : decide (x4_1 < (l0.length : Int)) = true := decide_eq_true c3
     clear c3
     by_cases c4 : 0 ≤ x4_1
     ·rw [if_pos c4] at H
      have c4b0 : decide (0 ≤ x4_1) = true := decide_eq_true c4
      clear c4
      by_cases c5 : (wrap64 (x4_1 + 1)) < (l0.length : Int)
      ·rw [if_pos c5] at H
       have c5b0 : decide ((wrap64 (x4_1 + 1)) < (l0.length : Int)) = true := decide_eq_true c5
       clear c5
       obtain ⟨ji6, hji6⟩ : ∃ j_ : Int, (wrap64 (x4_1 + 1)) = j_ := ⟨_, rfl⟩
       replace H : (if 0 ≤ (ji6) then ((spec_SumAdd.f x3_1 (wrap64 ((wrap64 (256 * (wrap64 (rd l0 x4_1)))) + (wrap64 (rd l0 (ji6)))))).bind fun t327 => (spec_OnesSum.l0 k1 l0 t327 (wrap64 (x4_1 + 2)))) else (none)) = some r := by (rw [hji6] at H; exact H)
       (rw [hji6] at c5b0)
       have hji6w : (IntKind.i64.wrap (x4_1 + 1)) = ji6 := (i64_w _).trans hji6
       by_cases c7 : 0 ≤ (ji6)
       ·rw [if_pos c7] at H
        have c7b0 : decide (0 ≤ (ji6)) = true := decide_eq_true c7
        clear c7
        replace H := Option.bind_eq_some_iff.mp H
        obtain ⟨t327, A80, H⟩ := H
        replace H : (spec_OnesSum.l0 k1 l0 t327 (wrap64 (x4_1 + 2))) = some r := H
        have A8 := Aside0.mk A80
        clear A80
        have H' := Aside0.mk H
        clear H
        have p325 : 0 ≤ (x4_1 : Int) := of_decide_eq_true (by (with_reducible assumption))
        have q325 : x4_1 < (l0.length : Int) := of_decide_eq_true (by (with_reducible assumption))
        obtain ⟨ad325, e325, hx325_0⟩ := Kd.at_int HR0.out x4_1 p325 q325
        cases e325
        replace p325 := eq_true p325
        replace q325 := eq_true q325
        have p326 : 0 ≤ ((ji6) : Int) := of_decide_eq_true (by (with_reducible assumption))
        have q326 : (ji6) < (l0.length : Int) := of_decide_eq_true (by (with_reducible assumption))
        obtain ⟨ad326, e326, hx326_0⟩ := Kd.at_int HR0.out (ji6) p326 q326
        obtain rfl : ad325 = ad326 := (by injection e326)
        replace p326 := eq_true p326
        replace q326 := eq_true q326
        go_wp2_with (((with_reducible refine gate_callee (f := 92) rfl ?_); refine goesL_ (some 36) rfl rfl Tryz.func92 (by kernel_rfl) rfl #[.int .i64 x3_1, .int .i64 (wrap64 ((wrap64 (256 * (wrap64 (rd l0 x4_1)))) + (wrap64 (rd l0 (ji6)))))] rfl (by (simp only [List.map_toArray, List.map_cons, List.map_nil]); rfl) ?_; (with_reducible refine (spec_SumAdd.calls x3_1 (wrap64 ((wrap64 (256 * (wrap64 (rd l0 x4_1)))) + (wrap64 (rd l0 (ji6))))) t327 _ A8.out).mono ?_); rintro e w' ⟨rfl, ⟨nd, rfl⟩⟩; refine ⟨_, rfl, ?_⟩))
        go_roundg k1
        case measure => have := HK1.out; omega
        case rel => exact ⟨(t327), (wrap64 (x4_1 + 2)), (by rfl), (by rfl), H', ⟨by have := HK1.out; omega⟩, by repeat (first | exact Drawn0.refl _ | apply Drawn0.step)⟩
       ·rw [if_neg c7] at H
        exact absurd H (by simp)
      ·rw [if_neg c5] at H
       have c5b0 : decide ((wrap64 (x4_1 + 1)) < (l0.length : Int)) = false := decide_eq_false c5
       clear c5
       replace H := Option.bind_eq_some_iff.mp H
       obtain ⟨t328, A90, H⟩ := H
       replace H : (spec_OnesSum.l0 k1 l0 t328 (wrap64 (x4_1 + 2))) = some r := H
       have A9 := Aside0.mk A90
       clear A90
       have H' := Aside0.mk H
       clear H
       have p325 : 0 ≤ (x4_1 : Int) := of_decide_eq_true (by (with_reducible assumption))
       have q325 : x4_1 < (l0.length : Int) := of_decide_eq_true (by (with_reducible assumption))
       obtain ⟨ad325, e325, hx325_0⟩ := Kd.at_int HR0.out x4_1 p325 q325
       cases e325
       replace p325 := eq_true p325
       replace q325 := eq_true q325
       go_wp2_with (((with_reducible refine gate_callee (f := 92) rfl ?_); refine goesL_ (some 36) rfl rfl Tryz.func92 (by kernel_rfl) rfl #[.int .i64 x3_1, .int .i64 (wrap64 (256 * (wrap64 (rd l0 x4_1))))] rfl (by (simp only [List.map_toArray, List.map_cons, List.map_nil]); rfl) ?_; (with_reducible refine (spec_SumAdd.calls x3_1 (wrap64 (256 * (wrap64 (rd l0 x4_1)))) t328 _ A9.out).mono ?_); rintro e w' ⟨rfl, ⟨nd, rfl⟩⟩; refine ⟨_, rfl, ?_⟩))
       go_roundg k1
       case measure => have := HK1.out; omega
       case rel => exact ⟨(t328), (wrap64 (x4_1 + 2)), (by rfl), (by rfl), H', ⟨by have := HK1.out; omega⟩, by repeat (first | exact Drawn0.refl _ | apply Drawn0.step)⟩
     ·rw [if_neg c4] at H
      exact absurd H (by simp)
    ·rw [if_neg c3] at H
     have c3b0 : decide (x4_1 < (l0.length : Int)) = false := decide_eq_false c3
     clear c3
     obtain rfl := Option.some.inj H
     go_wp2
     go_ret
     exact ⟨vF, vD⟩

/-! ### spec_Put32: function 100 -/
def spec_Put32.f (a0 : Int) : Option (List Int) := (spec_l01Low.f a0 4294967296).bind fun t329 => ((spec_Put16.f (wrap64 (Int.tdiv t329 65536))).bind fun t330 => ((spec_Put16.f (Int.tmod t329 65536)).bind fun t333 => (if t330.length + t333.length < 140737488355328 then (some (t330 ++ t333)) else (none))))
theorem spec_Put32.calls (a0 : Int) (r : List Int) (w : World) (h : spec_Put32.f a0 = some r) :
  Calls Tryz.prog 100 #[.int .i64 a0] w fun e w' => ∃ v0_ : Value, e = .returned (v0_) ∧ Kd.R (Kd.int .u8) 5 w' w.heap.size (fun _ => True) v0_ r ∧ Below w.heap.size w w' := by
 have hu22 := Tryz.underlying22
 have info5_ : (Tryz.prog.info? 5).map (fun i => (i.zero, i.size, i.bytes)) = some (some (.int .u8 0), 1, 1) := by kernel_rfl
 have HF := Fr.start [] w
 have HP := Aside0.mk True.intro
 unfold spec_Put32.f at h
 have HH := Aside0.mk h
 clear h
 go_enter Tryz.func100, Tryz.ntmps100
 all_goals (repeat' (first
    | ((with_reducible refine gA 0 ?_) <;> (refine sA ?_) <;> (apply lend))
    | ((with_reducible refine gA 1 ?_) <;> (refine sA ?_) <;> ((replace HH := bA HH); obtain ⟨_, A5_, HH⟩ := HH) <;> (refine HF.dB Tryz.func104 (by (with_reducible apply spec_l01Low.calls (h := A5_.out))) ?_; clear HF A5_; intro w_ HF) <;> (refine sA ?_) <;> (apply lend))
    | ((with_reducible refine gA 2 ?_) <;> (iterate 2 refine sA ?_) <;> ((replace HH := bA HH); obtain ⟨_, A8_, HH⟩ := HH) <;> (refine HF.rB Tryz.func67 (by (with_reducible apply spec_Put16.calls (h := A8_.out))) ?_; clear HF A8_; intro Av8_0 cv8_0 w_ HO8_0 HB8 HF; refine nA ?_) <;> (iterate 2 refine sA ?_) <;> ((replace HH := bA HH); obtain ⟨_, A11_, HH⟩ := HH) <;> (repeat' (with_reducible first | exact xE HH | (replace HH := iA HP HH; clear HP; rcases HH with ⟨p, HP, HH⟩ | ⟨p, HP, HH⟩) | fail)) <;> (have HS11 := HF.since; refine HF.rB Tryz.func67 (by (with_reducible apply spec_Put16.calls (h := A11_.out))) ?_; clear HF A11_; intro Av11_0 cv11_0 w_ HO11_0 HB11 HF; refine nA ?_) <;> ((refine HF.aQ HO8_0 (HF.r1 HO11_0) ?_; clear HF; intro y_ Av12_0 cv12_0 w_ ey_ HO12_0 HF; have EY12 := Aside0.mk ey_.symm; (rw [ey_] at HH); clear ey_; refine nA ?_)) <;> ((refine pA ?_); have HO2_0 := HO12_0) <;> (apply lend))
    | go_step | fail))
 all_goals (have h_ := HH.out; clear HH; cases h_ <;> (go_ret; first
   | exact ⟨_, rfl, (by exact (rN HF HO2_0)), HF.below⟩))

end Go.Proofs.YtffkgndghbdgnaaGreat.FFnExactPacketBytes
