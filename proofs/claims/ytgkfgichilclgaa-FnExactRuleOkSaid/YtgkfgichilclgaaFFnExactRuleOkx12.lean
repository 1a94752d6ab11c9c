-- Functions and their contracts, written by a program of this claim (wip/tools/oprint.py) out of the translation.
import Derived.Test.YtgkfgichilclgaaFFnExactRuleOkx0
import Derived.Test.YtgkfgichilclgaaFrame
import Derived.Test.YtgkfgichilclgaaFFnExactRuleOkx7
import Derived.Test.YtgkfgichilclgaaFFnExactRuleOkx8
import Derived.Test.YtgkfgichilclgaaFFnExactRuleOkx11
namespace Go.Proofs.Ytgkfgichilclgaa.FFnExactRuleOk
open Go.RowKit Go.Proofs.YtgkfgichilclgaaW.PrintWords Go.Proofs.YtgkfgichilclgaaW.PrintLast Go.Proofs.YtgkfgichilclgaaW.PrintMore Go.Proofs.Ytgkfgichilclgaa.Frame
attribute [local go_sem] max2_int min2_int max_two min_two max_three min_three max_four min_four   -- for this text's walks alone
set_option linter.unusedVariables false
set_option linter.unusedSimpArgs false

/-! ### impl_isRange: function 60 -/
def impl_isRange.f (a0 : Int) (a1 : Int) : Option (Bool) := if a0 ≥ 0 then (if a0 ≤ a1 then (some (decide (a1 ≤ 65535))) else (some false)) else (some false)
set_option maxHeartbeats 8000000 in
set_option maxRecDepth 100000 in
theorem impl_isRange.calls (a0 : Int) (a1 : Int) (r : Bool) (w : World) (h : impl_isRange.f a0 a1 = some r) :
    Calls Try.prog 60 #[.int .i64 a0, .int .i64 a1] w fun e w' => e = .returned (.bool r) ∧ Drawn0 w w' := by
  have H : (if a0 ≥ 0 then (if a0 ≤ a1 then (some (decide (a1 ≤ 65535))) else (some false)) else (some false)) = some r := h
  clear h
  by_cases c3 : a0 ≥ 0
  · rw [if_pos c3] at H
    have c3b0 : decide (0 ≤ a0) = true := decide_eq_true c3
    clear c3
    by_cases c4 : a0 ≤ a1
    · rw [if_pos c4] at H
      have c4b0 : decide (a0 ≤ a1) = true := decide_eq_true c4
      clear c4
      obtain rfl := Option.some.inj H
      go_enter Try.func60, Try.ntmps60
      go_wp2
      go_ret
      exact ⟨by first | rfl | (simp; done) | (simp [*]; done), by repeat (first | exact Drawn0.refl _ | apply Drawn0.step)⟩
    · rw [if_neg c4] at H
      have c4b0 : decide (a0 ≤ a1) = false := decide_eq_false c4
      clear c4
      obtain rfl := Option.some.inj H
      go_enter Try.func60, Try.ntmps60
      go_wp2
      go_ret
      exact ⟨by first | rfl | (simp; done) | (simp [*]; done), by repeat (first | exact Drawn0.refl _ | apply Drawn0.step)⟩
  · rw [if_neg c3] at H
    have c3b0 : decide (0 ≤ a0) = false := decide_eq_false c3
    clear c3
    obtain rfl := Option.some.inj H
    go_enter Try.func60, Try.ntmps60
    go_wp2
    go_ret
    exact ⟨by first | rfl | (simp; done) | (simp [*]; done), by repeat (first | exact Drawn0.refl _ | apply Drawn0.step)⟩

/-! ### impl_RuleOk: function 15 -/
def impl_RuleOk.f (k : Nat) (a0_0 : Int) (a0_1 : Int) (a0_2 : Int) (a0_3 : Int) (a0_4 : Int) (a0_5 : Int) (a0_6 : Int) (a0_7 : Int) (a0_8 : Int) (a0_9 : Int) (a0_10 : Int) (a0_11 : Int) (a0_12 : Int) (a0_13 : Int) (a0_14 : Int) (a0_15 : Int) (a0_16 : Int) (a0_17 : Int) (a0_18 : Int) (a0_19 : Int) (a0_20 : Int) : Option (Bool) := (impl_within.f a0_0 1 9999).bind fun t306 => (if t306 = true then ((impl_PrefixOk.f k a0_1 a0_2 a0_3 a0_4 a0_5 a0_6).bind fun t307 => (if t307 = true then ((impl_PrefixOk.f k a0_7 a0_8 a0_9 a0_10 a0_11 a0_12).bind fun t308 => (if t308 = true then ((impl_within.f a0_13 (-1) 255).bind fun t309 => (if t309 = true then ((impl_isRange.f a0_14 a0_15).bind fun t310 => (if t310 = true then ((impl_isRange.f a0_16 a0_17).bind fun t311 => (if t311 = true then ((impl_within.f a0_18 1 8).bind fun t312 => (if t312 = true then ((impl_within.f a0_19 1 10).bind fun t313 => (if t313 = true then ((impl_within.f a0_20 1 8).bind fun t314 => (some t314)) else (some false))) else (some false))) else (some false))) else (some false))) else (some false))) else (some false))) else (some false))) else (some false))
theorem impl_RuleOk.mono : ∀ a0 a1 a2 a3 a4 a5 a6 a7 a8 a9 a10 a11 a12 a13 a14 a15 a16 a17 a18 a19 a20 k, LeO (impl_RuleOk.f k a0 a1 a2 a3 a4 a5 a6 a7 a8 a9 a10 a11 a12 a13 a14 a15 a16 a17 a18 a19 a20) (impl_RuleOk.f (k + 1) a0 a1 a2 a3 a4 a5 a6 a7 a8 a9 a10 a11 a12 a13 a14 a15 a16 a17 a18 a19 a20) := by
  intro a0 a1 a2 a3 a4 a5 a6 a7 a8 a9 a10 a11 a12 a13 a14 a15 a16 a17 a18 a19 a20 k
  unfold impl_RuleOk.f
  repeat' first
      | (with_reducible exact impl_PrefixOk.mono _ _ _ _ _ _ _)
      | (with_reducible exact LeO.refl _)
      | (with_reducible exact LeO.none _)
      | (with_reducible refine LeO.ite ?_ ?_)
      | (with_reducible refine LeO.bind ?_ (fun _ => ?_))
      | exact impl_PrefixOk.mono _ _ _ _ _ _ _
      | exact LeO.none _
      | refine LeO.ite ?_ ?_
      | refine LeO.bind ?_ (fun _ => ?_)
set_option maxHeartbeats 8000000 in
set_option maxRecDepth 100000 in
theorem impl_RuleOk.calls (k : Nat) (a0_0 : Int) (a0_1 : Int) (a0_2 : Int) (a0_3 : Int) (a0_4 : Int) (a0_5 : Int) (a0_6 : Int) (a0_7 : Int) (a0_8 : Int) (a0_9 : Int) (a0_10 : Int) (a0_11 : Int) (a0_12 : Int) (a0_13 : Int) (a0_14 : Int) (a0_15 : Int) (a0_16 : Int) (a0_17 : Int) (a0_18 : Int) (a0_19 : Int) (a0_20 : Int) (r : Bool) (w : World) (h : impl_RuleOk.f k a0_0 a0_1 a0_2 a0_3 a0_4 a0_5 a0_6 a0_7 a0_8 a0_9 a0_10 a0_11 a0_12 a0_13 a0_14 a0_15 a0_16 a0_17 a0_18 a0_19 a0_20 = some r) :
    Calls Try.prog 15 #[.agg #[.int .i64 a0_0, .int .i64 a0_1, .int .i64 a0_2, .int .i64 a0_3, .int .i64 a0_4, .int .i64 a0_5, .int .i64 a0_6, .int .i64 a0_7, .int .i64 a0_8, .int .i64 a0_9, .int .i64 a0_10, .int .i64 a0_11, .int .i64 a0_12, .int .i64 a0_13, .int .i64 a0_14, .int .i64 a0_15, .int .i64 a0_16, .int .i64 a0_17, .int .i64 a0_18, .int .i64 a0_19, .int .i64 a0_20]] w fun e w' => e = .returned (.bool r) ∧ Below w.heap.size w w' := by
  have hu33 := Try.underlying33
  have O3_ : IsOne Try.prog 3 := ⟨⟨_, Try.underlying3, rfl⟩, by kernel_rfl⟩
  have R31_ : IsRow Try.prog 31 6 := ⟨⟨_, Try.underlying31, rfl⟩, by kernel_rfl⟩
  have HF := Fr.start [33] w
  unfold impl_RuleOk.f at h
  have HH := Aside0.mk h
  clear h
  repeat' (first | (have h_ := HH.out; (with_reducible replace h_ := ite_ways h_); clear HH; rcases h_ with ⟨c_, h_⟩ | ⟨c_, h_⟩ <;> (have HH := Aside0.mk h_; clear h_; first | (replace c_ := (show (_ : Bool) = true from c_); subst c_) | (replace c_ := Bool.eq_false_iff.mpr c_; subst c_) | (replace c_ := bne_eq_false_iff_eq.mp (Bool.eq_false_iff.mpr c_); subst c_) | (replace c_ := (show (_ : Bool) = true from c_); try have := beq_eq_false_iff_ne.mpr (bne_iff_ne.mp c_)) | (replace c_ := Bool.eq_false_iff.mpr c_) | (have := beq_iff_eq.mpr c_; have := bne_eq_false_iff_eq.mpr c_; clear c_) | (have := beq_eq_false_iff_ne.mpr c_; have := bne_iff_ne.mpr c_; clear c_) | (have := decide_eq_true (show _ ≤ _ from c_); clear c_) | (have := decide_eq_true (show _ < _ from c_); clear c_) | (have := decide_eq_false (show ¬ (_ ≤ _) from c_); clear c_) | (have := decide_eq_false (show ¬ (_ < _) from c_); clear c_))) | (with_reducible exact (none_ne HH.out).elim) | (with_reducible exact (ft_ne HH.out).elim) | fail)
  all_goals go_enter Try.func15, Try.ntmps15
  all_goals go_wp2_with (first
        | ((with_reducible refine gate_list ?_); first
          | ((refine gate_some rfl (by rfl) ?_); dsimp only)
          | ((with_reducible apply Fr.box HF rfl rfl rfl); (go_simp; rfl); decide; clear HF; intro g_ w_ HF)
          | ((with_reducible apply Fr.loadOne HF rfl rfl rfl); assumption; rfl; (repeat (first | exact At.head | apply At.tail)); rfl)
          | ((with_reducible apply Fr.loadRow HF rfl rfl rfl); assumption; rfl; (repeat (first | exact At.head | apply At.tail)); (simp only [List.drop_succ_cons, List.drop_zero, List.take_succ_cons, List.take_zero]; rfl); rfl))
        | (go_at_call 58; have h_ := HH.out; (with_reducible replace h_ := Option.bind_eq_some_iff.mp h_); clear HH; obtain ⟨_, A_, h_⟩ := h_; have HH := Aside0.mk h_; clear h_; replace A_ := Aside0.mk A_; (with_reducible apply Calls.mono); (with_reducible apply impl_within.calls (h := A_.out)); clear A_; rintro e w_ ⟨rfl, hb_⟩; replace HF := HF.drawn hb_; clear hb_; (repeat' (first | (have h_ := HH.out; (with_reducible replace h_ := ite_ways h_); clear HH; rcases h_ with ⟨c_, h_⟩ | ⟨c_, h_⟩ <;> (have HH := Aside0.mk h_; clear h_; first | (replace c_ := (show (_ : Bool) = true from c_); subst c_) | (replace c_ := Bool.eq_false_iff.mpr c_; subst c_) | (replace c_ := bne_eq_false_iff_eq.mp (Bool.eq_false_iff.mpr c_); subst c_) | (replace c_ := (show (_ : Bool) = true from c_); try have := beq_eq_false_iff_ne.mpr (bne_iff_ne.mp c_)) | (replace c_ := Bool.eq_false_iff.mpr c_) | (have := beq_iff_eq.mpr c_; have := bne_eq_false_iff_eq.mpr c_; clear c_) | (have := beq_eq_false_iff_ne.mpr c_; have := bne_iff_ne.mpr c_; clear c_) | (have := decide_eq_true (show _ ≤ _ from c_); clear c_) | (have := decide_eq_true (show _ < _ from c_); clear c_) | (have := decide_eq_false (show ¬ (_ ≤ _) from c_); clear c_) | (have := decide_eq_false (show ¬ (_ < _) from c_); clear c_))) | (with_reducible exact (none_ne HH.out).elim) | (with_reducible exact (ft_ne HH.out).elim) | fail)))
        | (go_at_call 59; have h_ := HH.out; (with_reducible replace h_ := Option.bind_eq_some_iff.mp h_); clear HH; obtain ⟨_, A_, h_⟩ := h_; have HH := Aside0.mk h_; clear h_; replace A_ := Aside0.mk A_; (with_reducible apply Calls.mono); (with_reducible apply impl_PrefixOk.calls (h := A_.out)); clear A_; rintro e w_ ⟨rfl, hb_⟩; replace HF := HF.call hb_; clear hb_; (repeat' (first | (have h_ := HH.out; (with_reducible replace h_ := ite_ways h_); clear HH; rcases h_ with ⟨c_, h_⟩ | ⟨c_, h_⟩ <;> (have HH := Aside0.mk h_; clear h_; first | (replace c_ := (show (_ : Bool) = true from c_); subst c_) | (replace c_ := Bool.eq_false_iff.mpr c_; subst c_) | (replace c_ := bne_eq_false_iff_eq.mp (Bool.eq_false_iff.mpr c_); subst c_) | (replace c_ := (show (_ : Bool) = true from c_); try have := beq_eq_false_iff_ne.mpr (bne_iff_ne.mp c_)) | (replace c_ := Bool.eq_false_iff.mpr c_) | (have := beq_iff_eq.mpr c_; have := bne_eq_false_iff_eq.mpr c_; clear c_) | (have := beq_eq_false_iff_ne.mpr c_; have := bne_iff_ne.mpr c_; clear c_) | (have := decide_eq_true (show _ ≤ _ from c_); clear c_) | (have := decide_eq_true (show _ < _ from c_); clear c_) | (have := decide_eq_false (show ¬ (_ ≤ _) from c_); clear c_) | (have := decide_eq_false (show ¬ (_ < _) from c_); clear c_))) | (with_reducible exact (none_ne HH.out).elim) | (with_reducible exact (ft_ne HH.out).elim) | fail)))
        | (go_at_call 60; have h_ := HH.out; (with_reducible replace h_ := Option.bind_eq_some_iff.mp h_); clear HH; obtain ⟨_, A_, h_⟩ := h_; have HH := Aside0.mk h_; clear h_; replace A_ := Aside0.mk A_; (with_reducible apply Calls.mono); (with_reducible apply impl_isRange.calls (h := A_.out)); clear A_; rintro e w_ ⟨rfl, hb_⟩; replace HF := HF.drawn hb_; clear hb_; (repeat' (first | (have h_ := HH.out; (with_reducible replace h_ := ite_ways h_); clear HH; rcases h_ with ⟨c_, h_⟩ | ⟨c_, h_⟩ <;> (have HH := Aside0.mk h_; clear h_; first | (replace c_ := (show (_ : Bool) = true from c_); subst c_) | (replace c_ := Bool.eq_false_iff.mpr c_; subst c_) | (replace c_ := bne_eq_false_iff_eq.mp (Bool.eq_false_iff.mpr c_); subst c_) | (replace c_ := (show (_ : Bool) = true from c_); try have := beq_eq_false_iff_ne.mpr (bne_iff_ne.mp c_)) | (replace c_ := Bool.eq_false_iff.mpr c_) | (have := beq_iff_eq.mpr c_; have := bne_eq_false_iff_eq.mpr c_; clear c_) | (have := beq_eq_false_iff_ne.mpr c_; have := bne_iff_ne.mpr c_; clear c_) | (have := decide_eq_true (show _ ≤ _ from c_); clear c_) | (have := decide_eq_true (show _ < _ from c_); clear c_) | (have := decide_eq_false (show ¬ (_ ≤ _) from c_); clear c_) | (have := decide_eq_false (show ¬ (_ < _) from c_); clear c_))) | (with_reducible exact (none_ne HH.out).elim) | (with_reducible exact (ft_ne HH.out).elim) | fail))))
  all_goals (have h_ := HH.out; clear HH; cases h_ <;> (go_ret; exact ⟨by first | rfl | (simp [errW_none, errW_some] <;> rfl) | (simp [*, errW_none, errW_some] <;> rfl), HF.below⟩))

/-! ### laws_FnExactRuleOk: function 3 -/
def laws_FnExactRuleOk.f (k : Nat) (a0_0 : Int) (a0_1 : Int) (a0_2 : Int) (a0_3 : Int) (a0_4 : Int) (a0_5 : Int) (a0_6 : Int) (a0_7 : Int) (a0_8 : Int) (a0_9 : Int) (a0_10 : Int) (a0_11 : Int) (a0_12 : Int) (a0_13 : Int) (a0_14 : Int) (a0_15 : Int) (a0_16 : Int) (a0_17 : Int) (a0_18 : Int) (a0_19 : Int) (a0_20 : Int) : Option (Bool) := (laws_toRule.f a0_0 a0_1 a0_2 a0_3 a0_4 a0_5 a0_6 a0_7 a0_8 a0_9 a0_10 a0_11 a0_12 a0_13 a0_14 a0_15 a0_16 a0_17 a0_18 a0_19 a0_20).bind fun bt316 => ((spec_RuleOk.f k bt316.1 bt316.2.1 bt316.2.2.1 bt316.2.2.2.1 bt316.2.2.2.2.1 bt316.2.2.2.2.2.1 bt316.2.2.2.2.2.2.1 bt316.2.2.2.2.2.2.2.1 bt316.2.2.2.2.2.2.2.2.1 bt316.2.2.2.2.2.2.2.2.2.1 bt316.2.2.2.2.2.2.2.2.2.2.1 bt316.2.2.2.2.2.2.2.2.2.2.2.1 bt316.2.2.2.2.2.2.2.2.2.2.2.2.1 bt316.2.2.2.2.2.2.2.2.2.2.2.2.2.1 bt316.2.2.2.2.2.2.2.2.2.2.2.2.2.2.1 bt316.2.2.2.2.2.2.2.2.2.2.2.2.2.2.2.1 bt316.2.2.2.2.2.2.2.2.2.2.2.2.2.2.2.2.1 bt316.2.2.2.2.2.2.2.2.2.2.2.2.2.2.2.2.2.1 bt316.2.2.2.2.2.2.2.2.2.2.2.2.2.2.2.2.2.2.1 bt316.2.2.2.2.2.2.2.2.2.2.2.2.2.2.2.2.2.2.2.1 bt316.2.2.2.2.2.2.2.2.2.2.2.2.2.2.2.2.2.2.2.2).bind fun t337 => ((laws_toRule.f a0_0 a0_1 a0_2 a0_3 a0_4 a0_5 a0_6 a0_7 a0_8 a0_9 a0_10 a0_11 a0_12 a0_13 a0_14 a0_15 a0_16 a0_17 a0_18 a0_19 a0_20).bind fun bt338 => ((impl_RuleOk.f k bt338.1 bt338.2.1 bt338.2.2.1 bt338.2.2.2.1 bt338.2.2.2.2.1 bt338.2.2.2.2.2.1 bt338.2.2.2.2.2.2.1 bt338.2.2.2.2.2.2.2.1 bt338.2.2.2.2.2.2.2.2.1 bt338.2.2.2.2.2.2.2.2.2.1 bt338.2.2.2.2.2.2.2.2.2.2.1 bt338.2.2.2.2.2.2.2.2.2.2.2.1 bt338.2.2.2.2.2.2.2.2.2.2.2.2.1 bt338.2.2.2.2.2.2.2.2.2.2.2.2.2.1 bt338.2.2.2.2.2.2.2.2.2.2.2.2.2.2.1 bt338.2.2.2.2.2.2.2.2.2.2.2.2.2.2.2.1 bt338.2.2.2.2.2.2.2.2.2.2.2.2.2.2.2.2.1 bt338.2.2.2.2.2.2.2.2.2.2.2.2.2.2.2.2.2.1 bt338.2.2.2.2.2.2.2.2.2.2.2.2.2.2.2.2.2.2.1 bt338.2.2.2.2.2.2.2.2.2.2.2.2.2.2.2.2.2.2.2.1 bt338.2.2.2.2.2.2.2.2.2.2.2.2.2.2.2.2.2.2.2.2).bind fun t359 => (if (t359 != t337) = true then (some false) else (some true)))))
theorem laws_FnExactRuleOk.mono : ∀ a0 a1 a2 a3 a4 a5 a6 a7 a8 a9 a10 a11 a12 a13 a14 a15 a16 a17 a18 a19 a20 k, LeO (laws_FnExactRuleOk.f k a0 a1 a2 a3 a4 a5 a6 a7 a8 a9 a10 a11 a12 a13 a14 a15 a16 a17 a18 a19 a20) (laws_FnExactRuleOk.f (k + 1) a0 a1 a2 a3 a4 a5 a6 a7 a8 a9 a10 a11 a12 a13 a14 a15 a16 a17 a18 a19 a20) := by
  intro a0 a1 a2 a3 a4 a5 a6 a7 a8 a9 a10 a11 a12 a13 a14 a15 a16 a17 a18 a19 a20 k
  unfold laws_FnExactRuleOk.f
  repeat' first
      | (with_reducible exact impl_RuleOk.mono _ _ _ _ _ _ _ _ _ _ _ _ _ _ _ _ _ _ _ _ _ _)
      | (with_reducible exact spec_RuleOk.mono _ _ _ _ _ _ _ _ _ _ _ _ _ _ _ _ _ _ _ _ _ _)
      | (with_reducible exact LeO.refl _)
      | (with_reducible exact LeO.none _)
      | (with_reducible refine LeO.ite ?_ ?_)
      | (with_reducible refine LeO.bind ?_ (fun _ => ?_))
      | exact impl_RuleOk.mono _ _ _ _ _ _ _ _ _ _ _ _ _ _ _ _ _ _ _ _ _ _
      | exact spec_RuleOk.mono _ _ _ _ _ _ _ _ _ _ _ _ _ _ _ _ _ _ _ _ _ _
      | exact LeO.none _
      | refine LeO.ite ?_ ?_
      | refine LeO.bind ?_ (fun _ => ?_)
set_option maxHeartbeats 8000000 in
set_option maxRecDepth 100000 in
theorem laws_FnExactRuleOk.calls (k : Nat) (a0_0 : Int) (a0_1 : Int) (a0_2 : Int) (a0_3 : Int) (a0_4 : Int) (a0_5 : Int) (a0_6 : Int) (a0_7 : Int) (a0_8 : Int) (a0_9 : Int) (a0_10 : Int) (a0_11 : Int) (a0_12 : Int) (a0_13 : Int) (a0_14 : Int) (a0_15 : Int) (a0_16 : Int) (a0_17 : Int) (a0_18 : Int) (a0_19 : Int) (a0_20 : Int) (_r : Bool) (w : World) (h : laws_FnExactRuleOk.f k a0_0 a0_1 a0_2 a0_3 a0_4 a0_5 a0_6 a0_7 a0_8 a0_9 a0_10 a0_11 a0_12 a0_13 a0_14 a0_15 a0_16 a0_17 a0_18 a0_19 a0_20 = some true) :
    Calls Try.prog 3 #[.agg #[.int .i64 a0_0, .int .i64 a0_1, .int .i64 a0_2, .int .i64 a0_3, .int .i64 a0_4, .int .i64 a0_5, .int .i64 a0_6, .int .i64 a0_7, .int .i64 a0_8, .int .i64 a0_9, .int .i64 a0_10, .int .i64 a0_11, .int .i64 a0_12, .int .i64 a0_13, .int .i64 a0_14, .int .i64 a0_15, .int .i64 a0_16, .int .i64 a0_17, .int .i64 a0_18, .int .i64 a0_19, .int .i64 a0_20]] w fun e w' => e = .returned (.bool true) ∧ Below w.heap.size w w' := by
  have R27_ : IsRow Try.prog 27 21 := ⟨⟨_, Try.underlying27, rfl⟩, by kernel_rfl⟩
  have HF := Fr.start [27] w
  unfold laws_FnExactRuleOk.f at h
  have HH := Aside0.mk h
  clear h
  repeat' (first | (have h_ := HH.out; (with_reducible replace h_ := ite_ways h_); clear HH; rcases h_ with ⟨c_, h_⟩ | ⟨c_, h_⟩ <;> (have HH := Aside0.mk h_; clear h_; first | (replace c_ := (show (_ : Bool) = true from c_); subst c_) | (replace c_ := Bool.eq_false_iff.mpr c_; subst c_) | (replace c_ := bne_eq_false_iff_eq.mp (Bool.eq_false_iff.mpr c_); subst c_) | (replace c_ := (show (_ : Bool) = true from c_); try have := beq_eq_false_iff_ne.mpr (bne_iff_ne.mp c_)) | (replace c_ := Bool.eq_false_iff.mpr c_) | (have := beq_iff_eq.mpr c_; have := bne_eq_false_iff_eq.mpr c_; clear c_) | (have := beq_eq_false_iff_ne.mpr c_; have := bne_iff_ne.mpr c_; clear c_) | (have := decide_eq_true (show _ ≤ _ from c_); clear c_) | (have := decide_eq_true (show _ < _ from c_); clear c_) | (have := decide_eq_false (show ¬ (_ ≤ _) from c_); clear c_) | (have := decide_eq_false (show ¬ (_ < _) from c_); clear c_))) | (with_reducible exact (none_ne HH.out).elim) | (with_reducible exact (ft_ne HH.out).elim) | fail)
  all_goals go_enter Try.func3, Try.ntmps3
  all_goals go_wp2_with (first
        | ((with_reducible refine gate_list ?_); first
          | ((with_reducible apply Fr.box HF rfl rfl rfl); (go_simp; rfl); decide; clear HF; intro g_ w_ HF)
          | ((with_reducible apply Fr.loadRow HF rfl rfl rfl); assumption; rfl; (repeat (first | exact At.head | apply At.tail)); (simp only [List.drop_succ_cons, List.drop_zero, List.take_succ_cons, List.take_zero]; rfl); rfl))
        | (go_at_call 14; have h_ := HH.out; (with_reducible replace h_ := Option.bind_eq_some_iff.mp h_); clear HH; obtain ⟨⟨_, _, _, _, _, _, _, _, _, _, _, _, _, _, _, _, _, _, _, _, _⟩, A_, h_⟩ := h_; have HH := Aside0.mk h_; clear h_; replace A_ := Aside0.mk A_; (with_reducible apply Calls.mono); (with_reducible apply laws_toRule.calls (h := A_.out)); clear A_; rintro e w_ ⟨rfl, hb_⟩; replace HF := HF.call hb_; clear hb_; (repeat' (first | (have h_ := HH.out; (with_reducible replace h_ := ite_ways h_); clear HH; rcases h_ with ⟨c_, h_⟩ | ⟨c_, h_⟩ <;> (have HH := Aside0.mk h_; clear h_; first | (replace c_ := (show (_ : Bool) = true from c_); subst c_) | (replace c_ := Bool.eq_false_iff.mpr c_; subst c_) | (replace c_ := bne_eq_false_iff_eq.mp (Bool.eq_false_iff.mpr c_); subst c_) | (replace c_ := (show (_ : Bool) = true from c_); try have := beq_eq_false_iff_ne.mpr (bne_iff_ne.mp c_)) | (replace c_ := Bool.eq_false_iff.mpr c_) | (have := beq_iff_eq.mpr c_; have := bne_eq_false_iff_eq.mpr c_; clear c_) | (have := beq_eq_false_iff_ne.mpr c_; have := bne_iff_ne.mpr c_; clear c_) | (have := decide_eq_true (show _ ≤ _ from c_); clear c_) | (have := decide_eq_true (show _ < _ from c_); clear c_) | (have := decide_eq_false (show ¬ (_ ≤ _) from c_); clear c_) | (have := decide_eq_false (show ¬ (_ < _) from c_); clear c_))) | (with_reducible exact (none_ne HH.out).elim) | (with_reducible exact (ft_ne HH.out).elim) | fail)))
        | (go_at_call 13; have h_ := HH.out; (with_reducible replace h_ := Option.bind_eq_some_iff.mp h_); clear HH; obtain ⟨_, A_, h_⟩ := h_; have HH := Aside0.mk h_; clear h_; replace A_ := Aside0.mk A_; (with_reducible apply Calls.mono); (with_reducible apply spec_RuleOk.calls (h := A_.out)); clear A_; rintro e w_ ⟨rfl, hb_⟩; replace HF := HF.call hb_; clear hb_; (repeat' (first | (have h_ := HH.out; (with_reducible replace h_ := ite_ways h_); clear HH; rcases h_ with ⟨c_, h_⟩ | ⟨c_, h_⟩ <;> (have HH := Aside0.mk h_; clear h_; first | (replace c_ := (show (_ : Bool) = true from c_); subst c_) | (replace c_ := Bool.eq_false_iff.mpr c_; subst c_) | (replace c_ := bne_eq_false_iff_eq.mp (Bool.eq_false_iff.mpr c_); subst c_) | (replace c_ := (show (_ : Bool) = true from c_); try have := beq_eq_false_iff_ne.mpr (bne_iff_ne.mp c_)) | (replace c_ := Bool.eq_false_iff.mpr c_) | (have := beq_iff_eq.mpr c_; have := bne_eq_false_iff_eq.mpr c_; clear c_) | (have := beq_eq_false_iff_ne.mpr c_; have := bne_iff_ne.mpr c_; clear c_) | (have := decide_eq_true (show _ ≤ _ from c_); clear c_) | (have := decide_eq_true (show _ < _ from c_); clear c_) | (have := decide_eq_false (show ¬ (_ ≤ _) from c_); clear c_) | (have := decide_eq_false (show ¬ (_ < _) from c_); clear c_))) | (with_reducible exact (none_ne HH.out).elim) | (with_reducible exact (ft_ne HH.out).elim) | fail)))
        | (go_at_call 15; have h_ := HH.out; (with_reducible replace h_ := Option.bind_eq_some_iff.mp h_); clear HH; obtain ⟨_, A_, h_⟩ := h_; have HH := Aside0.mk h_; clear h_; replace A_ := Aside0.mk A_; (with_reducible apply Calls.mono); (with_reducible apply impl_RuleOk.calls (h := A_.out)); clear A_; rintro e w_ ⟨rfl, hb_⟩; replace HF := HF.call hb_; clear hb_; (repeat' (first | (have h_ := HH.out; (with_reducible replace h_ := ite_ways h_); clear HH; rcases h_ with ⟨c_, h_⟩ | ⟨c_, h_⟩ <;> (have HH := Aside0.mk h_; clear h_; first | (replace c_ := (show (_ : Bool) = true from c_); subst c_) | (replace c_ := Bool.eq_false_iff.mpr c_; subst c_) | (replace c_ := bne_eq_false_iff_eq.mp (Bool.eq_false_iff.mpr c_); subst c_) | (replace c_ := (show (_ : Bool) = true from c_); try have := beq_eq_false_iff_ne.mpr (bne_iff_ne.mp c_)) | (replace c_ := Bool.eq_false_iff.mpr c_) | (have := beq_iff_eq.mpr c_; have := bne_eq_false_iff_eq.mpr c_; clear c_) | (have := beq_eq_false_iff_ne.mpr c_; have := bne_iff_ne.mpr c_; clear c_) | (have := decide_eq_true (show _ ≤ _ from c_); clear c_) | (have := decide_eq_true (show _ < _ from c_); clear c_) | (have := decide_eq_false (show ¬ (_ ≤ _) from c_); clear c_) | (have := decide_eq_false (show ¬ (_ < _) from c_); clear c_))) | (with_reducible exact (none_ne HH.out).elim) | (with_reducible exact (ft_ne HH.out).elim) | fail))))
  all_goals (have h_ := HH.out; clear HH; cases h_ <;> (go_ret; exact ⟨by first | rfl | (simp [errW_none, errW_some] <;> rfl) | (simp [*, errW_none, errW_some] <;> rfl), HF.below⟩))

end Go.Proofs.Ytgkfgichilclgaa.FFnExactRuleOk
