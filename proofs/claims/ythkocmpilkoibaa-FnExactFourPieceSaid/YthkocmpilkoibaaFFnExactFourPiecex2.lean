-- Functions and their contracts, written by a program of this claim (wip/tools/oprint.py) out of the translation.
import Derived.Test.YthkocmpilkoibaaFFnExactFourPiecex0
import Derived.Test.YthkocmpilkoibaaFrame
import Derived.Test.YthkocmpilkoibaaFFnExactFourPiecex1
namespace Go.Proofs.Ythkocmpilkoibaa.FFnExactFourPiece
open Go.RowKit Go.Proofs.YthkocmpilkoibaaW.PrintWords Go.Proofs.YthkocmpilkoibaaW.PrintLast Go.Proofs.YthkocmpilkoibaaW.PrintMore Go.Proofs.Ythkocmpilkoibaa.Frame
attribute [local go_sem] max2_int min2_int max_two min_two max_three min_three max_four min_four   -- for this text's walks alone
set_option linter.unusedVariables false
set_option linter.unusedSimpArgs false

/-! ### spec_FourOk: function 15 -/
def spec_FourOk.f (a0_0 : Int) (a0_1 : Int) (a0_2 : Int) (a0_3 : Int) (a0_4 : Int) (a0_5 : Int) (a0_6 : Int) (a0_7 : Int) (a0_8 : Int) (a0_9 : Int) (a0_10 : Int) (a0_11 : Int) (a0_12 : Int) (a0_13 : Int) (a0_14 : Int) (a0_15 : Int) (a0_16 : Int) (l0_17 : List Int) (l0_18 : List Int) : Option (Bool) := (spec_l05In.f a0_0 63).bind fun t148 => (if t148 = true then ((spec_l05In.f a0_1 3).bind fun t149 => (if t149 = true then ((spec_l05In.f a0_2 65535).bind fun t150 => (if t150 = true then ((spec_l05In.f a0_3 7).bind fun t151 => (if t151 = true then ((spec_l05In.f a0_4 8191).bind fun t152 => (if t152 = true then ((spec_l05In.f a0_5 255).bind fun t153 => (if t153 = true then ((spec_l05In.f a0_6 255).bind fun t154 => (if t154 = true then (if a0_7 = 4 then (if a0_12 = 4 then ((spec_AddrOk.f a0_7 a0_8 a0_9 a0_10 a0_11).bind fun t155 => (if t155 = true then ((spec_AddrOk.f a0_12 a0_13 a0_14 a0_15 a0_16).bind fun t156 => (if t156 = true then (if (l0_17.length : Int) > 40 then (some false) else (if ((l0_17.length : Int) % 4) = 0 then (some (decide ((l0_18.length : Int) ≤ (wrap64 (1480 - (l0_17.length : Int)))))) else (some false))) else (some false))) else (some false))) else (some false)) else (some false)) else (some false))) else (some false))) else (some false))) else (some false))) else (some false))) else (some false))) else (some false))
set_option maxHeartbeats 8000000 in
set_option maxRecDepth 100000 in
theorem spec_FourOk.calls (a0_0 : Int) (a0_1 : Int) (a0_2 : Int) (a0_3 : Int) (a0_4 : Int) (a0_5 : Int) (a0_6 : Int) (a0_7 : Int) (a0_8 : Int) (a0_9 : Int) (a0_10 : Int) (a0_11 : Int) (a0_12 : Int) (a0_13 : Int) (a0_14 : Int) (a0_15 : Int) (a0_16 : Int) (A0_17 : Option Addr) (c0_17 : Nat) (l0_17 : List Int) (A0_18 : Option Addr) (c0_18 : Nat) (l0_18 : List Int) (r : Bool) (w : World) (hr0_17 : Kd.C (Kd.int .u8) w A0_17 l0_17.length l0_17) (hc0_17 : l0_17.length ≤ c0_17) (hr0_18 : Kd.C (Kd.int .u8) w A0_18 l0_18.length l0_18) (hc0_18 : l0_18.length ≤ c0_18) (h : spec_FourOk.f a0_0 a0_1 a0_2 a0_3 a0_4 a0_5 a0_6 a0_7 a0_8 a0_9 a0_10 a0_11 a0_12 a0_13 a0_14 a0_15 a0_16 l0_17 l0_18 = some r) :
    Calls Try.prog 15 #[.agg #[.int .i64 a0_0, .int .i64 a0_1, .int .i64 a0_2, .int .i64 a0_3, .int .i64 a0_4, .int .i64 a0_5, .int .i64 a0_6, .int .i64 a0_7, .int .i64 a0_8, .int .i64 a0_9, .int .i64 a0_10, .int .i64 a0_11, .int .i64 a0_12, .int .i64 a0_13, .int .i64 a0_14, .int .i64 a0_15, .int .i64 a0_16, .slice A0_17 l0_17.length c0_17, .slice A0_18 l0_18.length c0_18]] w fun e w' => e = .returned (.bool r) ∧ Below w.heap.size w w' := by
  have hu24 := Try.underlying24
  have hu29 := Try.underlying29
  have hu31 := Try.underlying31
  have O3_ : IsOne Try.prog 3 := ⟨⟨_, Try.underlying3, rfl⟩, by kernel_rfl⟩
  have O24_ : IsOne Try.prog 24 := ⟨⟨_, Try.underlying24, rfl⟩, by kernel_rfl⟩
  have R29_ : IsRow Try.prog 29 5 := ⟨⟨_, Try.underlying29, rfl⟩, by kernel_rfl⟩
  have HR0_17 := Aside0.mk hr0_17
  have HC0_17 := Aside0.mk hc0_17
  have HR0_18 := Aside0.mk hr0_18
  have HC0_18 := Aside0.mk hc0_18
  clear hr0_17 hc0_17 hr0_18 hc0_18
  have HF := Fr.start [31] w
  unfold spec_FourOk.f at h
  have HH := Aside0.mk h
  clear h
  repeat' (first | (have h_ := HH.out; (with_reducible replace h_ := ite_ways h_); clear HH; rcases h_ with ⟨c_, h_⟩ | ⟨c_, h_⟩ <;> (have HH := Aside0.mk h_; clear h_; first | (replace c_ := (show (_ : Bool) = true from c_); subst c_) | (replace c_ := Bool.eq_false_iff.mpr c_; subst c_) | (replace c_ := bne_eq_false_iff_eq.mp (Bool.eq_false_iff.mpr c_); subst c_) | (replace c_ := (show (_ : Bool) = true from c_); try have := beq_eq_false_iff_ne.mpr (bne_iff_ne.mp c_)) | (replace c_ := Bool.eq_false_iff.mpr c_) | (have := beq_iff_eq.mpr c_; have := bne_eq_false_iff_eq.mpr c_; clear c_) | (have := beq_eq_false_iff_ne.mpr c_; have := bne_iff_ne.mpr c_; clear c_) | (have := decide_eq_true (show _ ≤ _ from c_); clear c_) | (have := decide_eq_true (show _ < _ from c_); clear c_) | (have := decide_eq_false (show ¬ (_ ≤ _) from c_); clear c_) | (have := decide_eq_false (show ¬ (_ < _) from c_); clear c_))) | (with_reducible exact (none_ne HH.out).elim) | (with_reducible exact (ft_ne HH.out).elim) | fail)
  all_goals go_enter Try.func15, Try.ntmps15
  all_goals go_wp2_with (first
        | ((refine gate_some rfl (by rfl) ?_); dsimp only)
        | ((with_reducible apply Fr.box HF rfl rfl rfl); (go_simp; rfl); decide; clear HF; intro g_ w_ HF)
        | ((with_reducible apply Fr.loadOne HF rfl rfl rfl); assumption; rfl; (repeat (first | exact At.head | apply At.tail)); rfl)
        | ((with_reducible apply Fr.loadRow HF rfl rfl rfl); assumption; rfl; (repeat (first | exact At.head | apply At.tail)); (simp only [List.drop_succ_cons, List.drop_zero, List.take_succ_cons, List.take_zero]; rfl); rfl)
        | (go_at_call 56; have h_ := HH.out; (with_reducible replace h_ := Option.bind_eq_some_iff.mp h_); clear HH; obtain ⟨_, A_, h_⟩ := h_; have HH := Aside0.mk h_; clear h_; replace A_ := Aside0.mk A_; (with_reducible apply Calls.mono); (with_reducible apply spec_l05In.calls (h := A_.out)); clear A_; rintro e w_ ⟨rfl, hb_⟩; replace HF := HF.drawn hb_; clear hb_; (repeat' (first | (have h_ := HH.out; (with_reducible replace h_ := ite_ways h_); clear HH; rcases h_ with ⟨c_, h_⟩ | ⟨c_, h_⟩ <;> (have HH := Aside0.mk h_; clear h_; first | (replace c_ := (show (_ : Bool) = true from c_); subst c_) | (replace c_ := Bool.eq_false_iff.mpr c_; subst c_) | (replace c_ := bne_eq_false_iff_eq.mp (Bool.eq_false_iff.mpr c_); subst c_) | (replace c_ := (show (_ : Bool) = true from c_); try have := beq_eq_false_iff_ne.mpr (bne_iff_ne.mp c_)) | (replace c_ := Bool.eq_false_iff.mpr c_) | (have := beq_iff_eq.mpr c_; have := bne_eq_false_iff_eq.mpr c_; clear c_) | (have := beq_eq_false_iff_ne.mpr c_; have := bne_iff_ne.mpr c_; clear c_) | (have := decide_eq_true (show _ ≤ _ from c_); clear c_) | (have := decide_eq_true (show _ < _ from c_); clear c_) | (have := decide_eq_false (show ¬ (_ ≤ _) from c_); clear c_) | (have := decide_eq_false (show ¬ (_ < _) from c_); clear c_))) | (with_reducible exact (none_ne HH.out).elim) | (with_reducible exact (ft_ne HH.out).elim) | fail)))
        | (go_at_call 57; have h_ := HH.out; (with_reducible replace h_ := Option.bind_eq_some_iff.mp h_); clear HH; obtain ⟨_, A_, h_⟩ := h_; have HH := Aside0.mk h_; clear h_; replace A_ := Aside0.mk A_; (with_reducible apply Calls.mono); (with_reducible apply spec_AddrOk.calls (h := A_.out)); clear A_; rintro e w_ ⟨rfl, hb_⟩; replace HF := HF.call hb_; clear hb_; (repeat' (first | (have h_ := HH.out; (with_reducible replace h_ := ite_ways h_); clear HH; rcases h_ with ⟨c_, h_⟩ | ⟨c_, h_⟩ <;> (have HH := Aside0.mk h_; clear h_; first | (replace c_ := (show (_ : Bool) = true from c_); subst c_) | (replace c_ := Bool.eq_false_iff.mpr c_; subst c_) | (replace c_ := bne_eq_false_iff_eq.mp (Bool.eq_false_iff.mpr c_); subst c_) | (replace c_ := (show (_ : Bool) = true from c_); try have := beq_eq_false_iff_ne.mpr (bne_iff_ne.mp c_)) | (replace c_ := Bool.eq_false_iff.mpr c_) | (have := beq_iff_eq.mpr c_; have := bne_eq_false_iff_eq.mpr c_; clear c_) | (have := beq_eq_false_iff_ne.mpr c_; have := bne_iff_ne.mpr c_; clear c_) | (have := decide_eq_true (show _ ≤ _ from c_); clear c_) | (have := decide_eq_true (show _ < _ from c_); clear c_) | (have := decide_eq_false (show ¬ (_ ≤ _) from c_); clear c_) | (have := decide_eq_false (show ¬ (_ < _) from c_); clear c_))) | (with_reducible exact (none_ne HH.out).elim) | (with_reducible exact (ft_ne HH.out).elim) | fail))))
  all_goals (have h_ := HH.out; clear HH; cases h_ <;> (go_ret; exact ⟨by first | rfl | (simp [errW_none, errW_some] <;> rfl) | (simp [*, errW_none, errW_some] <;> rfl), HF.below⟩))

/-! ### spec_FourPiece: function 19 -/
def spec_FourPiece.f (a0_0 : Int) (a0_1 : Int) (a0_2 : Int) (a0_3 : Int) (a0_4 : Int) (a0_5 : Int) (a0_6 : Int) (a0_7 : Int) (a0_8 : Int) (a0_9 : Int) (a0_10 : Int) (a0_11 : Int) (a0_12 : Int) (a0_13 : Int) (a0_14 : Int) (a0_15 : Int) (a0_16 : Int) (l0_17 : List Int) (l0_18 : List Int) : Option (Bool) := (spec_FourOk.f a0_0 a0_1 a0_2 a0_3 a0_4 a0_5 a0_6 a0_7 a0_8 a0_9 a0_10 a0_11 a0_12 a0_13 a0_14 a0_15 a0_16 l0_17 l0_18).bind fun t158 => (if t158 = true then (if a0_4 = 0 then (some ((Int.tmod a0_3 2) == 1)) else (some true)) else (some false))
set_option maxHeartbeats 8000000 in
set_option maxRecDepth 100000 in
theorem spec_FourPiece.calls (a0_0 : Int) (a0_1 : Int) (a0_2 : Int) (a0_3 : Int) (a0_4 : Int) (a0_5 : Int) (a0_6 : Int) (a0_7 : Int) (a0_8 : Int) (a0_9 : Int) (a0_10 : Int) (a0_11 : Int) (a0_12 : Int) (a0_13 : Int) (a0_14 : Int) (a0_15 : Int) (a0_16 : Int) (A0_17 : Option Addr) (c0_17 : Nat) (l0_17 : List Int) (A0_18 : Option Addr) (c0_18 : Nat) (l0_18 : List Int) (r : Bool) (w : World) (hr0_17 : Kd.C (Kd.int .u8) w A0_17 l0_17.length l0_17) (hc0_17 : l0_17.length ≤ c0_17) (hr0_18 : Kd.C (Kd.int .u8) w A0_18 l0_18.length l0_18) (hc0_18 : l0_18.length ≤ c0_18) (h : spec_FourPiece.f a0_0 a0_1 a0_2 a0_3 a0_4 a0_5 a0_6 a0_7 a0_8 a0_9 a0_10 a0_11 a0_12 a0_13 a0_14 a0_15 a0_16 l0_17 l0_18 = some r) :
    Calls Try.prog 19 #[.agg #[.int .i64 a0_0, .int .i64 a0_1, .int .i64 a0_2, .int .i64 a0_3, .int .i64 a0_4, .int .i64 a0_5, .int .i64 a0_6, .int .i64 a0_7, .int .i64 a0_8, .int .i64 a0_9, .int .i64 a0_10, .int .i64 a0_11, .int .i64 a0_12, .int .i64 a0_13, .int .i64 a0_14, .int .i64 a0_15, .int .i64 a0_16, .slice A0_17 l0_17.length c0_17, .slice A0_18 l0_18.length c0_18]] w fun e w' => e = .returned (.bool r) ∧ Below w.heap.size w w' := by
  have hu31 := Try.underlying31
  have O3_ : IsOne Try.prog 3 := ⟨⟨_, Try.underlying3, rfl⟩, by kernel_rfl⟩
  have R31_ : IsRow Try.prog 31 19 := ⟨⟨_, Try.underlying31, rfl⟩, by kernel_rfl⟩
  have HR0_17 := Aside0.mk hr0_17
  have HC0_17 := Aside0.mk hc0_17
  have HR0_18 := Aside0.mk hr0_18
  have HC0_18 := Aside0.mk hc0_18
  clear hr0_17 hc0_17 hr0_18 hc0_18
  have HF := Fr.start [31] w
  unfold spec_FourPiece.f at h
  have HH := Aside0.mk h
  clear h
  repeat' (first | (have h_ := HH.out; (with_reducible replace h_ := ite_ways h_); clear HH; rcases h_ with ⟨c_, h_⟩ | ⟨c_, h_⟩ <;> (have HH := Aside0.mk h_; clear h_; first | (replace c_ := (show (_ : Bool) = true from c_); subst c_) | (replace c_ := Bool.eq_false_iff.mpr c_; subst c_) | (replace c_ := bne_eq_false_iff_eq.mp (Bool.eq_false_iff.mpr c_); subst c_) | (replace c_ := (show (_ : Bool) = true from c_); try have := beq_eq_false_iff_ne.mpr (bne_iff_ne.mp c_)) | (replace c_ := Bool.eq_false_iff.mpr c_) | (have := beq_iff_eq.mpr c_; have := bne_eq_false_iff_eq.mpr c_; clear c_) | (have := beq_eq_false_iff_ne.mpr c_; have := bne_iff_ne.mpr c_; clear c_) | (have := decide_eq_true (show _ ≤ _ from c_); clear c_) | (have := decide_eq_true (show _ < _ from c_); clear c_) | (have := decide_eq_false (show ¬ (_ ≤ _) from c_); clear c_) | (have := decide_eq_false (show ¬ (_ < _) from c_); clear c_))) | (with_reducible exact (none_ne HH.out).elim) | (with_reducible exact (ft_ne HH.out).elim) | fail)
  all_goals go_enter Try.func19, Try.ntmps19
  all_goals go_wp2_with (first
        | ((refine gate_some rfl (by rfl) ?_); dsimp only)
        | ((with_reducible apply Fr.box HF rfl rfl rfl); (go_simp; rfl); decide; clear HF; intro g_ w_ HF)
        | ((with_reducible apply Fr.loadOne HF rfl rfl rfl); assumption; rfl; (repeat (first | exact At.head | apply At.tail)); rfl)
        | ((with_reducible apply Fr.loadRow HF rfl rfl rfl); assumption; rfl; (repeat (first | exact At.head | apply At.tail)); (simp only [List.drop_succ_cons, List.drop_zero, List.take_succ_cons, List.take_zero]; rfl); rfl)
        | (go_at_call 15; have h_ := HH.out; (with_reducible replace h_ := Option.bind_eq_some_iff.mp h_); clear HH; obtain ⟨_, A_, h_⟩ := h_; have HH := Aside0.mk h_; clear h_; replace A_ := Aside0.mk A_; (with_reducible apply Calls.mono); (with_reducible apply spec_FourOk.calls (h := A_.out)); (first | exact Kd.C_below HR0_17.out HF.below | exact Kd.C_below HR0_18.out HF.below); (first | exact HC0_17.out | exact HC0_18.out); (first | exact Kd.C_below HR0_17.out HF.below | exact Kd.C_below HR0_18.out HF.below); (first | exact HC0_17.out | exact HC0_18.out); clear A_; rintro e w_ ⟨rfl, hb_⟩; replace HF := HF.call hb_; clear hb_; (repeat' (first | (have h_ := HH.out; (with_reducible replace h_ := ite_ways h_); clear HH; rcases h_ with ⟨c_, h_⟩ | ⟨c_, h_⟩ <;> (have HH := Aside0.mk h_; clear h_; first | (replace c_ := (show (_ : Bool) = true from c_); subst c_) | (replace c_ := Bool.eq_false_iff.mpr c_; subst c_) | (replace c_ := bne_eq_false_iff_eq.mp (Bool.eq_false_iff.mpr c_); subst c_) | (replace c_ := (show (_ : Bool) = true from c_); try have := beq_eq_false_iff_ne.mpr (bne_iff_ne.mp c_)) | (replace c_ := Bool.eq_false_iff.mpr c_) | (have := beq_iff_eq.mpr c_; have := bne_eq_false_iff_eq.mpr c_; clear c_) | (have := beq_eq_false_iff_ne.mpr c_; have := bne_iff_ne.mpr c_; clear c_) | (have := decide_eq_true (show _ ≤ _ from c_); clear c_) | (have := decide_eq_true (show _ < _ from c_); clear c_) | (have := decide_eq_false (show ¬ (_ ≤ _) from c_); clear c_) | (have := decide_eq_false (show ¬ (_ < _) from c_); clear c_))) | (with_reducible exact (none_ne HH.out).elim) | (with_reducible exact (ft_ne HH.out).elim) | fail))))
  all_goals (have h_ := HH.out; clear HH; cases h_ <;> (go_ret; exact ⟨by first | rfl | (simp [errW_none, errW_some] <;> rfl) | (simp [*, errW_none, errW_some] <;> rfl), HF.below⟩))

/-! ### impl_within: function 59 -/
def impl_within.f (a0 : Int) (a1 : Int) (a2 : Int) : Option (Bool) := if a0 ≥ a1 then (some (decide (a0 ≤ a2))) else (some false)
set_option maxHeartbeats 8000000 in
set_option maxRecDepth 100000 in
theorem impl_within.calls (a0 : Int) (a1 : Int) (a2 : Int) (r : Bool) (w : World) (h : impl_within.f a0 a1 a2 = some r) :
    Calls Try.prog 59 #[.int .i64 a0, .int .i64 a1, .int .i64 a2] w fun e w' => e = .returned (.bool r) ∧ Drawn0 w w' := by
  have H : (if a0 ≥ a1 then (some (decide (a0 ≤ a2))) else (some false)) = some r := h
  clear h
  by_cases c4 : a0 ≥ a1
  · rw [if_pos c4] at H
    have c4b0 : decide (a1 ≤ a0) = true := decide_eq_true c4
    clear c4
    obtain rfl := Option.some.inj H
    go_enter Try.func59, Try.ntmps59
    go_wp2
    go_ret
    exact ⟨by first | rfl | (simp; done) | (simp [*]; done), by repeat (first | exact Drawn0.refl _ | apply Drawn0.step)⟩
  · rw [if_neg c4] at H
    have c4b0 : decide (a1 ≤ a0) = false := decide_eq_false c4
    clear c4
    obtain rfl := Option.some.inj H
    go_enter Try.func59, Try.ntmps59
    go_wp2
    go_ret
    exact ⟨by first | rfl | (simp; done) | (simp [*]; done), by repeat (first | exact Drawn0.refl _ | apply Drawn0.step)⟩

/-! ### impl_isWord: function 60 -/
def impl_isWord.f (a0 : Int) : Option (Bool) := (impl_within.f a0 0 65535).bind fun t159 => (some t159)
set_option maxHeartbeats 8000000 in
set_option maxRecDepth 100000 in
theorem impl_isWord.calls (a0 : Int) (r : Bool) (w : World) (h : impl_isWord.f a0 = some r) :
    Calls Try.prog 60 #[.int .i64 a0] w fun e w' => e = .returned (.bool r) ∧ Drawn0 w w' := by
  have H : ((impl_within.f a0 0 65535).bind fun t159 => (some t159)) = some r := h
  clear h
  replace H := Option.bind_eq_some_iff.mp H
  obtain ⟨t159, A20, H⟩ := H
  replace H : (some t159) = some r := H
  have A2 := Aside0.mk A20
  clear A20
  obtain rfl := Option.some.inj H
  go_enter Try.func60, Try.ntmps60
  go_wp2_with (first | ((with_reducible refine gate_callee (f := 59) rfl ?_); refine goesL_ (some 4) rfl rfl Try.func59 (by kernel_rfl) rfl #[.int .i64 a0, .int .i64 0, .int .i64 65535] rfl (by (try simp only [List.map_toArray, List.map_cons, List.map_nil]); first | done | rfl | (simp only [List.length_drop, List.length_take]; rfl)) ?_; (with_reducible refine (impl_within.calls a0 0 65535 t159 _ A2.out).mono ?_); rintro e w' ⟨rfl, ⟨nd, rfl⟩⟩; refine ⟨_, rfl, ?_⟩))
  go_ret
  exact ⟨by first | rfl | (simp; done) | (simp [*]; done), by repeat (first | exact Drawn0.refl _ | apply Drawn0.step)⟩

/-! ### impl_isByte: function 61 -/
def impl_isByte.f (a0 : Int) : Option (Bool) := (impl_within.f a0 0 255).bind fun t160 => (some t160)
set_option maxHeartbeats 8000000 in
set_option maxRecDepth 100000 in
theorem impl_isByte.calls (a0 : Int) (r : Bool) (w : World) (h : impl_isByte.f a0 = some r) :
    Calls Try.prog 61 #[.int .i64 a0] w fun e w' => e = .returned (.bool r) ∧ Drawn0 w w' := by
  have H : ((impl_within.f a0 0 255).bind fun t160 => (some t160)) = some r := h
  clear h
  replace H := Option.bind_eq_some_iff.mp H
  obtain ⟨t160, A20, H⟩ := H
  replace H : (some t160) = some r := H
  have A2 := Aside0.mk A20
  clear A20
  obtain rfl := Option.some.inj H
  go_enter Try.func61, Try.ntmps61
  go_wp2_with (first | ((with_reducible refine gate_callee (f := 59) rfl ?_); refine goesL_ (some 4) rfl rfl Try.func59 (by kernel_rfl) rfl #[.int .i64 a0, .int .i64 0, .int .i64 255] rfl (by (try simp only [List.map_toArray, List.map_cons, List.map_nil]); first | done | rfl | (simp only [List.length_drop, List.length_take]; rfl)) ?_; (with_reducible refine (impl_within.calls a0 0 255 t160 _ A2.out).mono ?_); rintro e w' ⟨rfl, ⟨nd, rfl⟩⟩; refine ⟨_, rfl, ?_⟩))
  go_ret
  exact ⟨by first | rfl | (simp; done) | (simp [*]; done), by repeat (first | exact Drawn0.refl _ | apply Drawn0.step)⟩

/-! ### impl_isLong: function 86 -/
def impl_isLong.f (a0 : Int) : Option (Bool) := (impl_within.f a0 0 4294967295).bind fun t161 => (some t161)
set_option maxHeartbeats 8000000 in
set_option maxRecDepth 100000 in
theorem impl_isLong.calls (a0 : Int) (r : Bool) (w : World) (h : impl_isLong.f a0 = some r) :
    Calls Try.prog 86 #[.int .i64 a0] w fun e w' => e = .returned (.bool r) ∧ Drawn0 w w' := by
  have H : ((impl_within.f a0 0 4294967295).bind fun t161 => (some t161)) = some r := h
  clear h
  replace H := Option.bind_eq_some_iff.mp H
  obtain ⟨t161, A20, H⟩ := H
  replace H : (some t161) = some r := H
  have A2 := Aside0.mk A20
  clear A20
  obtain rfl := Option.some.inj H
  go_enter Try.func86, Try.ntmps86
  go_wp2_with (first | ((with_reducible refine gate_callee (f := 59) rfl ?_); refine goesL_ (some 4) rfl rfl Try.func59 (by kernel_rfl) rfl #[.int .i64 a0, .int .i64 0, .int .i64 4294967295] rfl (by (try simp only [List.map_toArray, List.map_cons, List.map_nil]); first | done | rfl | (simp only [List.length_drop, List.length_take]; rfl)) ?_; (with_reducible refine (impl_within.calls a0 0 4294967295 t161 _ A2.out).mono ?_); rintro e w' ⟨rfl, ⟨nd, rfl⟩⟩; refine ⟨_, rfl, ?_⟩))
  go_ret
  exact ⟨by first | rfl | (simp; done) | (simp [*]; done), by repeat (first | exact Drawn0.refl _ | apply Drawn0.step)⟩

/-! ### impl_AddrOk: function 80 -/
def impl_AddrOk.f (a0_0 : Int) (a0_1 : Int) (a0_2 : Int) (a0_3 : Int) (a0_4 : Int) : Option (Bool) := if a0_0 = 4 then (if a0_1 = 0 then (if a0_2 = 0 then (if a0_3 = 0 then ((impl_isLong.f a0_4).bind fun t163 => (some t163)) else (some false)) else (some false)) else (some false)) else (if a0_0 = 6 then ((impl_isLong.f a0_1).bind fun t164 => (if t164 = true then ((impl_isLong.f a0_2).bind fun t165 => (if t165 = true then ((impl_isLong.f a0_3).bind fun t166 => (if t166 = true then ((impl_isLong.f a0_4).bind fun t167 => (some t167)) else (some false))) else (some false))) else (some false))) else (some false))
set_option maxHeartbeats 8000000 in
set_option maxRecDepth 100000 in
theorem impl_AddrOk.calls (a0_0 : Int) (a0_1 : Int) (a0_2 : Int) (a0_3 : Int) (a0_4 : Int) (r : Bool) (w : World) (h : impl_AddrOk.f a0_0 a0_1 a0_2 a0_3 a0_4 = some r) :
    Calls Try.prog 80 #[.agg #[.int .i64 a0_0, .int .i64 a0_1, .int .i64 a0_2, .int .i64 a0_3, .int .i64 a0_4]] w fun e w' => e = .returned (.bool r) ∧ Below w.heap.size w w' := by
  have hu29 := Try.underlying29
  have O3_ : IsOne Try.prog 3 := ⟨⟨_, Try.underlying3, rfl⟩, by kernel_rfl⟩
  have HF := Fr.start [29] w
  unfold impl_AddrOk.f at h
  have HH := Aside0.mk h
  clear h
  repeat' (first | (have h_ := HH.out; (with_reducible replace h_ := ite_ways h_); clear HH; rcases h_ with ⟨c_, h_⟩ | ⟨c_, h_⟩ <;> (have HH := Aside0.mk h_; clear h_; first | (replace c_ := (show (_ : Bool) = true from c_); subst c_) | (replace c_ := Bool.eq_false_iff.mpr c_; subst c_) | (replace c_ := bne_eq_false_iff_eq.mp (Bool.eq_false_iff.mpr c_); subst c_) | (replace c_ := (show (_ : Bool) = true from c_); try have := beq_eq_false_iff_ne.mpr (bne_iff_ne.mp c_)) | (replace c_ := Bool.eq_false_iff.mpr c_) | (have := beq_iff_eq.mpr c_; have := bne_eq_false_iff_eq.mpr c_; clear c_) | (have := beq_eq_false_iff_ne.mpr c_; have := bne_iff_ne.mpr c_; clear c_) | (have := decide_eq_true (show _ ≤ _ from c_); clear c_) | (have := decide_eq_true (show _ < _ from c_); clear c_) | (have := decide_eq_false (show ¬ (_ ≤ _) from c_); clear c_) | (have := decide_eq_false (show ¬ (_ < _) from c_); clear c_))) | (with_reducible exact (none_ne HH.out).elim) | (with_reducible exact (ft_ne HH.out).elim) | fail)
  all_goals go_enter Try.func80, Try.ntmps80
  all_goals go_wp2_with (first
        | ((refine gate_some rfl (by rfl) ?_); dsimp only)
        | ((with_reducible apply Fr.box HF rfl rfl rfl); (go_simp; rfl); decide; clear HF; intro g_ w_ HF)
        | ((with_reducible apply Fr.loadOne HF rfl rfl rfl); assumption; rfl; (repeat (first | exact At.head | apply At.tail)); rfl)
        | (go_at_call 86; have h_ := HH.out; (with_reducible replace h_ := Option.bind_eq_some_iff.mp h_); clear HH; obtain ⟨_, A_, h_⟩ := h_; have HH := Aside0.mk h_; clear h_; replace A_ := Aside0.mk A_; (with_reducible apply Calls.mono); (with_reducible apply impl_isLong.calls (h := A_.out)); clear A_; rintro e w_ ⟨rfl, hb_⟩; replace HF := HF.drawn hb_; clear hb_; (repeat' (first | (have h_ := HH.out; (with_reducible replace h_ := ite_ways h_); clear HH; rcases h_ with ⟨c_, h_⟩ | ⟨c_, h_⟩ <;> (have HH := Aside0.mk h_; clear h_; first | (replace c_ := (show (_ : Bool) = true from c_); subst c_) | (replace c_ := Bool.eq_false_iff.mpr c_; subst c_) | (replace c_ := bne_eq_false_iff_eq.mp (Bool.eq_false_iff.mpr c_); subst c_) | (replace c_ := (show (_ : Bool) = true from c_); try have := beq_eq_false_iff_ne.mpr (bne_iff_ne.mp c_)) | (replace c_ := Bool.eq_false_iff.mpr c_) | (have := beq_iff_eq.mpr c_; have := bne_eq_false_iff_eq.mpr c_; clear c_) | (have := beq_eq_false_iff_ne.mpr c_; have := bne_iff_ne.mpr c_; clear c_) | (have := decide_eq_true (show _ ≤ _ from c_); clear c_) | (have := decide_eq_true (show _ < _ from c_); clear c_) | (have := decide_eq_false (show ¬ (_ ≤ _) from c_); clear c_) | (have := decide_eq_false (show ¬ (_ < _) from c_); clear c_))) | (with_reducible exact (none_ne HH.out).elim) | (with_reducible exact (ft_ne HH.out).elim) | fail))))
  all_goals (have h_ := HH.out; clear HH; cases h_ <;> (go_ret; exact ⟨by first | rfl | (simp [errW_none, errW_some] <;> rfl) | (simp [*, errW_none, errW_some] <;> rfl), HF.below⟩))

/-! ### impl_isAddrOf: function 62 -/
def impl_isAddrOf.f (a0_0 : Int) (a0_1 : Int) (a0_2 : Int) (a0_3 : Int) (a0_4 : Int) (a1 : Int) : Option (Bool) := (impl_AddrOk.f a0_0 a0_1 a0_2 a0_3 a0_4).bind fun t169 => (if t169 = true then (some (a0_0 == a1)) else (some false))
set_option maxHeartbeats 8000000 in
set_option maxRecDepth 100000 in
theorem impl_isAddrOf.calls (a0_0 : Int) (a0_1 : Int) (a0_2 : Int) (a0_3 : Int) (a0_4 : Int) (a1 : Int) (r : Bool) (w : World) (h : impl_isAddrOf.f a0_0 a0_1 a0_2 a0_3 a0_4 a1 = some r) :
    Calls Try.prog 62 #[.agg #[.int .i64 a0_0, .int .i64 a0_1, .int .i64 a0_2, .int .i64 a0_3, .int .i64 a0_4], .int .i64 a1] w fun e w' => e = .returned (.bool r) ∧ Below w.heap.size w w' := by
  have hu29 := Try.underlying29
  have O3_ : IsOne Try.prog 3 := ⟨⟨_, Try.underlying3, rfl⟩, by kernel_rfl⟩
  have R29_ : IsRow Try.prog 29 5 := ⟨⟨_, Try.underlying29, rfl⟩, by kernel_rfl⟩
  have HF := Fr.start [29] w
  unfold impl_isAddrOf.f at h
  have HH := Aside0.mk h
  clear h
  repeat' (first | (have h_ := HH.out; (with_reducible replace h_ := ite_ways h_); clear HH; rcases h_ with ⟨c_, h_⟩ | ⟨c_, h_⟩ <;> (have HH := Aside0.mk h_; clear h_; first | (replace c_ := (show (_ : Bool) = true from c_); subst c_) | (replace c_ := Bool.eq_false_iff.mpr c_; subst c_) | (replace c_ := bne_eq_false_iff_eq.mp (Bool.eq_false_iff.mpr c_); subst c_) | (replace c_ := (show (_ : Bool) = true from c_); try have := beq_eq_false_iff_ne.mpr (bne_iff_ne.mp c_)) | (replace c_ := Bool.eq_false_iff.mpr c_) | (have := beq_iff_eq.mpr c_; have := bne_eq_false_iff_eq.mpr c_; clear c_) | (have := beq_eq_false_iff_ne.mpr c_; have := bne_iff_ne.mpr c_; clear c_) | (have := decide_eq_true (show _ ≤ _ from c_); clear c_) | (have := decide_eq_true (show _ < _ from c_); clear c_) | (have := decide_eq_false (show ¬ (_ ≤ _) from c_); clear c_) | (have := decide_eq_false (show ¬ (_ < _) from c_); clear c_))) | (with_reducible exact (none_ne HH.out).elim) | (with_reducible exact (ft_ne HH.out).elim) | fail)
  all_goals go_enter Try.func62, Try.ntmps62
  all_goals go_wp2_with (first
        | ((refine gate_some rfl (by rfl) ?_); dsimp only)
        | ((with_reducible apply Fr.box HF rfl rfl rfl); (go_simp; rfl); decide; clear HF; intro g_ w_ HF)
        | ((with_reducible apply Fr.loadOne HF rfl rfl rfl); assumption; rfl; (repeat (first | exact At.head | apply At.tail)); rfl)
        | ((with_reducible apply Fr.loadRow HF rfl rfl rfl); assumption; rfl; (repeat (first | exact At.head | apply At.tail)); (simp only [List.drop_succ_cons, List.drop_zero, List.take_succ_cons, List.take_zero]; rfl); rfl)
        | (go_at_call 80; have h_ := HH.out; (with_reducible replace h_ := Option.bind_eq_some_iff.mp h_); clear HH; obtain ⟨_, A_, h_⟩ := h_; have HH := Aside0.mk h_; clear h_; replace A_ := Aside0.mk A_; (with_reducible apply Calls.mono); (with_reducible apply impl_AddrOk.calls (h := A_.out)); clear A_; rintro e w_ ⟨rfl, hb_⟩; replace HF := HF.call hb_; clear hb_; (repeat' (first | (have h_ := HH.out; (with_reducible replace h_ := ite_ways h_); clear HH; rcases h_ with ⟨c_, h_⟩ | ⟨c_, h_⟩ <;> (have HH := Aside0.mk h_; clear h_; first | (replace c_ := (show (_ : Bool) = true from c_); subst c_) | (replace c_ := Bool.eq_false_iff.mpr c_; subst c_) | (replace c_ := bne_eq_false_iff_eq.mp (Bool.eq_false_iff.mpr c_); subst c_) | (replace c_ := (show (_ : Bool) = true from c_); try have := beq_eq_false_iff_ne.mpr (bne_iff_ne.mp c_)) | (replace c_ := Bool.eq_false_iff.mpr c_) | (have := beq_iff_eq.mpr c_; have := bne_eq_false_iff_eq.mpr c_; clear c_) | (have := beq_eq_false_iff_ne.mpr c_; have := bne_iff_ne.mpr c_; clear c_) | (have := decide_eq_true (show _ ≤ _ from c_); clear c_) | (have := decide_eq_true (show _ < _ from c_); clear c_) | (have := decide_eq_false (show ¬ (_ ≤ _) from c_); clear c_) | (have := decide_eq_false (show ¬ (_ < _) from c_); clear c_))) | (with_reducible exact (none_ne HH.out).elim) | (with_reducible exact (ft_ne HH.out).elim) | fail))))
  all_goals (have h_ := HH.out; clear HH; cases h_ <;> (go_ret; exact ⟨by first | rfl | (simp [errW_none, errW_some] <;> rfl) | (simp [*, errW_none, errW_some] <;> rfl), HF.below⟩))

/-! ### impl_fourHead: function 100 -/
def impl_fourHead.f (a0_0 : Int) (a0_1 : Int) (a0_2 : Int) (a0_3 : Int) (a0_4 : Int) (a0_5 : Int) (a0_6 : Int) (a0_7 : Int) (a0_8 : Int) (a0_9 : Int) (a0_10 : Int) (a0_11 : Int) (a0_12 : Int) (a0_13 : Int) (a0_14 : Int) (a0_15 : Int) (a0_16 : Int) (l0_17 : List Int) (l0_18 : List Int) : Option (Int) := some (wrap64 (20 + (l0_17.length : Int)))
set_option maxHeartbeats 8000000 in
set_option maxRecDepth 100000 in
theorem impl_fourHead.calls (a0_0 : Int) (a0_1 : Int) (a0_2 : Int) (a0_3 : Int) (a0_4 : Int) (a0_5 : Int) (a0_6 : Int) (a0_7 : Int) (a0_8 : Int) (a0_9 : Int) (a0_10 : Int) (a0_11 : Int) (a0_12 : Int) (a0_13 : Int) (a0_14 : Int) (a0_15 : Int) (a0_16 : Int) (A0_17 : Option Addr) (c0_17 : Nat) (l0_17 : List Int) (A0_18 : Option Addr) (c0_18 : Nat) (l0_18 : List Int) (r : Int) (w : World) (hr0_17 : Kd.C (Kd.int .u8) w A0_17 l0_17.length l0_17) (hc0_17 : l0_17.length ≤ c0_17) (hr0_18 : Kd.C (Kd.int .u8) w A0_18 l0_18.length l0_18) (hc0_18 : l0_18.length ≤ c0_18) (h : impl_fourHead.f a0_0 a0_1 a0_2 a0_3 a0_4 a0_5 a0_6 a0_7 a0_8 a0_9 a0_10 a0_11 a0_12 a0_13 a0_14 a0_15 a0_16 l0_17 l0_18 = some r) :
    Calls Try.prog 100 #[.agg #[.int .i64 a0_0, .int .i64 a0_1, .int .i64 a0_2, .int .i64 a0_3, .int .i64 a0_4, .int .i64 a0_5, .int .i64 a0_6, .int .i64 a0_7, .int .i64 a0_8, .int .i64 a0_9, .int .i64 a0_10, .int .i64 a0_11, .int .i64 a0_12, .int .i64 a0_13, .int .i64 a0_14, .int .i64 a0_15, .int .i64 a0_16, .slice A0_17 l0_17.length c0_17, .slice A0_18 l0_18.length c0_18]] w fun e w' => e = .returned (.int .i64 r) ∧ Below w.heap.size w w' := by
  have hu24 := Try.underlying24
  have hu31 := Try.underlying31
  have O24_ : IsOne Try.prog 24 := ⟨⟨_, Try.underlying24, rfl⟩, by kernel_rfl⟩
  have HR0_17 := Aside0.mk hr0_17
  have HC0_17 := Aside0.mk hc0_17
  have HR0_18 := Aside0.mk hr0_18
  have HC0_18 := Aside0.mk hc0_18
  clear hr0_17 hc0_17 hr0_18 hc0_18
  have HF := Fr.start [31] w
  unfold impl_fourHead.f at h
  have HH := Aside0.mk h
  clear h
  repeat' (first | (have h_ := HH.out; (with_reducible replace h_ := ite_ways h_); clear HH; rcases h_ with ⟨c_, h_⟩ | ⟨c_, h_⟩ <;> (have HH := Aside0.mk h_; clear h_; first | (replace c_ := (show (_ : Bool) = true from c_); subst c_) | (replace c_ := Bool.eq_false_iff.mpr c_; subst c_) | (replace c_ := bne_eq_false_iff_eq.mp (Bool.eq_false_iff.mpr c_); subst c_) | (replace c_ := (show (_ : Bool) = true from c_); try have := beq_eq_false_iff_ne.mpr (bne_iff_ne.mp c_)) | (replace c_ := Bool.eq_false_iff.mpr c_) | (have := beq_iff_eq.mpr c_; have := bne_eq_false_iff_eq.mpr c_; clear c_) | (have := beq_eq_false_iff_ne.mpr c_; have := bne_iff_ne.mpr c_; clear c_) | (have := decide_eq_true (show _ ≤ _ from c_); clear c_) | (have := decide_eq_true (show _ < _ from c_); clear c_) | (have := decide_eq_false (show ¬ (_ ≤ _) from c_); clear c_) | (have := decide_eq_false (show ¬ (_ < _) from c_); clear c_))) | (with_reducible exact (none_ne HH.out).elim) | (with_reducible exact (ft_ne HH.out).elim) | fail)
  all_goals go_enter Try.func100, Try.ntmps100
  all_goals go_wp2_with (first
        | ((with_reducible apply Fr.box HF rfl rfl rfl); (go_simp; rfl); decide; clear HF; intro g_ w_ HF)
        | ((with_reducible apply Fr.loadOne HF rfl rfl rfl); assumption; rfl; (repeat (first | exact At.head | apply At.tail)); rfl))
  all_goals (have h_ := HH.out; clear HH; cases h_ <;> (go_ret; exact ⟨by first | rfl | (simp [errW_none, errW_some] <;> rfl) | (simp [*, errW_none, errW_some] <;> rfl), HF.below⟩))

/-! ### impl_fourSize: function 63 -/
def impl_fourSize.f (a0_0 : Int) (a0_1 : Int) (a0_2 : Int) (a0_3 : Int) (a0_4 : Int) (a0_5 : Int) (a0_6 : Int) (a0_7 : Int) (a0_8 : Int) (a0_9 : Int) (a0_10 : Int) (a0_11 : Int) (a0_12 : Int) (a0_13 : Int) (a0_14 : Int) (a0_15 : Int) (a0_16 : Int) (l0_17 : List Int) (l0_18 : List Int) : Option (Int) := (impl_fourHead.f a0_0 a0_1 a0_2 a0_3 a0_4 a0_5 a0_6 a0_7 a0_8 a0_9 a0_10 a0_11 a0_12 a0_13 a0_14 a0_15 a0_16 l0_17 l0_18).bind fun t172 => (some (wrap64 (t172 + (l0_18.length : Int))))
set_option maxHeartbeats 8000000 in
set_option maxRecDepth 100000 in
theorem impl_fourSize.calls (a0_0 : Int) (a0_1 : Int) (a0_2 : Int) (a0_3 : Int) (a0_4 : Int) (a0_5 : Int) (a0_6 : Int) (a0_7 : Int) (a0_8 : Int) (a0_9 : Int) (a0_10 : Int) (a0_11 : Int) (a0_12 : Int) (a0_13 : Int) (a0_14 : Int) (a0_15 : Int) (a0_16 : Int) (A0_17 : Option Addr) (c0_17 : Nat) (l0_17 : List Int) (A0_18 : Option Addr) (c0_18 : Nat) (l0_18 : List Int) (r : Int) (w : World) (hr0_17 : Kd.C (Kd.int .u8) w A0_17 l0_17.length l0_17) (hc0_17 : l0_17.length ≤ c0_17) (hr0_18 : Kd.C (Kd.int .u8) w A0_18 l0_18.length l0_18) (hc0_18 : l0_18.length ≤ c0_18) (h : impl_fourSize.f a0_0 a0_1 a0_2 a0_3 a0_4 a0_5 a0_6 a0_7 a0_8 a0_9 a0_10 a0_11 a0_12 a0_13 a0_14 a0_15 a0_16 l0_17 l0_18 = some r) :
    Calls Try.prog 63 #[.agg #[.int .i64 a0_0, .int .i64 a0_1, .int .i64 a0_2, .int .i64 a0_3, .int .i64 a0_4, .int .i64 a0_5, .int .i64 a0_6, .int .i64 a0_7, .int .i64 a0_8, .int .i64 a0_9, .int .i64 a0_10, .int .i64 a0_11, .int .i64 a0_12, .int .i64 a0_13, .int .i64 a0_14, .int .i64 a0_15, .int .i64 a0_16, .slice A0_17 l0_17.length c0_17, .slice A0_18 l0_18.length c0_18]] w fun e w' => e = .returned (.int .i64 r) ∧ Below w.heap.size w w' := by
  have hu24 := Try.underlying24
  have hu31 := Try.underlying31
  have O24_ : IsOne Try.prog 24 := ⟨⟨_, Try.underlying24, rfl⟩, by kernel_rfl⟩
  have R31_ : IsRow Try.prog 31 19 := ⟨⟨_, Try.underlying31, rfl⟩, by kernel_rfl⟩
  have HR0_17 := Aside0.mk hr0_17
  have HC0_17 := Aside0.mk hc0_17
  have HR0_18 := Aside0.mk hr0_18
  have HC0_18 := Aside0.mk hc0_18
  clear hr0_17 hc0_17 hr0_18 hc0_18
  have HF := Fr.start [31] w
  unfold impl_fourSize.f at h
  have HH := Aside0.mk h
  clear h
  repeat' (first | (have h_ := HH.out; (with_reducible replace h_ := ite_ways h_); clear HH; rcases h_ with ⟨c_, h_⟩ | ⟨c_, h_⟩ <;> (have HH := Aside0.mk h_; clear h_; first | (replace c_ := (show (_ : Bool) = true from c_); subst c_) | (replace c_ := Bool.eq_false_iff.mpr c_; subst c_) | (replace c_ := bne_eq_false_iff_eq.mp (Bool.eq_false_iff.mpr c_); subst c_) | (replace c_ := (show (_ : Bool) = true from c_); try have := beq_eq_false_iff_ne.mpr (bne_iff_ne.mp c_)) | (replace c_ := Bool.eq_false_iff.mpr c_) | (have := beq_iff_eq.mpr c_; have := bne_eq_false_iff_eq.mpr c_; clear c_) | (have := beq_eq_false_iff_ne.mpr c_; have := bne_iff_ne.mpr c_; clear c_) | (have := decide_eq_true (show _ ≤ _ from c_); clear c_) | (have := decide_eq_true (show _ < _ from c_); clear c_) | (have := decide_eq_false (show ¬ (_ ≤ _) from c_); clear c_) | (have := decide_eq_false (show ¬ (_ < _) from c_); clear c_))) | (with_reducible exact (none_ne HH.out).elim) | (with_reducible exact (ft_ne HH.out).elim) | fail)
  all_goals go_enter Try.func63, Try.ntmps63
  iterate 3 (all_goals try (first
      | (((with_reducible refine gate_region (id := 1) ?_); refine HF.region (by kernel_rfl) rfl ?_; clear HF; intro w_ HF) <;>
        (apply HF.rrow 0 rfl rfl rfl rfl (by kernel_rfl) (fun _ _ _ h => h) R31_ rfl; (repeat (first | exact At.head | apply At.tail)); (simp only [List.drop_succ_cons, List.drop_zero, List.take_succ_cons, List.take_zero]; rfl); rfl; (simp only [Act.put, List.setIfInBounds_toArray, List.set_cons_zero, List.set_cons_succ, i64_w, i32_w]; rfl)) <;>
        (apply Fr.rpure 2 rfl rfl rfl (by kernel_rfl) (fun _ _ _ h => h); (intro w_; go_simp; with_reducible rfl); (simp only [Act.put, List.setIfInBounds_toArray, List.set_cons_zero, List.set_cons_succ, i64_w, i32_w]; rfl)) <;>
        (apply HF.rone 3 rfl rfl rfl rfl (by kernel_rfl) (fun _ _ _ h => h) O24_ rfl; (repeat (first | exact At.head | apply At.tail)); rfl; (simp only [Act.put, List.setIfInBounds_toArray, List.set_cons_zero, List.set_cons_succ, i64_w, i32_w]; rfl)) <;>
        (apply Fr.rpure 4 rfl rfl rfl (by kernel_rfl) (fun _ _ _ h => h); (intro w_; go_simp; with_reducible rfl); (simp only [Act.put, List.setIfInBounds_toArray, List.set_cons_zero, List.set_cons_succ, i64_w, i32_w]; rfl)) <;>
        (have h_ := HH.out; (with_reducible replace h_ := Option.bind_eq_some_iff.mp h_); clear HH; obtain ⟨_, A_, h_⟩ := h_; have HH := Aside0.mk h_; clear h_; replace A_ := Aside0.mk A_; apply rcall 1 rfl rfl rfl rfl (by kernel_rfl) (by simp) Try.func100 (by kernel_rfl) rfl; (with_reducible apply Calls.mono); (with_reducible apply impl_fourHead.calls (h := A_.out)); (first | exact Kd.C_below HR0_17.out HF.below | exact Kd.C_below HR0_18.out HF.below); (first | exact HC0_17.out | exact HC0_18.out); (first | exact Kd.C_below HR0_17.out HF.below | exact Kd.C_below HR0_18.out HF.below); (first | exact HC0_17.out | exact HC0_18.out); rintro e w_ ⟨rfl, hb_⟩; refine ⟨_, rfl, HF.call hb_, ?_⟩; clear HF hb_; intro HF; rotate_left; (first | rfl | (simp only [List.map_toArray, List.map_cons, List.map_nil]; first | done | rfl)); clear A_; refine norm_ (a' := ?_) ?_ ?_; rotate_left; (simp only [Act.put, List.setIfInBounds_toArray, List.set_cons_zero, List.set_cons_succ, i64_w, i32_w]; rfl)) <;>
        (repeat' (first | (have h_ := HH.out; (with_reducible replace h_ := ite_ways h_); clear HH; rcases h_ with ⟨c_, h_⟩ | ⟨c_, h_⟩ <;> (have HH := Aside0.mk h_; clear h_; first | (replace c_ := (show (_ : Bool) = true from c_); subst c_) | (replace c_ := Bool.eq_false_iff.mpr c_; subst c_) | (replace c_ := bne_eq_false_iff_eq.mp (Bool.eq_false_iff.mpr c_); subst c_) | (replace c_ := (show (_ : Bool) = true from c_); try have := beq_eq_false_iff_ne.mpr (bne_iff_ne.mp c_)) | (replace c_ := Bool.eq_false_iff.mpr c_) | (have := beq_iff_eq.mpr c_; have := bne_eq_false_iff_eq.mpr c_; clear c_) | (have := beq_eq_false_iff_ne.mpr c_; have := bne_iff_ne.mpr c_; clear c_) | (have := decide_eq_true (show _ ≤ _ from c_); clear c_) | (have := decide_eq_true (show _ < _ from c_); clear c_) | (have := decide_eq_false (show ¬ (_ ≤ _) from c_); clear c_) | (have := decide_eq_false (show ¬ (_ < _) from c_); clear c_))) | (with_reducible exact (none_ne HH.out).elim) | (with_reducible exact (ft_ne HH.out).elim) | fail)) <;>
        (apply Fr.rpure 5 rfl rfl rfl (by kernel_rfl) (fun _ _ _ h => h); (intro w_; go_simp; with_reducible rfl); (simp only [Act.put, List.setIfInBounds_toArray, List.set_cons_zero, List.set_cons_succ, i64_w, i32_w]; rfl)) <;>
        (apply Fr.rpure 6 rfl rfl rfl (by kernel_rfl) (fun _ _ _ h => h); (intro w_; go_simp; with_reducible rfl); (simp only [Act.put, List.setIfInBounds_toArray, List.set_cons_zero, List.set_cons_succ, i64_w, i32_w]; rfl)) <;>
        refine done_ (by kernel_rfl) ?_)
      | go_wp2_with (first
        | ((with_reducible apply Fr.box HF rfl rfl rfl); (go_simp; rfl); decide; clear HF; intro g_ w_ HF))))
  all_goals (have h_ := HH.out; clear HH; cases h_ <;> (go_ret; exact ⟨by first | rfl | (simp [errW_none, errW_some] <;> rfl) | (simp [*, errW_none, errW_some] <;> rfl), HF.below⟩))

end Go.Proofs.Ythkocmpilkoibaa.FFnExactFourPiece
