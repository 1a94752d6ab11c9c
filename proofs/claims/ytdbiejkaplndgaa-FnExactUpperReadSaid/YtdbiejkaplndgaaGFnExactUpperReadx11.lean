-- Functions and their contracts, written by a program of this claim (wip/tools/oprint.py) out of the translation.
import Derived.Shelf.SlicesE.IndexFunc
import Derived.Test.YtdbiejkaplndgaaGFnExactUpperReadx9
import Derived.Test.YtdbiejkaplndgaaGFnExactUpperReadx0
import Derived.Test.YtdbiejkaplndgaaVFnExactUpperRead
namespace Go.Proofs.Ytdbiejkaplndgaa.FFnExactUpperRead
open Go.RowKit Go.Proofs.YtdbiejkaplndgaaW.PrintWords Go.Proofs.YtdbiejkaplndgaaW.PrintLast Go.Proofs.YtdbiejkaplndgaaW.PrintMore Go.Proofs.Ytdbiejkaplndgaa.Frame
attribute [local go_sem] max2_int min2_int max_two min_two max_three min_three max_four min_four   -- for this text's walks alone
set_option linter.unusedVariables false
set_option linter.unusedSimpArgs false

/-! ### impl_within: function 85 -/
def impl_within.f (a0 : Int) (a1 : Int) (a2 : Int) : Option (Bool) := if a0 ≥ a1 then (some (decide (a0 ≤ a2))) else (some false)
set_option maxHeartbeats 8000000 in
set_option maxRecDepth 100000 in
theorem impl_within.calls (a0 : Int) (a1 : Int) (a2 : Int) (r : Bool) (w : World) (h : impl_within.f a0 a1 a2 = some r) :
  Calls Try.prog 85 #[.int .i64 a0, .int .i64 a1, .int .i64 a2] w fun e w' => e = .returned (.bool r) ∧ Drawn0 w w' := by
 have H : (if a0 ≥ a1 then (some (decide (a0 ≤ a2))) else (some false)) = some r := h
 clear h
 by_cases c4 : a0 ≥ a1
 ·rw [if_pos c4] at H
  have c4b0 : decide (a1 ≤ a0) = true := decide_eq_true c4
  clear c4
  obtain rfl := Option.some.inj H
  go_enter Try.func85, Try.ntmps85
  go_wp2
  go_ret
  exact ⟨by first | rfl | (simp; done) | (simp [*]; done), by repeat (first | exact Drawn0.refl _ | apply Drawn0.step)⟩
 ·rw [if_neg c4] at H
  have c4b0 : decide (a1 ≤ a0) = false := decide_eq_false c4
  clear c4
  obtain rfl := Option.some.inj H
  go_enter Try.func85, Try.ntmps85
  go_wp2
  go_ret
  exact ⟨by first | rfl | (simp; done) | (simp [*]; done), by repeat (first | exact Drawn0.refl _ | apply Drawn0.step)⟩

/-! ### impl_isLong: function 108 -/
def impl_isLong.f (a0 : Int) : Option (Bool) := (impl_within.f a0 0 4294967295).bind fun t537 => (some t537)
set_option maxHeartbeats 8000000 in
set_option maxRecDepth 100000 in
theorem impl_isLong.calls (a0 : Int) (r : Bool) (w : World) (h : impl_isLong.f a0 = some r) :
  Calls Try.prog 108 #[.int .i64 a0] w fun e w' => e = .returned (.bool r) ∧ Drawn0 w w' := by
 have H : ((impl_within.f a0 0 4294967295).bind fun t537 => (some t537)) = some r := h
 clear h
 replace H := Option.bind_eq_some_iff.mp H
 obtain ⟨t537, A20, H⟩ := H
 replace H : (some t537) = some r := H
 have A2 := Aside0.mk A20
 clear A20
 obtain rfl := Option.some.inj H
 go_enter Try.func108, Try.ntmps108
 go_wp2_with (first | ((with_reducible refine gate_callee (f := 85) rfl ?_); refine goesL_ (some 4) rfl rfl Try.func85 (by kernel_rfl) rfl #[.int .i64 a0, .int .i64 0, .int .i64 4294967295] rfl (by (try simp only [List.map_toArray, List.map_cons, List.map_nil]); first | done | rfl | (simp only [List.length_drop, List.length_take]; rfl)) ?_; (with_reducible refine (impl_within.calls a0 0 4294967295 t537 _ A2.out).mono ?_); rintro e w' ⟨rfl, ⟨nd, rfl⟩⟩; refine ⟨_, rfl, ?_⟩))
 go_ret
 exact ⟨by first | rfl | (simp; done) | (simp [*]; done), by repeat (first | exact Drawn0.refl _ | apply Drawn0.step)⟩

/-! ### impl_AddrOk: function 90 -/
def impl_AddrOk.f (a0_0 : Int) (a0_1 : Int) (a0_2 : Int) (a0_3 : Int) (a0_4 : Int) : Option (Bool) := if a0_0 = 4 then (if a0_1 = 0 then (if a0_2 = 0 then (if a0_3 = 0 then ((impl_isLong.f a0_4).bind fun t539 => (some t539)) else (some false)) else (some false)) else (some false)) else (if a0_0 = 6 then ((impl_isLong.f a0_1).bind fun t540 => (if t540 = true then ((impl_isLong.f a0_2).bind fun t541 => (if t541 = true then ((impl_isLong.f a0_3).bind fun t542 => (if t542 = true then ((impl_isLong.f a0_4).bind fun t543 => (some t543)) else (some false))) else (some false))) else (some false))) else (some false))
set_option maxHeartbeats 8000000 in
set_option maxRecDepth 100000 in
theorem impl_AddrOk.calls (a0_0 : Int) (a0_1 : Int) (a0_2 : Int) (a0_3 : Int) (a0_4 : Int) (r : Bool) (w : World) (h : impl_AddrOk.f a0_0 a0_1 a0_2 a0_3 a0_4 = some r) :
  Calls Try.prog 90 #[.agg #[.int .i64 a0_0, .int .i64 a0_1, .int .i64 a0_2, .int .i64 a0_3, .int .i64 a0_4]] w fun e w' => e = .returned (.bool r) ∧ Below w.heap.size w w' := by
 have hu24 := Try.underlying24
 have O3_ : IsOne Try.prog 3 := ⟨⟨_, Try.underlying3, rfl⟩, by kernel_rfl⟩
 have HF := Fr.start [24] w
 have HP := Aside0.mk True.intro
 unfold impl_AddrOk.f at h
 have HH := Aside0.mk h
 clear h
 go_enter Try.func90, Try.ntmps90
 repeat' (first | ((with_reducible have h_ := iW HH); clear HH; rcases h_ with ⟨c_, h_⟩ | ⟨c_, h_⟩ <;> (have HH := Aside0.mk h_; clear h_; first | (with_reducible exact (none_ne HH.out).elim) | (replace HP := Aside0.mk (And.intro c_ HP.out); first | (replace c_ := kT c_; subst c_) | (replace c_ := kF c_; subst c_) | (replace c_ := kE c_; subst c_) | (replace c_ := kT c_; try have := kN c_) | (replace c_ := kF c_) | (have := kA c_; have := kB c_; clear c_) | (have := kC c_; have := kD c_; clear c_) | (have := kL c_; clear c_) | (have := kS c_; clear c_) | (have := kM c_; clear c_) | (have := kU c_; clear c_)))) | (with_reducible exact (none_ne HH.out).elim) | (with_reducible exact (ft_ne HH.out).elim) | fail)
 all_goals (repeat' (first
    | (((with_reducible refine gate_region (id := 0) ?_); apply plain_region) <;>
    ((with_reducible apply Fr.lbox HF rfl rfl rfl); (go_simp; rfl); decide; clear HF; intro g_ w_ HF; (refine lnorm (a' := ?_) ?_ ?_; rotate_left; (simp only [nP, nT, nZ, nS, xA, xB, xC, xD, Int.reduceToNat]; rfl))) <;>
    (apply lpure rfl rfl; (go_simp; with_reducible rfl); (simp only [nP, nT, nZ, nS, xA, xB, xC, xD, Int.reduceToNat]; rfl)) <;>
    (apply lend))
    | (((with_reducible refine gate_region (id := 1) ?_); apply plain_region) <;>
    (apply lpure rfl rfl; (go_simp; with_reducible rfl); (simp only [nP, nT, nZ, nS, xA, xB, xC, xD, Int.reduceToNat]; rfl)) <;>
    (apply HF.lone rfl rfl rfl O3_ rfl; (repeat (first | exact At.head | apply At.tail)); rfl; (simp only [nP, nT, nZ, nS, xA, xB, xC, xD, Int.reduceToNat]; rfl)) <;>
    (apply lend))
    | (((with_reducible refine gate_region (id := 2) ?_); apply plain_region) <;>
    (apply lpure rfl rfl; (go_simp; with_reducible rfl); (simp only [nP, nT, nZ, nS, xA, xB, xC, xD, Int.reduceToNat]; rfl)) <;>
    (apply lpure rfl rfl; (go_simp; with_reducible rfl); (simp only [nP, nT, nZ, nS, xA, xB, xC, xD, Int.reduceToNat]; rfl)) <;>
    (apply lend))
    | (((with_reducible refine gate_region (id := 3) ?_); apply plain_region) <;>
    (apply lpure rfl rfl; (go_simp; with_reducible rfl); (simp only [nP, nT, nZ, nS, xA, xB, xC, xD, Int.reduceToNat]; rfl)) <;>
    (apply HF.lone rfl rfl rfl O3_ rfl; (repeat (first | exact At.head | apply At.tail)); rfl; (simp only [nP, nT, nZ, nS, xA, xB, xC, xD, Int.reduceToNat]; rfl)) <;>
    (apply lpure rfl rfl; (go_simp; with_reducible rfl); (simp only [nP, nT, nZ, nS, xA, xB, xC, xD, Int.reduceToNat]; rfl)) <;>
    (apply lpure rfl rfl; (go_simp; with_reducible rfl); (simp only [nP, nT, nZ, nS, xA, xB, xC, xD, Int.reduceToNat]; rfl)) <;>
    (first | ((apply lpure rfl rfl; (go_simp; with_reducible rfl); (simp only [nP, nT, nZ, nS, xA, xB, xC, xD, Int.reduceToNat]; rfl))) | (apply loff rfl rfl; (simp only [nP, nT, nZ, nS, xA, xB, xC, xD, Int.reduceToNat]; rfl))) <;>
    (first | ((apply HF.lone rfl rfl rfl O3_ rfl; (repeat (first | exact At.head | apply At.tail)); rfl; (simp only [nP, nT, nZ, nS, xA, xB, xC, xD, Int.reduceToNat]; rfl))) | (apply loff rfl rfl; (simp only [nP, nT, nZ, nS, xA, xB, xC, xD, Int.reduceToNat]; rfl))) <;>
    (first | ((apply lpure rfl rfl; (go_simp; with_reducible rfl); (simp only [nP, nT, nZ, nS, xA, xB, xC, xD, Int.reduceToNat]; rfl))) | (apply loff rfl rfl; (simp only [nP, nT, nZ, nS, xA, xB, xC, xD, Int.reduceToNat]; rfl))) <;>
    (apply lpure rfl rfl; (go_simp; with_reducible rfl); (simp only [nP, nT, nZ, nS, xA, xB, xC, xD, Int.reduceToNat]; rfl)) <;>
    (apply lpure rfl rfl; (go_simp; with_reducible rfl); (simp only [nP, nT, nZ, nS, xA, xB, xC, xD, Int.reduceToNat]; rfl)) <;>
    (first | ((apply lpure rfl rfl; (go_simp; with_reducible rfl); (simp only [nP, nT, nZ, nS, xA, xB, xC, xD, Int.reduceToNat]; rfl))) | (apply loff rfl rfl; (simp only [nP, nT, nZ, nS, xA, xB, xC, xD, Int.reduceToNat]; rfl))) <;>
    (first | ((apply HF.lone rfl rfl rfl O3_ rfl; (repeat (first | exact At.head | apply At.tail)); rfl; (simp only [nP, nT, nZ, nS, xA, xB, xC, xD, Int.reduceToNat]; rfl))) | (apply loff rfl rfl; (simp only [nP, nT, nZ, nS, xA, xB, xC, xD, Int.reduceToNat]; rfl))) <;>
    (first | ((apply lpure rfl rfl; (go_simp; with_reducible rfl); (simp only [nP, nT, nZ, nS, xA, xB, xC, xD, Int.reduceToNat]; rfl))) | (apply loff rfl rfl; (simp only [nP, nT, nZ, nS, xA, xB, xC, xD, Int.reduceToNat]; rfl))) <;>
    (apply lpure rfl rfl; (go_simp; with_reducible rfl); (simp only [nP, nT, nZ, nS, xA, xB, xC, xD, Int.reduceToNat]; rfl)) <;>
    (apply lpure rfl rfl; (go_simp; with_reducible rfl); (simp only [nP, nT, nZ, nS, xA, xB, xC, xD, Int.reduceToNat]; rfl)) <;>
    (first | ((apply lpure rfl rfl; (go_simp; with_reducible rfl); (simp only [nP, nT, nZ, nS, xA, xB, xC, xD, Int.reduceToNat]; rfl))) | (apply loff rfl rfl; (simp only [nP, nT, nZ, nS, xA, xB, xC, xD, Int.reduceToNat]; rfl))) <;>
    (first | ((apply HF.lone rfl rfl rfl O3_ rfl; (repeat (first | exact At.head | apply At.tail)); rfl; (simp only [nP, nT, nZ, nS, xA, xB, xC, xD, Int.reduceToNat]; rfl))) | (apply loff rfl rfl; (simp only [nP, nT, nZ, nS, xA, xB, xC, xD, Int.reduceToNat]; rfl))) <;>
    (first | (((with_reducible have h_ := bE HH); clear HH; obtain ⟨_, A_, h_⟩ := h_; (try dsimp only at h_); have HH := Aside0.mk h_; clear h_; have A23_ := Aside0.mk A_; clear A_) <;> (repeat' (first | ((with_reducible have h_ := iW HH); clear HH; rcases h_ with ⟨c_, h_⟩ | ⟨c_, h_⟩ <;> (have HH := Aside0.mk h_; clear h_; first | (with_reducible exact (none_ne HH.out).elim) | (replace HP := Aside0.mk (And.intro c_ HP.out); first | (replace c_ := kT c_; subst c_) | (replace c_ := kF c_; subst c_) | (replace c_ := kE c_; subst c_) | (replace c_ := kT c_; try have := kN c_) | (replace c_ := kF c_) | (have := kA c_; have := kB c_; clear c_) | (have := kC c_; have := kD c_; clear c_) | (have := kL c_; clear c_) | (have := kS c_; clear c_) | (have := kM c_; clear c_) | (have := kU c_; clear c_)))) | (with_reducible exact (none_ne HH.out).elim) | (with_reducible exact (ft_ne HH.out).elim) | fail)) <;> (apply lcall rfl rfl rfl Try.func108 (by kernel_rfl) rfl; (with_reducible apply Calls.mono); (with_reducible apply impl_isLong.calls (h := A23_.out)); rintro e w_ ⟨rfl, hb_⟩; refine ⟨_, rfl, ?_⟩; replace HF := HF.drawn hb_; clear hb_; rotate_left; (first | rfl | (simp only [mT, mC, mN]; first | done | rfl)); clear A23_; (refine lnorm (a' := ?_) ?_ ?_; rotate_left; (simp only [nP, nT, nZ, nS, xA, xB, xC, xD, Int.reduceToNat]; rfl)))) | (apply loff rfl rfl; (simp only [nP, nT, nZ, nS, xA, xB, xC, xD, Int.reduceToNat]; rfl))) <;>
    (apply lpure rfl rfl; (go_simp; with_reducible rfl); (simp only [nP, nT, nZ, nS, xA, xB, xC, xD, Int.reduceToNat]; rfl)) <;>
    (apply lpure rfl rfl; (go_simp; with_reducible rfl); (simp only [nP, nT, nZ, nS, xA, xB, xC, xD, Int.reduceToNat]; rfl)) <;>
    (apply lend))
    | (((with_reducible refine gate_region (id := 4) ?_); apply plain_region) <;>
    (apply lpure rfl rfl; (go_simp; with_reducible rfl); (simp only [nP, nT, nZ, nS, xA, xB, xC, xD, Int.reduceToNat]; rfl)) <;>
    (apply lpure rfl rfl; (go_simp; with_reducible rfl); (simp only [nP, nT, nZ, nS, xA, xB, xC, xD, Int.reduceToNat]; rfl)) <;>
    (apply lend))
    | (((with_reducible refine gate_region (id := 5) ?_); apply plain_region) <;>
    (apply lpure rfl rfl; (go_simp; with_reducible rfl); (simp only [nP, nT, nZ, nS, xA, xB, xC, xD, Int.reduceToNat]; rfl)) <;>
    (apply HF.lone rfl rfl rfl O3_ rfl; (repeat (first | exact At.head | apply At.tail)); rfl; (simp only [nP, nT, nZ, nS, xA, xB, xC, xD, Int.reduceToNat]; rfl)) <;>
    ((with_reducible have h_ := bE HH); clear HH; obtain ⟨_, A_, h_⟩ := h_; (try dsimp only at h_); have HH := Aside0.mk h_; clear h_; have A29_ := Aside0.mk A_; clear A_) <;>
    (repeat' (first | ((with_reducible have h_ := iW HH); clear HH; rcases h_ with ⟨c_, h_⟩ | ⟨c_, h_⟩ <;> (have HH := Aside0.mk h_; clear h_; first | (with_reducible exact (none_ne HH.out).elim) | (replace HP := Aside0.mk (And.intro c_ HP.out); first | (replace c_ := kT c_; subst c_) | (replace c_ := kF c_; subst c_) | (replace c_ := kE c_; subst c_) | (replace c_ := kT c_; try have := kN c_) | (replace c_ := kF c_) | (have := kA c_; have := kB c_; clear c_) | (have := kC c_; have := kD c_; clear c_) | (have := kL c_; clear c_) | (have := kS c_; clear c_) | (have := kM c_; clear c_) | (have := kU c_; clear c_)))) | (with_reducible exact (none_ne HH.out).elim) | (with_reducible exact (ft_ne HH.out).elim) | fail)) <;>
    (apply lcall rfl rfl rfl Try.func108 (by kernel_rfl) rfl; (with_reducible apply Calls.mono); (with_reducible apply impl_isLong.calls (h := A29_.out)); rintro e w_ ⟨rfl, hb_⟩; refine ⟨_, rfl, ?_⟩; replace HF := HF.drawn hb_; clear hb_; rotate_left; (first | rfl | (simp only [mT, mC, mN]; first | done | rfl)); clear A29_; (refine lnorm (a' := ?_) ?_ ?_; rotate_left; (simp only [nP, nT, nZ, nS, xA, xB, xC, xD, Int.reduceToNat]; rfl))) <;>
    (apply lpure rfl rfl; (go_simp; with_reducible rfl); (simp only [nP, nT, nZ, nS, xA, xB, xC, xD, Int.reduceToNat]; rfl)) <;>
    (first | ((apply lpure rfl rfl; (go_simp; with_reducible rfl); (simp only [nP, nT, nZ, nS, xA, xB, xC, xD, Int.reduceToNat]; rfl))) | (apply loff rfl rfl; (simp only [nP, nT, nZ, nS, xA, xB, xC, xD, Int.reduceToNat]; rfl))) <;>
    (first | ((apply HF.lone rfl rfl rfl O3_ rfl; (repeat (first | exact At.head | apply At.tail)); rfl; (simp only [nP, nT, nZ, nS, xA, xB, xC, xD, Int.reduceToNat]; rfl))) | (apply loff rfl rfl; (simp only [nP, nT, nZ, nS, xA, xB, xC, xD, Int.reduceToNat]; rfl))) <;>
    (first | (((with_reducible have h_ := bE HH); clear HH; obtain ⟨_, A_, h_⟩ := h_; (try dsimp only at h_); have HH := Aside0.mk h_; clear h_; have A33_ := Aside0.mk A_; clear A_) <;> (repeat' (first | ((with_reducible have h_ := iW HH); clear HH; rcases h_ with ⟨c_, h_⟩ | ⟨c_, h_⟩ <;> (have HH := Aside0.mk h_; clear h_; first | (with_reducible exact (none_ne HH.out).elim) | (replace HP := Aside0.mk (And.intro c_ HP.out); first | (replace c_ := kT c_; subst c_) | (replace c_ := kF c_; subst c_) | (replace c_ := kE c_; subst c_) | (replace c_ := kT c_; try have := kN c_) | (replace c_ := kF c_) | (have := kA c_; have := kB c_; clear c_) | (have := kC c_; have := kD c_; clear c_) | (have := kL c_; clear c_) | (have := kS c_; clear c_) | (have := kM c_; clear c_) | (have := kU c_; clear c_)))) | (with_reducible exact (none_ne HH.out).elim) | (with_reducible exact (ft_ne HH.out).elim) | fail)) <;> (apply lcall rfl rfl rfl Try.func108 (by kernel_rfl) rfl; (with_reducible apply Calls.mono); (with_reducible apply impl_isLong.calls (h := A33_.out)); rintro e w_ ⟨rfl, hb_⟩; refine ⟨_, rfl, ?_⟩; replace HF := HF.drawn hb_; clear hb_; rotate_left; (first | rfl | (simp only [mT, mC, mN]; first | done | rfl)); clear A33_; (refine lnorm (a' := ?_) ?_ ?_; rotate_left; (simp only [nP, nT, nZ, nS, xA, xB, xC, xD, Int.reduceToNat]; rfl)))) | (apply loff rfl rfl; (simp only [nP, nT, nZ, nS, xA, xB, xC, xD, Int.reduceToNat]; rfl))) <;>
    (apply lpure rfl rfl; (go_simp; with_reducible rfl); (simp only [nP, nT, nZ, nS, xA, xB, xC, xD, Int.reduceToNat]; rfl)) <;>
    (apply lpure rfl rfl; (go_simp; with_reducible rfl); (simp only [nP, nT, nZ, nS, xA, xB, xC, xD, Int.reduceToNat]; rfl)) <;>
    (first | ((apply lpure rfl rfl; (go_simp; with_reducible rfl); (simp only [nP, nT, nZ, nS, xA, xB, xC, xD, Int.reduceToNat]; rfl))) | (apply loff rfl rfl; (simp only [nP, nT, nZ, nS, xA, xB, xC, xD, Int.reduceToNat]; rfl))) <;>
    (first | ((apply HF.lone rfl rfl rfl O3_ rfl; (repeat (first | exact At.head | apply At.tail)); rfl; (simp only [nP, nT, nZ, nS, xA, xB, xC, xD, Int.reduceToNat]; rfl))) | (apply loff rfl rfl; (simp only [nP, nT, nZ, nS, xA, xB, xC, xD, Int.reduceToNat]; rfl))) <;>
    (first | (((with_reducible have h_ := bE HH); clear HH; obtain ⟨_, A_, h_⟩ := h_; (try dsimp only at h_); have HH := Aside0.mk h_; clear h_; have A38_ := Aside0.mk A_; clear A_) <;> (repeat' (first | ((with_reducible have h_ := iW HH); clear HH; rcases h_ with ⟨c_, h_⟩ | ⟨c_, h_⟩ <;> (have HH := Aside0.mk h_; clear h_; first | (with_reducible exact (none_ne HH.out).elim) | (replace HP := Aside0.mk (And.intro c_ HP.out); first | (replace c_ := kT c_; subst c_) | (replace c_ := kF c_; subst c_) | (replace c_ := kE c_; subst c_) | (replace c_ := kT c_; try have := kN c_) | (replace c_ := kF c_) | (have := kA c_; have := kB c_; clear c_) | (have := kC c_; have := kD c_; clear c_) | (have := kL c_; clear c_) | (have := kS c_; clear c_) | (have := kM c_; clear c_) | (have := kU c_; clear c_)))) | (with_reducible exact (none_ne HH.out).elim) | (with_reducible exact (ft_ne HH.out).elim) | fail)) <;> (apply lcall rfl rfl rfl Try.func108 (by kernel_rfl) rfl; (with_reducible apply Calls.mono); (with_reducible apply impl_isLong.calls (h := A38_.out)); rintro e w_ ⟨rfl, hb_⟩; refine ⟨_, rfl, ?_⟩; replace HF := HF.drawn hb_; clear hb_; rotate_left; (first | rfl | (simp only [mT, mC, mN]; first | done | rfl)); clear A38_; (refine lnorm (a' := ?_) ?_ ?_; rotate_left; (simp only [nP, nT, nZ, nS, xA, xB, xC, xD, Int.reduceToNat]; rfl)))) | (apply loff rfl rfl; (simp only [nP, nT, nZ, nS, xA, xB, xC, xD, Int.reduceToNat]; rfl))) <;>
    (apply lpure rfl rfl; (go_simp; with_reducible rfl); (simp only [nP, nT, nZ, nS, xA, xB, xC, xD, Int.reduceToNat]; rfl)) <;>
    (apply lpure rfl rfl; (go_simp; with_reducible rfl); (simp only [nP, nT, nZ, nS, xA, xB, xC, xD, Int.reduceToNat]; rfl)) <;>
    (first | ((apply lpure rfl rfl; (go_simp; with_reducible rfl); (simp only [nP, nT, nZ, nS, xA, xB, xC, xD, Int.reduceToNat]; rfl))) | (apply loff rfl rfl; (simp only [nP, nT, nZ, nS, xA, xB, xC, xD, Int.reduceToNat]; rfl))) <;>
    (first | ((apply HF.lone rfl rfl rfl O3_ rfl; (repeat (first | exact At.head | apply At.tail)); rfl; (simp only [nP, nT, nZ, nS, xA, xB, xC, xD, Int.reduceToNat]; rfl))) | (apply loff rfl rfl; (simp only [nP, nT, nZ, nS, xA, xB, xC, xD, Int.reduceToNat]; rfl))) <;>
    (first | (((with_reducible have h_ := bE HH); clear HH; obtain ⟨_, A_, h_⟩ := h_; (try dsimp only at h_); have HH := Aside0.mk h_; clear h_; have A43_ := Aside0.mk A_; clear A_) <;> (repeat' (first | ((with_reducible have h_ := iW HH); clear HH; rcases h_ with ⟨c_, h_⟩ | ⟨c_, h_⟩ <;> (have HH := Aside0.mk h_; clear h_; first | (with_reducible exact (none_ne HH.out).elim) | (replace HP := Aside0.mk (And.intro c_ HP.out); first | (replace c_ := kT c_; subst c_) | (replace c_ := kF c_; subst c_) | (replace c_ := kE c_; subst c_) | (replace c_ := kT c_; try have := kN c_) | (replace c_ := kF c_) | (have := kA c_; have := kB c_; clear c_) | (have := kC c_; have := kD c_; clear c_) | (have := kL c_; clear c_) | (have := kS c_; clear c_) | (have := kM c_; clear c_) | (have := kU c_; clear c_)))) | (with_reducible exact (none_ne HH.out).elim) | (with_reducible exact (ft_ne HH.out).elim) | fail)) <;> (apply lcall rfl rfl rfl Try.func108 (by kernel_rfl) rfl; (with_reducible apply Calls.mono); (with_reducible apply impl_isLong.calls (h := A43_.out)); rintro e w_ ⟨rfl, hb_⟩; refine ⟨_, rfl, ?_⟩; replace HF := HF.drawn hb_; clear hb_; rotate_left; (first | rfl | (simp only [mT, mC, mN]; first | done | rfl)); clear A43_; (refine lnorm (a' := ?_) ?_ ?_; rotate_left; (simp only [nP, nT, nZ, nS, xA, xB, xC, xD, Int.reduceToNat]; rfl)))) | (apply loff rfl rfl; (simp only [nP, nT, nZ, nS, xA, xB, xC, xD, Int.reduceToNat]; rfl))) <;>
    (apply lpure rfl rfl; (go_simp; with_reducible rfl); (simp only [nP, nT, nZ, nS, xA, xB, xC, xD, Int.reduceToNat]; rfl)) <;>
    (apply lpure rfl rfl; (go_simp; with_reducible rfl); (simp only [nP, nT, nZ, nS, xA, xB, xC, xD, Int.reduceToNat]; rfl)) <;>
    (apply lend))
    | (((with_reducible refine gate_region (id := 6) ?_); apply plain_region) <;>
    (apply lpure rfl rfl; (go_simp; with_reducible rfl); (simp only [nP, nT, nZ, nS, xA, xB, xC, xD, Int.reduceToNat]; rfl)) <;>
    (apply lend))
    | go_step | fail))
 all_goals (have h_ := HH.out; clear HH; cases h_ <;> (go_ret; first
   | exact ⟨(by first | rfl | (simp [errW_none, errW_some] <;> rfl) | (simp [*, errW_none, errW_some] <;> rfl)), HF.below⟩))

/-! ### impl_areBoth: function 74 -/
def impl_areBoth.f (a0_0 : Int) (a0_1 : Int) (a0_2 : Int) (a0_3 : Int) (a0_4 : Int) (a1_0 : Int) (a1_1 : Int) (a1_2 : Int) (a1_3 : Int) (a1_4 : Int) : Option (Bool) := (impl_AddrOk.f a0_0 a0_1 a0_2 a0_3 a0_4).bind fun t546 => (if t546 = true then ((impl_AddrOk.f a1_0 a1_1 a1_2 a1_3 a1_4).bind fun t547 => (if t547 = true then (some (a0_0 == a1_0)) else (some false))) else (some false))
set_option maxHeartbeats 8000000 in
set_option maxRecDepth 100000 in
theorem impl_areBoth.calls (a0_0 : Int) (a0_1 : Int) (a0_2 : Int) (a0_3 : Int) (a0_4 : Int) (a1_0 : Int) (a1_1 : Int) (a1_2 : Int) (a1_3 : Int) (a1_4 : Int) (r : Bool) (w : World) (h : impl_areBoth.f a0_0 a0_1 a0_2 a0_3 a0_4 a1_0 a1_1 a1_2 a1_3 a1_4 = some r) :
  Calls Try.prog 74 #[.agg #[.int .i64 a0_0, .int .i64 a0_1, .int .i64 a0_2, .int .i64 a0_3, .int .i64 a0_4], .agg #[.int .i64 a1_0, .int .i64 a1_1, .int .i64 a1_2, .int .i64 a1_3, .int .i64 a1_4]] w fun e w' => e = .returned (.bool r) ∧ Below w.heap.size w w' := by
 have hu24 := Try.underlying24
 have O3_ : IsOne Try.prog 3 := ⟨⟨_, Try.underlying3, rfl⟩, by kernel_rfl⟩
 have R24_ : IsRow Try.prog 24 5 := ⟨⟨_, Try.underlying24, rfl⟩, by kernel_rfl⟩
 have HF := Fr.start [24] w
 have HP := Aside0.mk True.intro
 unfold impl_areBoth.f at h
 have HH := Aside0.mk h
 clear h
 go_enter Try.func74, Try.ntmps74
 repeat' (first | ((with_reducible have h_ := iW HH); clear HH; rcases h_ with ⟨c_, h_⟩ | ⟨c_, h_⟩ <;> (have HH := Aside0.mk h_; clear h_; first | (with_reducible exact (none_ne HH.out).elim) | (replace HP := Aside0.mk (And.intro c_ HP.out); first | (replace c_ := kT c_; subst c_) | (replace c_ := kF c_; subst c_) | (replace c_ := kE c_; subst c_) | (replace c_ := kT c_; try have := kN c_) | (replace c_ := kF c_) | (have := kA c_; have := kB c_; clear c_) | (have := kC c_; have := kD c_; clear c_) | (have := kL c_; clear c_) | (have := kS c_; clear c_) | (have := kM c_; clear c_) | (have := kU c_; clear c_)))) | (with_reducible exact (none_ne HH.out).elim) | (with_reducible exact (ft_ne HH.out).elim) | fail)
 all_goals (repeat' (first
    | (((with_reducible refine gate_region (id := 0) ?_); apply plain_region) <;>
    ((with_reducible apply Fr.lbox HF rfl rfl rfl); (go_simp; rfl); decide; clear HF; intro g_ w_ HF; (refine lnorm (a' := ?_) ?_ ?_; rotate_left; (simp only [nP, nT, nZ, nS, xA, xB, xC, xD, Int.reduceToNat]; rfl))) <;>
    ((with_reducible apply Fr.lbox HF rfl rfl rfl); (go_simp; rfl); decide; clear HF; intro g_ w_ HF; (refine lnorm (a' := ?_) ?_ ?_; rotate_left; (simp only [nP, nT, nZ, nS, xA, xB, xC, xD, Int.reduceToNat]; rfl))) <;>
    (apply lpure rfl rfl; (go_simp; with_reducible rfl); (simp only [nP, nT, nZ, nS, xA, xB, xC, xD, Int.reduceToNat]; rfl)) <;>
    (apply lend))
    | (((with_reducible refine gate_region (id := 1) ?_); apply plain_region) <;>
    (apply HF.lrow rfl rfl rfl R24_ rfl; (repeat (first | exact At.head | apply At.tail)); (simp only [List.drop_succ_cons, List.drop_zero, List.take_succ_cons, List.take_zero]; rfl); rfl; (simp only [nP, nT, nZ, nS, xA, xB, xC, xD, Int.reduceToNat]; rfl)) <;>
    ((with_reducible have h_ := bE HH); clear HH; obtain ⟨_, A_, h_⟩ := h_; (try dsimp only at h_); have HH := Aside0.mk h_; clear h_; have A6_ := Aside0.mk A_; clear A_) <;>
    (repeat' (first | ((with_reducible have h_ := iW HH); clear HH; rcases h_ with ⟨c_, h_⟩ | ⟨c_, h_⟩ <;> (have HH := Aside0.mk h_; clear h_; first | (with_reducible exact (none_ne HH.out).elim) | (replace HP := Aside0.mk (And.intro c_ HP.out); first | (replace c_ := kT c_; subst c_) | (replace c_ := kF c_; subst c_) | (replace c_ := kE c_; subst c_) | (replace c_ := kT c_; try have := kN c_) | (replace c_ := kF c_) | (have := kA c_; have := kB c_; clear c_) | (have := kC c_; have := kD c_; clear c_) | (have := kL c_; clear c_) | (have := kS c_; clear c_) | (have := kM c_; clear c_) | (have := kU c_; clear c_)))) | (with_reducible exact (none_ne HH.out).elim) | (with_reducible exact (ft_ne HH.out).elim) | fail)) <;>
    (apply lcall rfl rfl rfl Try.func90 (by kernel_rfl) rfl; (with_reducible apply Calls.mono); (with_reducible apply impl_AddrOk.calls (h := A6_.out)); rintro e w_ ⟨rfl, hb_⟩; refine ⟨_, rfl, ?_⟩; replace HF := HF.call hb_; clear hb_; rotate_left; (first | rfl | (simp only [mT, mC, mN]; first | done | rfl)); clear A6_; (refine lnorm (a' := ?_) ?_ ?_; rotate_left; (simp only [nP, nT, nZ, nS, xA, xB, xC, xD, Int.reduceToNat]; rfl))) <;>
    (apply lpure rfl rfl; (go_simp; with_reducible rfl); (simp only [nP, nT, nZ, nS, xA, xB, xC, xD, Int.reduceToNat]; rfl)) <;>
    (first | ((apply HF.lrow rfl rfl rfl R24_ rfl; (repeat (first | exact At.head | apply At.tail)); (simp only [List.drop_succ_cons, List.drop_zero, List.take_succ_cons, List.take_zero]; rfl); rfl; (simp only [nP, nT, nZ, nS, xA, xB, xC, xD, Int.reduceToNat]; rfl))) | (apply loff rfl rfl; (simp only [nP, nT, nZ, nS, xA, xB, xC, xD, Int.reduceToNat]; rfl))) <;>
    (first | (((with_reducible have h_ := bE HH); clear HH; obtain ⟨_, A_, h_⟩ := h_; (try dsimp only at h_); have HH := Aside0.mk h_; clear h_; have A9_ := Aside0.mk A_; clear A_) <;> (repeat' (first | ((with_reducible have h_ := iW HH); clear HH; rcases h_ with ⟨c_, h_⟩ | ⟨c_, h_⟩ <;> (have HH := Aside0.mk h_; clear h_; first | (with_reducible exact (none_ne HH.out).elim) | (replace HP := Aside0.mk (And.intro c_ HP.out); first | (replace c_ := kT c_; subst c_) | (replace c_ := kF c_; subst c_) | (replace c_ := kE c_; subst c_) | (replace c_ := kT c_; try have := kN c_) | (replace c_ := kF c_) | (have := kA c_; have := kB c_; clear c_) | (have := kC c_; have := kD c_; clear c_) | (have := kL c_; clear c_) | (have := kS c_; clear c_) | (have := kM c_; clear c_) | (have := kU c_; clear c_)))) | (with_reducible exact (none_ne HH.out).elim) | (with_reducible exact (ft_ne HH.out).elim) | fail)) <;> (apply lcall rfl rfl rfl Try.func90 (by kernel_rfl) rfl; (with_reducible apply Calls.mono); (with_reducible apply impl_AddrOk.calls (h := A9_.out)); rintro e w_ ⟨rfl, hb_⟩; refine ⟨_, rfl, ?_⟩; replace HF := HF.call hb_; clear hb_; rotate_left; (first | rfl | (simp only [mT, mC, mN]; first | done | rfl)); clear A9_; (refine lnorm (a' := ?_) ?_ ?_; rotate_left; (simp only [nP, nT, nZ, nS, xA, xB, xC, xD, Int.reduceToNat]; rfl)))) | (apply loff rfl rfl; (simp only [nP, nT, nZ, nS, xA, xB, xC, xD, Int.reduceToNat]; rfl))) <;>
    (apply lpure rfl rfl; (go_simp; with_reducible rfl); (simp only [nP, nT, nZ, nS, xA, xB, xC, xD, Int.reduceToNat]; rfl)) <;>
    (apply lpure rfl rfl; (go_simp; with_reducible rfl); (simp only [nP, nT, nZ, nS, xA, xB, xC, xD, Int.reduceToNat]; rfl)) <;>
    (first | ((apply lpure rfl rfl; (go_simp; with_reducible rfl); (simp only [nP, nT, nZ, nS, xA, xB, xC, xD, Int.reduceToNat]; rfl))) | (apply loff rfl rfl; (simp only [nP, nT, nZ, nS, xA, xB, xC, xD, Int.reduceToNat]; rfl))) <;>
    (first | ((apply HF.lone rfl rfl rfl O3_ rfl; (repeat (first | exact At.head | apply At.tail)); rfl; (simp only [nP, nT, nZ, nS, xA, xB, xC, xD, Int.reduceToNat]; rfl))) | (apply loff rfl rfl; (simp only [nP, nT, nZ, nS, xA, xB, xC, xD, Int.reduceToNat]; rfl))) <;>
    (first | ((apply lpure rfl rfl; (go_simp; with_reducible rfl); (simp only [nP, nT, nZ, nS, xA, xB, xC, xD, Int.reduceToNat]; rfl))) | (apply loff rfl rfl; (simp only [nP, nT, nZ, nS, xA, xB, xC, xD, Int.reduceToNat]; rfl))) <;>
    (first | ((apply HF.lone rfl rfl rfl O3_ rfl; (repeat (first | exact At.head | apply At.tail)); rfl; (simp only [nP, nT, nZ, nS, xA, xB, xC, xD, Int.reduceToNat]; rfl))) | (apply loff rfl rfl; (simp only [nP, nT, nZ, nS, xA, xB, xC, xD, Int.reduceToNat]; rfl))) <;>
    (first | ((apply lpure rfl rfl; (go_simp; with_reducible rfl); (simp only [nP, nT, nZ, nS, xA, xB, xC, xD, Int.reduceToNat]; rfl))) | (apply loff rfl rfl; (simp only [nP, nT, nZ, nS, xA, xB, xC, xD, Int.reduceToNat]; rfl))) <;>
    (apply lpure rfl rfl; (go_simp; with_reducible rfl); (simp only [nP, nT, nZ, nS, xA, xB, xC, xD, Int.reduceToNat]; rfl)) <;>
    (apply lpure rfl rfl; (go_simp; with_reducible rfl); (simp only [nP, nT, nZ, nS, xA, xB, xC, xD, Int.reduceToNat]; rfl)) <;>
    (apply lend))
    | go_step | fail))
 all_goals (have h_ := HH.out; clear HH; cases h_ <;> (go_ret; first
   | exact ⟨(by first | rfl | (simp [errW_none, errW_some] <;> rfl) | (simp [*, errW_none, errW_some] <;> rfl)), HF.below⟩))

/-! ### impl_isByte: function 75 -/
def impl_isByte.f (a0 : Int) : Option (Bool) := (impl_within.f a0 0 255).bind fun t548 => (some t548)
set_option maxHeartbeats 8000000 in
set_option maxRecDepth 100000 in
theorem impl_isByte.calls (a0 : Int) (r : Bool) (w : World) (h : impl_isByte.f a0 = some r) :
  Calls Try.prog 75 #[.int .i64 a0] w fun e w' => e = .returned (.bool r) ∧ Drawn0 w w' := by
 have H : ((impl_within.f a0 0 255).bind fun t548 => (some t548)) = some r := h
 clear h
 replace H := Option.bind_eq_some_iff.mp H
 obtain ⟨t548, A20, H⟩ := H
 replace H : (some t548) = some r := H
 have A2 := Aside0.mk A20
 clear A20
 obtain rfl := Option.some.inj H
 go_enter Try.func75, Try.ntmps75
 go_wp2_with (first | ((with_reducible refine gate_callee (f := 85) rfl ?_); refine goesL_ (some 4) rfl rfl Try.func85 (by kernel_rfl) rfl #[.int .i64 a0, .int .i64 0, .int .i64 255] rfl (by (try simp only [List.map_toArray, List.map_cons, List.map_nil]); first | done | rfl | (simp only [List.length_drop, List.length_take]; rfl)) ?_; (with_reducible refine (impl_within.calls a0 0 255 t548 _ A2.out).mono ?_); rintro e w' ⟨rfl, ⟨nd, rfl⟩⟩; refine ⟨_, rfl, ?_⟩))
 go_ret
 exact ⟨by first | rfl | (simp; done) | (simp [*]; done), by repeat (first | exact Drawn0.refl _ | apply Drawn0.step)⟩

/-! ### impl_isWord: function 109 -/
def impl_isWord.f (a0 : Int) : Option (Bool) := (impl_within.f a0 0 65535).bind fun t549 => (some t549)
set_option maxHeartbeats 8000000 in
set_option maxRecDepth 100000 in
theorem impl_isWord.calls (a0 : Int) (r : Bool) (w : World) (h : impl_isWord.f a0 = some r) :
  Calls Try.prog 109 #[.int .i64 a0] w fun e w' => e = .returned (.bool r) ∧ Drawn0 w w' := by
 have H : ((impl_within.f a0 0 65535).bind fun t549 => (some t549)) = some r := h
 clear h
 replace H := Option.bind_eq_some_iff.mp H
 obtain ⟨t549, A20, H⟩ := H
 replace H : (some t549) = some r := H
 have A2 := Aside0.mk A20
 clear A20
 obtain rfl := Option.some.inj H
 go_enter Try.func109, Try.ntmps109
 go_wp2_with (first | ((with_reducible refine gate_callee (f := 85) rfl ?_); refine goesL_ (some 4) rfl rfl Try.func85 (by kernel_rfl) rfl #[.int .i64 a0, .int .i64 0, .int .i64 65535] rfl (by (try simp only [List.map_toArray, List.map_cons, List.map_nil]); first | done | rfl | (simp only [List.length_drop, List.length_take]; rfl)) ?_; (with_reducible refine (impl_within.calls a0 0 65535 t549 _ A2.out).mono ?_); rintro e w' ⟨rfl, ⟨nd, rfl⟩⟩; refine ⟨_, rfl, ?_⟩))
 go_ret
 exact ⟨by first | rfl | (simp; done) | (simp [*]; done), by repeat (first | exact Drawn0.refl _ | apply Drawn0.step)⟩

/-! ### impl_areWords: function 113 -/
def impl_areWords.l0 : Nat → List Int → Int → Int → Option (Bool)
 | 0, _, _, _ => none
 | k + 1, x5, x6, x7 => if x7 < x6 then (if 0 ≤ x7 then (if x7 < (x5.length : Int) then ((impl_isWord.f (rd x5 x7)).bind fun t551 => (if t551 = true then (impl_areWords.l0 k x5 x6 (wrap64 (x7 + 1))) else (some false))) else (none)) else (none)) else (some true)
def impl_areWords.f (k : Nat) (l0 : List Int) : Option (Bool) := impl_areWords.l0 k l0 (l0.length : Int) 0
theorem impl_areWords.mono_l : ∀ k, (∀ y0 y1 y2, LeO (impl_areWords.l0 k y0 y1 y2) (impl_areWords.l0 (k + 1) y0 y1 y2))
 | 0 => fun _ _ _ r h => by simp [impl_areWords.l0] at h
 | k + 1 => by
  have ih0 := impl_areWords.mono_l k
  ·intro y0 y1 y2
   unfold impl_areWords.l0
   repeat' first
   | (with_reducible exact ih0 _ _ _)
   | (with_reducible exact LeO.refl _)
   | (with_reducible exact LeO.none _)
   | (with_reducible refine LeO.ite ?_ ?_)
   | (with_reducible refine LeO.bind ?_ (fun _ => ?_))
   | exact ih0 _ _ _
   | exact LeO.none _
   | refine LeO.ite ?_ ?_
   | refine LeO.bind ?_ (fun _ => ?_)
theorem impl_areWords.mono : ∀ a0 k, LeO (impl_areWords.f k a0) (impl_areWords.f (k + 1) a0) := by
 intro a0 k
 have ih0 := impl_areWords.mono_l k
 unfold impl_areWords.f
 repeat' first
   | (with_reducible exact ih0 _ _ _)
   | (with_reducible exact LeO.refl _)
   | (with_reducible exact LeO.none _)
   | (with_reducible refine LeO.ite ?_ ?_)
   | (with_reducible refine LeO.bind ?_ (fun _ => ?_))
   | exact ih0 _ _ _
   | exact LeO.none _
   | refine LeO.ite ?_ ?_
   | refine LeO.bind ?_ (fun _ => ?_)
set_option maxHeartbeats 8000000 in
set_option maxRecDepth 100000 in
theorem impl_areWords.calls (k : Nat) (A0 : Option Addr) (c0 : Nat) (l0 : List Int) (r : Bool) (w : World) (hr0 : Kd.C (Kd.int .i64) w A0 l0.length l0) (hc0 : l0.length ≤ c0) (h : impl_areWords.f k l0 = some r) :
  Calls Try.prog 113 #[.slice A0 l0.length c0] w fun e w' => e = .returned (.bool r) ∧ Drawn0 w w' := by
 have HR0 := Aside0.mk hr0
 have HC0 := Aside0.mk hc0
 clear hr0 hc0
 have H : (impl_areWords.l0 k l0 (l0.length : Int) 0) = some r := h
 clear h
 have H' := Aside0.mk H
 clear H
 go_enter Try.func113, Try.ntmps113
 go_wp2
 go_loopg [7] k (fun kq v7 w' => ∃ (x7_1 : Int), v7 = .int .i64 x7_1 ∧ Aside0 (impl_areWords.l0 kq l0 (l0.length : Int) x7_1 = some r) ∧ Aside0 (kq ≤ k) ∧ Drawn0 w w')
 case atStart => exact ⟨(0), (by first | rfl | (simp; done) | (simp [*]; done)), H', ⟨Nat.le_refl _⟩, by repeat (first | exact Drawn0.refl _ | apply Drawn0.step)⟩
 case round =>
  clear H'
  try clear c1
  obtain ⟨x7_1, rfl, HA, HK1, ⟨m1, rfl⟩⟩ := hrel
  cases gk with
  | zero => exact absurd HA.out (by simp [impl_areWords.l0])
  | succ k1 =>
   have H := HA.out
   clear HA
   simp only [impl_areWords.l0] at H
   by_cases c2 : x7_1 < (l0.length : Int)
   ·rw [if_pos c2] at H
    have c2b0 : decide (x7_1 < (l0.length : Int)) = true := decide_eq_true c2
    clear c2
    by_cases c3 : 0 ≤ x7_1
    ·rw [if_pos c3] at H
     have c3b0 : decide (0 ≤ x7_1) = true := decide_eq_true c3
     clear c3
     by_cases c4 : x7_1 < (l0.length : Int)
     ·rw [if_pos c4] at H
      have c4b0 : decide (x7_1 < (l0.length : Int)) = true := decide_eq_true c4
      clear c4
      replace H := Option.bind_eq_some_iff.mp H
      obtain ⟨t551, A50, H⟩ := H
      replace H : (if t551 = true then (impl_areWords.l0 k1 l0 (l0.length : Int) (wrap64 (x7_1 + 1))) else (some false)) = some r := H
      have A5 := Aside0.mk A50
      clear A50
      by_cases c6 : t551 = true
      ·subst c6
       have H1 : (impl_areWords.l0 k1 l0 (l0.length : Int) (wrap64 (x7_1 + 1))) = some r := by rw [if_pos rfl] at H; exact H
       clear H
       have H := H1
       clear H1
       have H' := Aside0.mk H
       clear H
       have p550 : 0 ≤ (x7_1 : Int) := of_decide_eq_true (by first | (with_reducible assumption) | assumption)
       have q550 : x7_1 < (l0.length : Int) := of_decide_eq_true (by first | (with_reducible assumption) | assumption)
       obtain ⟨ad550, e550, hx550_0⟩ := Kd.at_int HR0.out x7_1 p550 q550
       cases e550
       replace p550 := eq_true p550
       replace q550 := eq_true q550
       go_wp2_with (first | ((with_reducible refine gate_callee (f := 109) rfl ?_); refine goesL_ (some 12) rfl rfl Try.func109 (by kernel_rfl) rfl #[.int .i64 (rd l0 x7_1)] rfl (by (try simp only [List.map_toArray, List.map_cons, List.map_nil]); first | done | rfl | (simp only [List.length_drop, List.length_take]; rfl)) ?_; (with_reducible refine (impl_isWord.calls (rd l0 x7_1) true _ A5.out).mono ?_); rintro e w' ⟨rfl, ⟨nd, rfl⟩⟩; refine ⟨_, rfl, ?_⟩))
       go_roundg k1
       case measure => have := HK1.out; omega
       case rel => exact ⟨(wrap64 (x7_1 + 1)), (by first | rfl | (simp; done) | (simp [*]; done)), H', ⟨by have := HK1.out; omega⟩, by repeat (first | exact Drawn0.refl _ | apply Drawn0.step)⟩
      ·replace c6 := Bool.eq_false_iff.mpr c6
       subst c6
       have H1 : (some false) = some r := by rw [if_neg (show ¬ (false = true) by decide)] at H; exact H
       clear H
       have H := H1
       clear H1
       obtain rfl := Option.some.inj H
       have p550 : 0 ≤ (x7_1 : Int) := of_decide_eq_true (by first | (with_reducible assumption) | assumption)
       have q550 : x7_1 < (l0.length : Int) := of_decide_eq_true (by first | (with_reducible assumption) | assumption)
       obtain ⟨ad550, e550, hx550_0⟩ := Kd.at_int HR0.out x7_1 p550 q550
       cases e550
       replace p550 := eq_true p550
       replace q550 := eq_true q550
       go_wp2_with (first | ((with_reducible refine gate_callee (f := 109) rfl ?_); refine goesL_ (some 12) rfl rfl Try.func109 (by kernel_rfl) rfl #[.int .i64 (rd l0 x7_1)] rfl (by (try simp only [List.map_toArray, List.map_cons, List.map_nil]); first | done | rfl | (simp only [List.length_drop, List.length_take]; rfl)) ?_; (with_reducible refine (impl_isWord.calls (rd l0 x7_1) false _ A5.out).mono ?_); rintro e w' ⟨rfl, ⟨nd, rfl⟩⟩; refine ⟨_, rfl, ?_⟩))
       go_ret
       exact ⟨by first | rfl | (simp; done) | (simp [*]; done), by repeat (first | exact Drawn0.refl _ | apply Drawn0.step)⟩
     ·rw [if_neg c4] at H
      exact absurd H (by simp)
    ·rw [if_neg c3] at H
     exact absurd H (by simp)
   ·rw [if_neg c2] at H
    have c2b0 : decide (x7_1 < (l0.length : Int)) = false := decide_eq_false c2
    clear c2
    obtain rfl := Option.some.inj H
    go_wp2
    go_ret
    exact ⟨by first | rfl | (simp; done) | (simp [*]; done), by repeat (first | exact Drawn0.refl _ | apply Drawn0.step)⟩

-- NOT PRINTED: function 117 (slices_IndexFunc_int_int)

-- NOT PRINTED: function 115 (slices_ContainsFunc_int_int)

/-! ### impl_areZero: function 114 -/
def impl_areZero.ren : Go.Shelf.Ren := ⟨fun | 6 => 117 | 8 => 115 | n => n, fun | 0 => 0 | 3 => 3 | 4 => 4 | 22 => 113 | 23 => 3 | 25 => 67 | n => n, fun n => n⟩
theorem impl_areZero.lays : SlLaysH.n8 Try.prog impl_areZero.ren := {
 mixed := by kernel_rfl
 f6 := ⟨Try.f117.name, by decide, Try.func117.trans (congrArg some (by kernel_rfl))⟩
 f8 := ⟨Try.f115.name, by decide, Try.func115.trans (congrArg some (by kernel_rfl))⟩
 t0 := by kernel_rfl
 a0 := Try.isAgg0
 z0 := Try.sizeOf0
 v0 := Try.zeroValue0
 t3 := Try.underlying3
 a3 := Try.isAgg3
 z3 := Try.sizeOf3
 v3 := Try.zeroValue3
 t4 := Try.underlying4
 a4 := Try.isAgg4
 z4 := Try.sizeOf4
 v4 := Try.zeroValue4
 t22 := Try.underlying113
 a22 := Try.isAgg113
 z22 := Try.sizeOf113
 v22 := Try.zeroValue113
 a23 := Try.isAgg3
 z23 := Try.sizeOf3
 t25 := Try.underlying67
 a25 := Try.isAgg67
 z25 := Try.sizeOf67
 v25 := Try.zeroValue67 }
theorem impl_areZero.lit (w : World) : PredAt Try.prog 116 #[] (Value.int .i64) (fun x => x != 0) w := fun W x hb => by
 show Calls Try.prog 116 #[.int .i64 x] W _
 go_enter Try.func116, Try.ntmps116
 go_wp2
 go_ret
 exact ⟨rfl, 0, rfl⟩
section
variable {P : Program} {ρ : Go.Shelf.Ren}
set_option maxHeartbeats 2000000 in
theorem impl_areZero.index (L : SlLaysH.n6 P ρ) (p : Int → Bool) (g : Nat) (eg : ∀ args w, (callFunc g args).run P w = .ok (.enter g args) w) (ad : Addr) (c : Nat) (zs : List Int) (w : World) (hp : PredAt P g #[] (Value.int .i64) p w) (hbig : zs.length ≤ 140737488355328)
  (hc : ∀ j : Nat, j < zs.length → w.cell? (ad.add j) = some (.int .i64 (zs.getD j 0))) :
  Calls P (ρ.f 6) #[.slice (some ad) zs.length c, .func (.func g) #[] #[]] w fun e w' => ∃ r : Int, e = .returned (.int .i64 r) ∧ decide (0 ≤ r) = zs.any p ∧ ∃ q, w' = w.drewN q := by
 have mixed := L.mixed; have t0 := L.t0; have a0 := L.a0; have z0 := L.z0; have v0 := L.v0; have t3 := L.t3; have a3 := L.a3; have z3 := L.z3; have v3 := L.v3; have t4 := L.t4; have a4 := L.a4; have z4 := L.z4; have v4 := L.v4; have t22 := L.t22; have a22 := L.a22; have z22 := L.z22; have v22 := L.v22; have a23 := L.a23; have z23 := L.z23; have t25 := L.t25; have a25 := L.a25; have z25 := L.z25; have v25 := L.v25
 have hpAt : ∀ (x : Int) (q : Nat), Calls P g #[.int .i64 x] (w.drewN q) fun e w' => e = .returned (.bool (p x)) ∧ ∃ q', w' = (w.drewN q).drewN q' := fun x q => hp _ x (below_drewN' (Below.refl _ w) q)
 clear hp
 obtain ⟨n, hn⟩ : ∃ n, zs.length = n := ⟨_, rfl⟩
 have HN := Aside0.mk hn
 rw [hn] at hc hbig ⊢
 clear hn
 obtain ⟨_, _, FG⟩ := L.f6
 go_enter FG, SlBodyH.n6_ntmps ρ
 go_wp2
 go_loopg [5, 8] n (fun gg _ s8 wr => ∃ kk q : Nat, kk ≤ n ∧ n - kk ≤ gg ∧ s8 = .int .i64 kk ∧ wr = w.drewN q ∧ Aside0 (∀ j, j < kk → p (zs.getD j 0) = false))
 case atStart => exact ⟨0, 0, Nat.zero_le _, by omega, rfl, rfl, ⟨fun j hj => absurd hj (Nat.not_lt_zero _)⟩⟩
 case round =>
  obtain ⟨kk, q, hkk, hg, rfl, rfl, A⟩ := hrel
  by_cases hlt : kk < n
  ·have hltz : (kk : Int) < (n : Int) := by omega
   have hcell : w.cell? (ad.add kk) = some (.int .i64 (zs.getD kk 0)) := hc kk (by omega)
   clear hc
   generalize hy : zs.getD kk 0 = y at hcell
   have B : Aside0 (zs.getD kk 0 = y) := ⟨hy⟩
   clear hy
   have hcall := hpAt y
   cases hq : p y with
   | true =>
    rw [hq] at hcall
    go_wp2_with (go_at_fn g; refine (hcall _).mono ?_; rintro e w' ⟨rfl, q', rfl⟩)
    go_ret
    refine ⟨_, rfl, ?_, _, rfl⟩
    have h1 : zs.any p = true := by
     rw [List.any_eq_true]
     refine ⟨y, ?_, hq⟩
     have h2 := B.out
     rw [List.getD_eq_getElem?_getD, List.getElem?_eq_getElem (by rw [HN.out]; exact hlt)] at h2
     rw [← h2]
     exact List.getElem_mem _
    rw [h1]
    exact decide_eq_true (by omega)
   | false =>
    rw [hq] at hcall
    go_wp2_with (go_at_fn g; refine (hcall _).mono ?_; rintro e w' ⟨rfl, q', rfl⟩)
    go_roundg (n - (kk + 1))
    case measure => omega
    case rel =>
     refine ⟨kk + 1, _, by omega, by omega, by go_num, rfl, ⟨fun j hj => ?_⟩⟩
     by_cases e : j = kk
     ·subst e
      rw [B.out]; exact hq
     ·exact A.out j (by omega)
  ·have hltz : ¬ (kk : Int) < (n : Int) := by omega
   have : kk = n := by omega
   subst this
   go_wp2
   go_ret
   refine ⟨_, rfl, ?_, q, rfl⟩
   have h1 : zs.any p = false := by
    rw [List.any_eq_false]
    intro x hx
    obtain ⟨j, hj, e⟩ := List.getElem_of_mem hx
    have h2 := A.out j (by rw [← HN.out]; exact hj)
    rw [List.getD_eq_getElem?_getD, List.getElem?_eq_getElem hj] at h2
    rw [← e]
    simpa using h2
   rw [h1]
   rfl
theorem impl_areZero.contains (L : SlLaysH.n8 P ρ) (p : Int → Bool) (g : Nat) (eg : ∀ args w, (callFunc g args).run P w = .ok (.enter g args) w) (ad : Addr) (c : Nat) (zs : List Int) (w : World) (hp : PredAt P g #[] (Value.int .i64) p w) (hbig : zs.length ≤ 140737488355328)
  (hc : ∀ j : Nat, j < zs.length → w.cell? (ad.add j) = some (.int .i64 (zs.getD j 0))) :
  Calls P (ρ.f 8) #[.slice (some ad) zs.length c, .func (.func g) #[] #[]] w fun e w' => e = .returned (.bool (zs.any p)) ∧ ∃ q, w' = w.drewN q := by
 have mixed := L.mixed; have t0 := L.t0; have a0 := L.a0; have z0 := L.z0; have v0 := L.v0; have t3 := L.t3; have a3 := L.a3; have z3 := L.z3; have v3 := L.v3; have t4 := L.t4; have a4 := L.a4; have z4 := L.z4; have v4 := L.v4; have t22 := L.t22; have a22 := L.a22; have z22 := L.z22; have v22 := L.v22; have a23 := L.a23; have z23 := L.z23; have t25 := L.t25; have a25 := L.a25; have z25 := L.z25; have v25 := L.v25
 have e6 : ∀ args w, (callFunc (ρ.f 6) args).run P w = .ok (.enter (ρ.f 6) args) w := L.f6.enters rfl
 have hcon := fun w1 h1 h2 => impl_areZero.index { L with } p g eg ad c zs w1 h1 hbig h2
 obtain ⟨_, _, FG⟩ := L.f8
 go_enter FG, SlBodyH.n8_ntmps ρ
 go_wp2_with (go_at_fn (ρ.f 6); refine (hcon _ hp hc).mono ?_; rintro e w' ⟨r, rfl, hr, q, rfl⟩)
 all_goals (go_ret; exact ⟨by rw [← hr]; rfl, q, rfl⟩)
end
def impl_areZero.f (l0 : List Int) : Option Bool := if l0.length ≤ 140737488355328 then some (!l0.any (· != 0)) else none
set_option maxHeartbeats 4000000 in
theorem impl_areZero.calls (A0 : Option Addr) (c0 : Nat) (l0 : List Int) (r : Bool) (w : World) (hr0 : Kd.C (Kd.int .i64) w A0 l0.length l0) (_hc0 : l0.length ≤ c0) (h : impl_areZero.f l0 = some r) :
  Calls Try.prog 114 #[.slice A0 l0.length c0] w fun e w' => e = .returned (.bool r) ∧ Drawn0 w w' := by
 unfold impl_areZero.f at h
 by_cases hl : l0.length ≤ 140737488355328
 ·rw [if_pos hl] at h
  obtain rfl := Option.some.inj h
  clear h
  have eg : ∀ args w, (callFunc 116 args).run Try.prog w = .ok (.enter 116 args) w := enters_of Try.func116 (by kernel_rfl) rfl
  have hcon : Calls Try.prog 115 #[.slice A0 l0.length c0, .func (.func 116) #[] #[]] w fun e w' => e = .returned (.bool (l0.any (· != 0))) ∧ ∃ q, w' = w.drewN q := by
   cases l0 with
   | nil => exact (AnyE.slices_ContainsFunc_empty impl_areZero.lays A0 c0 _ w).mono fun e w' hh => ⟨hh.1, 0, hh.2⟩
   | cons x t =>
    obtain ⟨ad, rfl, hc⟩ := (Kd.reads_of_C (d := 0) hr0).2.2 (by simp)
    exact impl_areZero.contains impl_areZero.lays _ 116 eg ad c0 (x :: t) w (impl_areZero.lit w) hl hc
  clear hr0 _hc0 hl eg
  generalize l0.any (· != 0) = b at hcon ⊢
  go_enter Try.func114, Try.ntmps114
  go_wp2_with (go_at_call 115; refine hcon.mono ?_; rintro e w' ⟨rfl, q, rfl⟩)
  all_goals (go_ret; exact ⟨rfl, ⟨q, rfl⟩⟩)
 ·rw [if_neg hl] at h
  exact absurd h (by simp)


/-! ### impl_UpperOk: function 102 -/
def impl_UpperOk.F1 (a0_0 : Int) (a0_1 : Int) (a0_2 : Int) (a0_3 : Int) (a0_4 : Int) (a0_5 : Int) (a0_6 : Int) (a0_7 : Int) (a0_8 : Int) (a0_9 : Int) (a0_10 : Int) (a0_11 : Bool) (l0_12 : List Int) (l0_13 : List Int) (a1 : Int) : Option Bool := if a1 = 4 then ((impl_UpperSize.f a0_0 a0_1 a0_2 a0_3 a0_4 a0_5 a0_6 a0_7 a0_8 a0_9 a0_10 a0_11 l0_12 l0_13).bind fun t5 => (if t5 < 0 then ((some true)) else ((impl_UpperSize.f a0_0 a0_1 a0_2 a0_3 a0_4 a0_5 a0_6 a0_7 a0_8 a0_9 a0_10 a0_11 l0_12 l0_13).bind fun t6 => (if t6 > 1500 then ((some true)) else ((some false)))))) else (if a1 = 6 then ((impl_UpperSize.f a0_0 a0_1 a0_2 a0_3 a0_4 a0_5 a0_6 a0_7 a0_8 a0_9 a0_10 a0_11 l0_12 l0_13).bind fun t7 => (if t7 < 0 then ((some true)) else ((impl_UpperSize.f a0_0 a0_1 a0_2 a0_3 a0_4 a0_5 a0_6 a0_7 a0_8 a0_9 a0_10 a0_11 l0_12 l0_13).bind fun t8 => (if t8 > 1500 then ((some true)) else ((some false)))))) else ((some true)))
def impl_UpperOk.F4 (k : Nat) (a0_3 : Int) (a0_4 : Int) (a0_5 : Int) (a0_6 : Int) (a0_7 : Int) (l0_12 : List Int) : Option Bool := (impl_areWords.f k ([a0_6, a0_7] : List Int)).bind fun t15 => (if t15 = true then ((impl_isLong.f a0_3).bind fun t16 => (if t16 = true then ((impl_isLong.f a0_4).bind fun t17 => (if t17 = true then ((impl_within.f a0_5 0 4095).bind fun t18 => (if t18 = true then (if (l0_12.length : Int) ≤ 40 then (if ((l0_12.length : Int) % 4) = 0 then ((some true)) else ((some false))) else ((some false))) else ((some false)))) else ((some false)))) else ((some false)))) else ((some false)))
theorem impl_UpperOk.F4.mono : ∀ y0 y1 y2 y3 y4 y5 k, LeO (impl_UpperOk.F4 k y0 y1 y2 y3 y4 y5) (impl_UpperOk.F4 (k + 1) y0 y1 y2 y3 y4 y5) := by
 intro y0 y1 y2 y3 y4 y5 k
 unfold impl_UpperOk.F4
 repeat' first
   | (with_reducible exact impl_areWords.mono _ _)
   | (with_reducible exact LeO.refl _)
   | (with_reducible exact LeO.none _)
   | (with_reducible refine LeO.ite ?_ ?_)
   | (with_reducible refine LeO.bind ?_ (fun _ => ?_))
   | exact impl_areWords.mono _ _
   | exact LeO.none _
   | refine LeO.ite ?_ ?_
   | refine LeO.bind ?_ (fun _ => ?_)
def impl_UpperOk.F5 (a0_8 : Int) (a0_9 : Int) (a0_10 : Int) : Option Bool := (impl_isByte.f a0_8).bind fun t22 => (if t22 = true then ((impl_isByte.f a0_9).bind fun t23 => (if t23 = true then ((impl_isLong.f a0_10).bind fun t24 => ((some t24))) else ((some false)))) else ((some false)))
def impl_UpperOk.f (k : Nat) (a0_0 : Int) (a0_1 : Int) (a0_2 : Int) (a0_3 : Int) (a0_4 : Int) (a0_5 : Int) (a0_6 : Int) (a0_7 : Int) (a0_8 : Int) (a0_9 : Int) (a0_10 : Int) (a0_11 : Bool) (l0_12 : List Int) (l0_13 : List Int) (a1 : Int) : Option (Bool) := (impl_UpperOk.F1 a0_0 a0_1 a0_2 a0_3 a0_4 a0_5 a0_6 a0_7 a0_8 a0_9 a0_10 a0_11 l0_12 l0_13 a1).bind fun b1 => (if b1 = true then ((some false)) else ((impl_areWords.f k ([a0_1, a0_2] : List Int)).bind fun t10 => ((impl_UpperOk.F4 k a0_3 a0_4 a0_5 a0_6 a0_7 l0_12).bind fun b4 => ((impl_UpperOk.F5 a0_8 a0_9 a0_10).bind fun b5 => (if a0_0 = 1 then (if t10 = true then (if b4 = true then ((impl_areZero.f ([a0_8, a0_9, a0_10] : List Int)).bind fun t25 => (if t25 = true then (if a0_11 = true then ((some false)) else ((some true))) else ((some false)))) else ((some false))) else ((some false))) else (if a0_0 = 2 then (if t10 = true then ((impl_areZero.f ([a0_3, a0_4, a0_5, a0_6, a0_7, a0_8, a0_9, a0_10, (l0_12.length : Int)] : List Int)).bind fun t26 => (if t26 = true then (if a0_11 = true then (if a1 = 4 then ((some true)) else ((some false))) else ((some true))) else ((some false)))) else ((some false))) else (if a0_0 = 3 then (if b5 = true then ((impl_areZero.f ([a0_1, a0_2, a0_3, a0_4, a0_5, a0_6, a0_7, (l0_12.length : Int)] : List Int)).bind fun t27 => (if t27 = true then (if a0_11 = true then ((some false)) else ((some true))) else ((some false)))) else ((some false))) else ((impl_areZero.f ([a0_1, a0_2, a0_3, a0_4, a0_5, a0_6, a0_7, a0_8, a0_9, a0_10, (l0_12.length : Int)] : List Int)).bind fun t28 => (if t28 = true then (if a0_11 = true then ((some false)) else ((some true))) else ((some false)))))))))))
theorem impl_UpperOk.mono : ∀ y0 y1 y2 y3 y4 y5 y6 y7 y8 y9 y10 y11 y12 y13 y14 k, LeO (impl_UpperOk.f k y0 y1 y2 y3 y4 y5 y6 y7 y8 y9 y10 y11 y12 y13 y14) (impl_UpperOk.f (k + 1) y0 y1 y2 y3 y4 y5 y6 y7 y8 y9 y10 y11 y12 y13 y14) := by
 intro y0 y1 y2 y3 y4 y5 y6 y7 y8 y9 y10 y11 y12 y13 y14 k
 unfold impl_UpperOk.f
 repeat' first
   | (with_reducible exact impl_UpperOk.F4.mono _ _ _ _ _ _ _)
   | (with_reducible exact impl_areWords.mono _ _)
   | (with_reducible exact LeO.refl _)
   | (with_reducible exact LeO.none _)
   | (with_reducible refine LeO.ite ?_ ?_)
   | (with_reducible refine LeO.bind ?_ (fun _ => ?_))
   | exact impl_UpperOk.F4.mono _ _ _ _ _ _ _
   | exact impl_areWords.mono _ _
   | exact LeO.none _
   | refine LeO.ite ?_ ?_
   | refine LeO.bind ?_ (fun _ => ?_)
set_option maxHeartbeats 8000000 in
set_option maxRecDepth 100000 in
theorem impl_UpperOk.calls (k : Nat) (a0_0 : Int) (a0_1 : Int) (a0_2 : Int) (a0_3 : Int) (a0_4 : Int) (a0_5 : Int) (a0_6 : Int) (a0_7 : Int) (a0_8 : Int) (a0_9 : Int) (a0_10 : Int) (a0_11 : Bool) (A0_12 : Option Addr) (c0_12 : Nat) (l0_12 : List Int) (A0_13 : Option Addr) (c0_13 : Nat) (l0_13 : List Int) (a1 : Int) (r : Bool) (w : World) (hr0_12 : Kd.C (Kd.int .u8) w A0_12 l0_12.length l0_12) (hc0_12 : l0_12.length ≤ c0_12) (hr0_13 : Kd.C (Kd.int .u8) w A0_13 l0_13.length l0_13) (hc0_13 : l0_13.length ≤ c0_13) (h : impl_UpperOk.f k a0_0 a0_1 a0_2 a0_3 a0_4 a0_5 a0_6 a0_7 a0_8 a0_9 a0_10 a0_11 l0_12 l0_13 a1 = some r) :
  Calls Try.prog 102 #[.agg #[.int .i64 a0_0, .int .i64 a0_1, .int .i64 a0_2, .int .i64 a0_3, .int .i64 a0_4, .int .i64 a0_5, .int .i64 a0_6, .int .i64 a0_7, .int .i64 a0_8, .int .i64 a0_9, .int .i64 a0_10, .bool a0_11, .slice A0_12 l0_12.length c0_12, .slice A0_13 l0_13.length c0_13], .int .i64 a1] w fun e w' => e = .returned (.bool r) ∧ Below w.heap.size w w' := by
 have hu22 := Try.underlying22
 have hu54 := Try.underlying54
 have hu113 := Try.underlying113
 have O3_ : IsOne Try.prog 3 := ⟨⟨_, Try.underlying3, rfl⟩, by kernel_rfl⟩
 have O4_ : IsOne Try.prog 4 := ⟨⟨_, Try.underlying4, rfl⟩, by kernel_rfl⟩
 have O22_ : IsOne Try.prog 22 := ⟨⟨_, Try.underlying22, rfl⟩, by kernel_rfl⟩
 have R54_ : IsRow Try.prog 54 14 := ⟨⟨_, Try.underlying54, rfl⟩, by kernel_rfl⟩
 have HR0_12 := Aside0.mk hr0_12
 have HC0_12 := Aside0.mk hc0_12
 have HR0_13 := Aside0.mk hr0_13
 have HC0_13 := Aside0.mk hc0_13
 clear hr0_12 hc0_12 hr0_13 hc0_13
 have HF := Fr.start [54] w
 have HP := Aside0.mk True.intro
 unfold impl_UpperOk.f at h
 have HH := Aside0.mk h
 clear h
 go_enter Try.func102, Try.ntmps102
 repeat' (first | ((with_reducible have h_ := iW HH); clear HH; rcases h_ with ⟨c_, h_⟩ | ⟨c_, h_⟩ <;> (have HH := Aside0.mk h_; clear h_; first | (with_reducible exact (none_ne HH.out).elim) | (replace HP := Aside0.mk (And.intro c_ HP.out); first | (replace c_ := kT c_; subst c_) | (replace c_ := kF c_; subst c_) | (replace c_ := kE c_; subst c_) | (replace c_ := kT c_; try have := kN c_) | (replace c_ := kF c_) | (have := kA c_; have := kB c_; clear c_) | (have := kC c_; have := kD c_; clear c_) | (have := kL c_; clear c_) | (have := kS c_; clear c_) | (have := kM c_; clear c_) | (have := kU c_; clear c_)))) | (with_reducible exact (none_ne HH.out).elim) | (with_reducible exact (ft_ne HH.out).elim) | fail)
 all_goals (repeat' (first
    | ((with_reducible refine gate_region (id := 0) ?_); ((apply plain_region) <;>
    (((with_reducible apply Fr.lbox HF rfl rfl rfl); (go_simp; rfl); decide; clear HF; intro g_ w_ HF); (refine lnorm (a' := ?_) ?_ ?_; rotate_left; (simp only [nP, nT, nZ, nS, xA, xB, xD, List.map_cons, List.map_nil]; rfl))) <;>
    (apply lpure rfl rfl; (go_simp; with_reducible rfl); (simp only [nP, nT, nZ, nS, xA, xB, xD, List.map_cons, List.map_nil]; rfl)) <;>
    (apply lend)))
    | ((with_reducible refine gate_region (id := 1) ?_); (with_reducible have h_ := bE HH); clear HH; obtain ⟨bk_, A_, h_⟩ := h_; have HX := Aside0.mk h_; clear h_; unfold impl_UpperOk.F1 at A_; have HH := Aside0.mk A_; clear A_; refine join_ HF (fun a a' => ∃ v8 v9 v10 v11 v12 v13 v14 v15 v16 v17 v18 v19 v20 v21 v22 : Value, a' = ((((((((((((((((a.put (some 8) v8).put (some 9) v9).put (some 10) v10).put (some 11) v11).put (some 12) v12).put (some 13) v13).put (some 14) v14).put (some 15) v15).put (some 16) v16).put (some 17) v17).put (some 18) v18).put (some 19) v19).put (some 20) v20).put (some 21) v21).put (some 22) v22).put (some 23) (.bool bk_))) ?_ ?_; (focus ((intro Q1_ HQ1_) <;>
    (repeat' (first | ((with_reducible have h_ := iW HH); clear HH; rcases h_ with ⟨c_, h_⟩ | ⟨c_, h_⟩ <;> (have HH := Aside0.mk h_; clear h_; first | (with_reducible exact (none_ne HH.out).elim) | (replace HP := Aside0.mk (And.intro c_ HP.out); first | (replace c_ := kT c_; subst c_) | (replace c_ := kF c_; subst c_) | (replace c_ := kE c_; subst c_) | (replace c_ := kT c_; try have := kN c_) | (replace c_ := kF c_) | (have := kA c_; have := kB c_; clear c_) | (have := kC c_; have := kD c_; clear c_) | (have := kL c_; clear c_) | (have := kS c_; clear c_) | (have := kM c_; clear c_) | (have := kU c_; clear c_)))) | (with_reducible exact (none_ne HH.out).elim) | (with_reducible exact (ft_ne HH.out).elim) | fail)) <;>
    (apply plain_region) <;>
    (apply lpure rfl rfl; (go_simp; with_reducible rfl); (simp only [nP, nT, nZ, nS, xA, xB, xD, List.map_cons, List.map_nil]; rfl)) <;>
    (apply lpure rfl rfl; (go_simp; with_reducible rfl); (simp only [nP, nT, nZ, nS, xA, xB, xD, List.map_cons, List.map_nil]; rfl)) <;>
    (apply lpure rfl rfl; (go_simp; with_reducible rfl); (simp only [nP, nT, nZ, nS, xA, xB, xD, List.map_cons, List.map_nil]; rfl)) <;>
    (first | (apply lpure rfl rfl; (go_simp; with_reducible rfl); (simp only [nP, nT, nZ, nS, xA, xB, xD, List.map_cons, List.map_nil]; rfl)) | (apply loff rfl rfl; (simp only [nP, nT, nZ, nS, xA, xB, xD, List.map_cons, List.map_nil]; rfl))) <;>
    (first | (apply lpure rfl rfl; (go_simp; with_reducible rfl); (simp only [nP, nT, nZ, nS, xA, xB, xD, List.map_cons, List.map_nil]; rfl)) | (apply loff rfl rfl; (simp only [nP, nT, nZ, nS, xA, xB, xD, List.map_cons, List.map_nil]; rfl))) <;>
    (apply lpure rfl rfl; (go_simp; with_reducible rfl); (simp only [nP, nT, nZ, nS, xA, xB, xD, List.map_cons, List.map_nil]; rfl)) <;>
    (apply lpure rfl rfl; (go_simp; with_reducible rfl); (simp only [nP, nT, nZ, nS, xA, xB, xD, List.map_cons, List.map_nil]; rfl)) <;>
    (first | (apply HF.lrow rfl rfl rfl R54_ rfl; (repeat (first | exact At.head | apply At.tail)); (simp only [List.drop_succ_cons, List.drop_zero, List.take_succ_cons, List.take_zero]; rfl); rfl; (simp only [nP, nT, nZ, nS, xA, xB, xD, List.map_cons, List.map_nil]; rfl)) | (apply loff rfl rfl; (simp only [nP, nT, nZ, nS, xA, xB, xD, List.map_cons, List.map_nil]; rfl))) <;>
    (first | ((with_reducible have h_ := bE HH); clear HH; obtain ⟨_, A_, h_⟩ := h_; have HH := Aside0.mk h_; clear h_; replace A_ := Aside0.mk A_; apply lcall rfl rfl rfl Try.func104 (by kernel_rfl) rfl; (with_reducible apply Calls.mono); (with_reducible apply impl_UpperSize.calls (h := A_.out)); (first | exact Kd.C_below HR0_12.out HF.below | exact Kd.C_below HR0_13.out HF.below); (first | exact HC0_12.out | exact HC0_13.out); (first | exact Kd.C_below HR0_12.out HF.below | exact Kd.C_below HR0_13.out HF.below); (first | exact HC0_12.out | exact HC0_13.out); rintro e w_ ⟨rfl, hb_⟩; refine ⟨_, rfl, ?_⟩; replace HF := HF.call hb_; clear hb_; rotate_left; (first | rfl | (simp only [mT, mC, mN]; first | done | rfl)); clear A_; (refine lnorm (a' := ?_) ?_ ?_; rotate_left; (simp only [nP, nT, nZ, nS, xA, xB, xD, List.map_cons, List.map_nil]; rfl))) | (apply loff rfl rfl; (simp only [nP, nT, nZ, nS, xA, xB, xD, List.map_cons, List.map_nil]; rfl))) <;>
    (repeat' (first | ((with_reducible have h_ := iW HH); clear HH; rcases h_ with ⟨c_, h_⟩ | ⟨c_, h_⟩ <;> (have HH := Aside0.mk h_; clear h_; first | (with_reducible exact (none_ne HH.out).elim) | (replace HP := Aside0.mk (And.intro c_ HP.out); first | (replace c_ := kT c_; subst c_) | (replace c_ := kF c_; subst c_) | (replace c_ := kE c_; subst c_) | (replace c_ := kT c_; try have := kN c_) | (replace c_ := kF c_) | (have := kA c_; have := kB c_; clear c_) | (have := kC c_; have := kD c_; clear c_) | (have := kL c_; clear c_) | (have := kS c_; clear c_) | (have := kM c_; clear c_) | (have := kU c_; clear c_)))) | (with_reducible exact (none_ne HH.out).elim) | (with_reducible exact (ft_ne HH.out).elim) | fail)) <;>
    (first | (apply lpure rfl rfl; (go_simp; with_reducible rfl); (simp only [nP, nT, nZ, nS, xA, xB, xD, List.map_cons, List.map_nil]; rfl)) | (apply loff rfl rfl; (simp only [nP, nT, nZ, nS, xA, xB, xD, List.map_cons, List.map_nil]; rfl))) <;>
    (apply lpure rfl rfl; (go_simp; with_reducible rfl); (simp only [nP, nT, nZ, nS, xA, xB, xD, List.map_cons, List.map_nil]; rfl)) <;>
    (apply lpure rfl rfl; (go_simp; with_reducible rfl); (simp only [nP, nT, nZ, nS, xA, xB, xD, List.map_cons, List.map_nil]; rfl)) <;>
    (first | (apply HF.lrow rfl rfl rfl R54_ rfl; (repeat (first | exact At.head | apply At.tail)); (simp only [List.drop_succ_cons, List.drop_zero, List.take_succ_cons, List.take_zero]; rfl); rfl; (simp only [nP, nT, nZ, nS, xA, xB, xD, List.map_cons, List.map_nil]; rfl)) | (apply loff rfl rfl; (simp only [nP, nT, nZ, nS, xA, xB, xD, List.map_cons, List.map_nil]; rfl))) <;>
    (first | ((with_reducible have h_ := bE HH); clear HH; obtain ⟨_, A_, h_⟩ := h_; have HH := Aside0.mk h_; clear h_; replace A_ := Aside0.mk A_; apply lcall rfl rfl rfl Try.func104 (by kernel_rfl) rfl; (with_reducible apply Calls.mono); (with_reducible apply impl_UpperSize.calls (h := A_.out)); (first | exact Kd.C_below HR0_12.out HF.below | exact Kd.C_below HR0_13.out HF.below); (first | exact HC0_12.out | exact HC0_13.out); (first | exact Kd.C_below HR0_12.out HF.below | exact Kd.C_below HR0_13.out HF.below); (first | exact HC0_12.out | exact HC0_13.out); rintro e w_ ⟨rfl, hb_⟩; refine ⟨_, rfl, ?_⟩; replace HF := HF.call hb_; clear hb_; rotate_left; (first | rfl | (simp only [mT, mC, mN]; first | done | rfl)); clear A_; (refine lnorm (a' := ?_) ?_ ?_; rotate_left; (simp only [nP, nT, nZ, nS, xA, xB, xD, List.map_cons, List.map_nil]; rfl))) | (apply loff rfl rfl; (simp only [nP, nT, nZ, nS, xA, xB, xD, List.map_cons, List.map_nil]; rfl))) <;>
    (repeat' (first | ((with_reducible have h_ := iW HH); clear HH; rcases h_ with ⟨c_, h_⟩ | ⟨c_, h_⟩ <;> (have HH := Aside0.mk h_; clear h_; first | (with_reducible exact (none_ne HH.out).elim) | (replace HP := Aside0.mk (And.intro c_ HP.out); first | (replace c_ := kT c_; subst c_) | (replace c_ := kF c_; subst c_) | (replace c_ := kE c_; subst c_) | (replace c_ := kT c_; try have := kN c_) | (replace c_ := kF c_) | (have := kA c_; have := kB c_; clear c_) | (have := kC c_; have := kD c_; clear c_) | (have := kL c_; clear c_) | (have := kS c_; clear c_) | (have := kM c_; clear c_) | (have := kU c_; clear c_)))) | (with_reducible exact (none_ne HH.out).elim) | (with_reducible exact (ft_ne HH.out).elim) | fail)) <;>
    (first | (apply lpure rfl rfl; (go_simp; with_reducible rfl); (simp only [nP, nT, nZ, nS, xA, xB, xD, List.map_cons, List.map_nil]; rfl)) | (apply loff rfl rfl; (simp only [nP, nT, nZ, nS, xA, xB, xD, List.map_cons, List.map_nil]; rfl))) <;>
    (apply lpure rfl rfl; (go_simp; with_reducible rfl); (simp only [nP, nT, nZ, nS, xA, xB, xD, List.map_cons, List.map_nil]; rfl)) <;>
    (apply lend; obtain rfl := Option.some.inj HH.out; refine HQ1_ _ _ ?_ HF; (repeat' apply Exists.intro); (simp only [Act.put, List.setIfInBounds_toArray, List.set_cons_zero, List.set_cons_succ]; rfl)))); (try clear HL_); clear HF HH; rintro a1_ W1_ ⟨⟨_, _, _, _, _, _, _, _, _, _, _, _, _, _, _, rfl⟩, HF⟩; have HH := HX; clear HX; (refine qnorm (a' := ?_) ?_ ?_; rotate_left; (simp only [nP, nT, nZ, nS, xA, xB, xD, List.map_cons, List.map_nil]; rfl)); (repeat' (first | ((with_reducible have h_ := iW HH); clear HH; rcases h_ with ⟨c_, h_⟩ | ⟨c_, h_⟩ <;> (have HH := Aside0.mk h_; clear h_; first | (with_reducible exact (none_ne HH.out).elim) | (replace HP := Aside0.mk (And.intro c_ HP.out); first | (replace c_ := kT c_; subst c_) | (replace c_ := kF c_; subst c_) | (replace c_ := kE c_; subst c_) | (replace c_ := kT c_; try have := kN c_) | (replace c_ := kF c_) | (have := kA c_; have := kB c_; clear c_) | (have := kC c_; have := kD c_; clear c_) | (have := kL c_; clear c_) | (have := kS c_; clear c_) | (have := kM c_; clear c_) | (have := kU c_; clear c_)))) | (with_reducible exact (none_ne HH.out).elim) | (with_reducible exact (ft_ne HH.out).elim) | fail)))
    | ((with_reducible refine gate_region (id := 2) ?_); ((apply plain_region) <;>
    (apply lpure rfl rfl; (go_simp; with_reducible rfl); (simp only [nP, nT, nZ, nS, xA, xB, xD, List.map_cons, List.map_nil]; rfl)) <;>
    (apply lend)))
    | ((with_reducible refine gate_region (id := 3) ?_); ((apply plain_region) <;>
    (apply lpure rfl rfl; (go_simp; with_reducible rfl); (simp only [nP, nT, nZ, nS, xA, xB, xD, List.map_cons, List.map_nil]; rfl)) <;>
    (apply HF.lone rfl rfl rfl O3_ rfl; (repeat (first | exact At.head | apply At.tail)); rfl; (simp only [nP, nT, nZ, nS, xA, xB, xD, List.map_cons, List.map_nil]; rfl)) <;>
    (apply lpure rfl rfl; (go_simp; with_reducible rfl); (simp only [nP, nT, nZ, nS, xA, xB, xD, List.map_cons, List.map_nil]; rfl)) <;>
    (apply HF.lone rfl rfl rfl O3_ rfl; (repeat (first | exact At.head | apply At.tail)); rfl; (simp only [nP, nT, nZ, nS, xA, xB, xD, List.map_cons, List.map_nil]; rfl)) <;>
    (apply HF.lbuild rfl rfl; (go_simp; first | exact ⟨rfl, rfl⟩ | exact ⟨rfl, rfl, rfl⟩ | rfl); clear HF; intro g_ w_ hg_ hb_ hh_ HF; (try simp only [i64_w] at hh_); (try clear HL_); have HL_ := Aside0.mk hh_; clear hg_ hh_ hb_; (refine lnorm (a' := ?_) ?_ ?_; rotate_left; (simp only [nP, nT, nZ, nS, xA, xB, xD, List.map_cons, List.map_nil]; rfl))) <;>
    ((with_reducible have h_ := bE HH); clear HH; obtain ⟨_, A_, h_⟩ := h_; have HH := Aside0.mk h_; clear h_; replace A_ := Aside0.mk A_; apply lcall rfl rfl rfl Try.func113 (by kernel_rfl) rfl; (with_reducible apply Calls.mono); (with_reducible apply impl_areWords.calls (A0 := some ⟨g_, 0, none⟩) (c0 := 2) (h := A_.out)); exact bytesC (k := .i64) (xs := [_, _]) HL_.out (by simp); exact Nat.le_refl _; rintro e w_ ⟨rfl, hb_⟩; refine ⟨_, rfl, ?_⟩; replace HF := HF.drawn hb_; clear hb_; rotate_left; (first | rfl | (simp only [mT, mC, mN]; first | done | rfl)); clear A_; (refine lnorm (a' := ?_) ?_ ?_; rotate_left; (simp only [nP, nT, nZ, nS, xA, xB, xD, List.map_cons, List.map_nil]; rfl))) <;>
    (repeat' (first | ((with_reducible have h_ := iW HH); clear HH; rcases h_ with ⟨c_, h_⟩ | ⟨c_, h_⟩ <;> (have HH := Aside0.mk h_; clear h_; first | (with_reducible exact (none_ne HH.out).elim) | (replace HP := Aside0.mk (And.intro c_ HP.out); first | (replace c_ := kT c_; subst c_) | (replace c_ := kF c_; subst c_) | (replace c_ := kE c_; subst c_) | (replace c_ := kT c_; try have := kN c_) | (replace c_ := kF c_) | (have := kA c_; have := kB c_; clear c_) | (have := kC c_; have := kD c_; clear c_) | (have := kL c_; clear c_) | (have := kS c_; clear c_) | (have := kM c_; clear c_) | (have := kU c_; clear c_)))) | (with_reducible exact (none_ne HH.out).elim) | (with_reducible exact (ft_ne HH.out).elim) | fail)) <;>
    (apply lpure rfl rfl; (go_simp; with_reducible rfl); (simp only [nP, nT, nZ, nS, xA, xB, xD, List.map_cons, List.map_nil]; rfl)) <;>
    (apply lend)))
    | ((with_reducible refine gate_region (id := 4) ?_); (with_reducible have h_ := bE HH); clear HH; obtain ⟨bk_, A_, h_⟩ := h_; have HX := Aside0.mk h_; clear h_; unfold impl_UpperOk.F4 at A_; have HH := Aside0.mk A_; clear A_; refine join_ HF (fun a a' => ∃ v30 v31 v32 v33 v34 v35 v36 v37 v38 v39 v40 v41 v42 v43 v44 v45 v46 v47 v48 v49 v50 v51 v52 v53 v54 v55 v56 v57 v58 v59 v60 v61 v62 v63 : Value, a' = (((((((((((((((((((((((((((((((((((a.put (some 30) v30).put (some 31) v31).put (some 32) v32).put (some 33) v33).put (some 34) v34).put (some 35) v35).put (some 36) v36).put (some 37) v37).put (some 38) v38).put (some 39) v39).put (some 40) v40).put (some 41) v41).put (some 42) v42).put (some 43) v43).put (some 44) v44).put (some 45) v45).put (some 46) v46).put (some 47) v47).put (some 48) v48).put (some 49) v49).put (some 50) v50).put (some 51) v51).put (some 52) v52).put (some 53) v53).put (some 54) v54).put (some 55) v55).put (some 56) v56).put (some 57) v57).put (some 58) v58).put (some 59) v59).put (some 60) v60).put (some 61) v61).put (some 62) v62).put (some 63) v63).put (some 6) (.bool bk_))) ?_ ?_; (focus ((intro Q1_ HQ1_) <;>
    (repeat' (first | ((with_reducible have h_ := iW HH); clear HH; rcases h_ with ⟨c_, h_⟩ | ⟨c_, h_⟩ <;> (have HH := Aside0.mk h_; clear h_; first | (with_reducible exact (none_ne HH.out).elim) | (replace HP := Aside0.mk (And.intro c_ HP.out); first | (replace c_ := kT c_; subst c_) | (replace c_ := kF c_; subst c_) | (replace c_ := kE c_; subst c_) | (replace c_ := kT c_; try have := kN c_) | (replace c_ := kF c_) | (have := kA c_; have := kB c_; clear c_) | (have := kC c_; have := kD c_; clear c_) | (have := kL c_; clear c_) | (have := kS c_; clear c_) | (have := kM c_; clear c_) | (have := kU c_; clear c_)))) | (with_reducible exact (none_ne HH.out).elim) | (with_reducible exact (ft_ne HH.out).elim) | fail)) <;>
    (apply plain_region) <;>
    (apply lpure rfl rfl; (go_simp; with_reducible rfl); (simp only [nP, nT, nZ, nS, xA, xB, xD, List.map_cons, List.map_nil]; rfl)) <;>
    (apply HF.lone rfl rfl rfl O3_ rfl; (repeat (first | exact At.head | apply At.tail)); rfl; (simp only [nP, nT, nZ, nS, xA, xB, xD, List.map_cons, List.map_nil]; rfl)) <;>
    (apply lpure rfl rfl; (go_simp; with_reducible rfl); (simp only [nP, nT, nZ, nS, xA, xB, xD, List.map_cons, List.map_nil]; rfl)) <;>
    (apply HF.lone rfl rfl rfl O3_ rfl; (repeat (first | exact At.head | apply At.tail)); rfl; (simp only [nP, nT, nZ, nS, xA, xB, xD, List.map_cons, List.map_nil]; rfl)) <;>
    (apply HF.lbuild rfl rfl; (go_simp; first | exact ⟨rfl, rfl⟩ | exact ⟨rfl, rfl, rfl⟩ | rfl); clear HF; intro g_ w_ hg_ hb_ hh_ HF; (try simp only [i64_w] at hh_); (try clear HL_); have HL_ := Aside0.mk hh_; clear hg_ hh_ hb_; (refine lnorm (a' := ?_) ?_ ?_; rotate_left; (simp only [nP, nT, nZ, nS, xA, xB, xD, List.map_cons, List.map_nil]; rfl))) <;>
    ((with_reducible have h_ := bE HH); clear HH; obtain ⟨_, A_, h_⟩ := h_; have HH := Aside0.mk h_; clear h_; replace A_ := Aside0.mk A_; apply lcall rfl rfl rfl Try.func113 (by kernel_rfl) rfl; (with_reducible apply Calls.mono); (with_reducible apply impl_areWords.calls (A0 := some ⟨g_, 0, none⟩) (c0 := 2) (h := A_.out)); exact bytesC (k := .i64) (xs := [_, _]) HL_.out (by simp); exact Nat.le_refl _; rintro e w_ ⟨rfl, hb_⟩; refine ⟨_, rfl, ?_⟩; replace HF := HF.drawn hb_; clear hb_; rotate_left; (first | rfl | (simp only [mT, mC, mN]; first | done | rfl)); clear A_; (refine lnorm (a' := ?_) ?_ ?_; rotate_left; (simp only [nP, nT, nZ, nS, xA, xB, xD, List.map_cons, List.map_nil]; rfl))) <;>
    (repeat' (first | ((with_reducible have h_ := iW HH); clear HH; rcases h_ with ⟨c_, h_⟩ | ⟨c_, h_⟩ <;> (have HH := Aside0.mk h_; clear h_; first | (with_reducible exact (none_ne HH.out).elim) | (replace HP := Aside0.mk (And.intro c_ HP.out); first | (replace c_ := kT c_; subst c_) | (replace c_ := kF c_; subst c_) | (replace c_ := kE c_; subst c_) | (replace c_ := kT c_; try have := kN c_) | (replace c_ := kF c_) | (have := kA c_; have := kB c_; clear c_) | (have := kC c_; have := kD c_; clear c_) | (have := kL c_; clear c_) | (have := kS c_; clear c_) | (have := kM c_; clear c_) | (have := kU c_; clear c_)))) | (with_reducible exact (none_ne HH.out).elim) | (with_reducible exact (ft_ne HH.out).elim) | fail)) <;>
    (apply lpure rfl rfl; (go_simp; with_reducible rfl); (simp only [nP, nT, nZ, nS, xA, xB, xD, List.map_cons, List.map_nil]; rfl)) <;>
    (first | (apply lpure rfl rfl; (go_simp; with_reducible rfl); (simp only [nP, nT, nZ, nS, xA, xB, xD, List.map_cons, List.map_nil]; rfl)) | (apply loff rfl rfl; (simp only [nP, nT, nZ, nS, xA, xB, xD, List.map_cons, List.map_nil]; rfl))) <;>
    (first | (apply HF.lone rfl rfl rfl O3_ rfl; (repeat (first | exact At.head | apply At.tail)); rfl; (simp only [nP, nT, nZ, nS, xA, xB, xD, List.map_cons, List.map_nil]; rfl)) | (apply loff rfl rfl; (simp only [nP, nT, nZ, nS, xA, xB, xD, List.map_cons, List.map_nil]; rfl))) <;>
    (first | ((with_reducible have h_ := bE HH); clear HH; obtain ⟨_, A_, h_⟩ := h_; have HH := Aside0.mk h_; clear h_; replace A_ := Aside0.mk A_; apply lcall rfl rfl rfl Try.func108 (by kernel_rfl) rfl; (with_reducible apply Calls.mono); (with_reducible apply impl_isLong.calls (h := A_.out)); rintro e w_ ⟨rfl, hb_⟩; refine ⟨_, rfl, ?_⟩; replace HF := HF.drawn hb_; clear hb_; rotate_left; (first | rfl | (simp only [mT, mC, mN]; first | done | rfl)); clear A_; (refine lnorm (a' := ?_) ?_ ?_; rotate_left; (simp only [nP, nT, nZ, nS, xA, xB, xD, List.map_cons, List.map_nil]; rfl))) | (apply loff rfl rfl; (simp only [nP, nT, nZ, nS, xA, xB, xD, List.map_cons, List.map_nil]; rfl))) <;>
    (repeat' (first | ((with_reducible have h_ := iW HH); clear HH; rcases h_ with ⟨c_, h_⟩ | ⟨c_, h_⟩ <;> (have HH := Aside0.mk h_; clear h_; first | (with_reducible exact (none_ne HH.out).elim) | (replace HP := Aside0.mk (And.intro c_ HP.out); first | (replace c_ := kT c_; subst c_) | (replace c_ := kF c_; subst c_) | (replace c_ := kE c_; subst c_) | (replace c_ := kT c_; try have := kN c_) | (replace c_ := kF c_) | (have := kA c_; have := kB c_; clear c_) | (have := kC c_; have := kD c_; clear c_) | (have := kL c_; clear c_) | (have := kS c_; clear c_) | (have := kM c_; clear c_) | (have := kU c_; clear c_)))) | (with_reducible exact (none_ne HH.out).elim) | (with_reducible exact (ft_ne HH.out).elim) | fail)) <;>
    (apply lpure rfl rfl; (go_simp; with_reducible rfl); (simp only [nP, nT, nZ, nS, xA, xB, xD, List.map_cons, List.map_nil]; rfl)) <;>
    (apply lpure rfl rfl; (go_simp; with_reducible rfl); (simp only [nP, nT, nZ, nS, xA, xB, xD, List.map_cons, List.map_nil]; rfl)) <;>
    (first | (apply lpure rfl rfl; (go_simp; with_reducible rfl); (simp only [nP, nT, nZ, nS, xA, xB, xD, List.map_cons, List.map_nil]; rfl)) | (apply loff rfl rfl; (simp only [nP, nT, nZ, nS, xA, xB, xD, List.map_cons, List.map_nil]; rfl))) <;>
    (first | (apply HF.lone rfl rfl rfl O3_ rfl; (repeat (first | exact At.head | apply At.tail)); rfl; (simp only [nP, nT, nZ, nS, xA, xB, xD, List.map_cons, List.map_nil]; rfl)) | (apply loff rfl rfl; (simp only [nP, nT, nZ, nS, xA, xB, xD, List.map_cons, List.map_nil]; rfl))) <;>
    (first | ((with_reducible have h_ := bE HH); clear HH; obtain ⟨_, A_, h_⟩ := h_; have HH := Aside0.mk h_; clear h_; replace A_ := Aside0.mk A_; apply lcall rfl rfl rfl Try.func108 (by kernel_rfl) rfl; (with_reducible apply Calls.mono); (with_reducible apply impl_isLong.calls (h := A_.out)); rintro e w_ ⟨rfl, hb_⟩; refine ⟨_, rfl, ?_⟩; replace HF := HF.drawn hb_; clear hb_; rotate_left; (first | rfl | (simp only [mT, mC, mN]; first | done | rfl)); clear A_; (refine lnorm (a' := ?_) ?_ ?_; rotate_left; (simp only [nP, nT, nZ, nS, xA, xB, xD, List.map_cons, List.map_nil]; rfl))) | (apply loff rfl rfl; (simp only [nP, nT, nZ, nS, xA, xB, xD, List.map_cons, List.map_nil]; rfl))) <;>
    (repeat' (first | ((with_reducible have h_ := iW HH); clear HH; rcases h_ with ⟨c_, h_⟩ | ⟨c_, h_⟩ <;> (have HH := Aside0.mk h_; clear h_; first | (with_reducible exact (none_ne HH.out).elim) | (replace HP := Aside0.mk (And.intro c_ HP.out); first | (replace c_ := kT c_; subst c_) | (replace c_ := kF c_; subst c_) | (replace c_ := kE c_; subst c_) | (replace c_ := kT c_; try have := kN c_) | (replace c_ := kF c_) | (have := kA c_; have := kB c_; clear c_) | (have := kC c_; have := kD c_; clear c_) | (have := kL c_; clear c_) | (have := kS c_; clear c_) | (have := kM c_; clear c_) | (have := kU c_; clear c_)))) | (with_reducible exact (none_ne HH.out).elim) | (with_reducible exact (ft_ne HH.out).elim) | fail)) <;>
    (apply lpure rfl rfl; (go_simp; with_reducible rfl); (simp only [nP, nT, nZ, nS, xA, xB, xD, List.map_cons, List.map_nil]; rfl)) <;>
    (apply lpure rfl rfl; (go_simp; with_reducible rfl); (simp only [nP, nT, nZ, nS, xA, xB, xD, List.map_cons, List.map_nil]; rfl)) <;>
    (first | (apply lpure rfl rfl; (go_simp; with_reducible rfl); (simp only [nP, nT, nZ, nS, xA, xB, xD, List.map_cons, List.map_nil]; rfl)) | (apply loff rfl rfl; (simp only [nP, nT, nZ, nS, xA, xB, xD, List.map_cons, List.map_nil]; rfl))) <;>
    (first | (apply HF.lone rfl rfl rfl O3_ rfl; (repeat (first | exact At.head | apply At.tail)); rfl; (simp only [nP, nT, nZ, nS, xA, xB, xD, List.map_cons, List.map_nil]; rfl)) | (apply loff rfl rfl; (simp only [nP, nT, nZ, nS, xA, xB, xD, List.map_cons, List.map_nil]; rfl))) <;>
    (first | ((with_reducible have h_ := bE HH); clear HH; obtain ⟨_, A_, h_⟩ := h_; have HH := Aside0.mk h_; clear h_; replace A_ := Aside0.mk A_; apply lcall rfl rfl rfl Try.func85 (by kernel_rfl) rfl; (with_reducible apply Calls.mono); (with_reducible apply impl_within.calls (h := A_.out)); rintro e w_ ⟨rfl, hb_⟩; refine ⟨_, rfl, ?_⟩; replace HF := HF.drawn hb_; clear hb_; rotate_left; (first | rfl | (simp only [mT, mC, mN]; first | done | rfl)); clear A_; (refine lnorm (a' := ?_) ?_ ?_; rotate_left; (simp only [nP, nT, nZ, nS, xA, xB, xD, List.map_cons, List.map_nil]; rfl))) | (apply loff rfl rfl; (simp only [nP, nT, nZ, nS, xA, xB, xD, List.map_cons, List.map_nil]; rfl))) <;>
    (repeat' (first | ((with_reducible have h_ := iW HH); clear HH; rcases h_ with ⟨c_, h_⟩ | ⟨c_, h_⟩ <;> (have HH := Aside0.mk h_; clear h_; first | (with_reducible exact (none_ne HH.out).elim) | (replace HP := Aside0.mk (And.intro c_ HP.out); first | (replace c_ := kT c_; subst c_) | (replace c_ := kF c_; subst c_) | (replace c_ := kE c_; subst c_) | (replace c_ := kT c_; try have := kN c_) | (replace c_ := kF c_) | (have := kA c_; have := kB c_; clear c_) | (have := kC c_; have := kD c_; clear c_) | (have := kL c_; clear c_) | (have := kS c_; clear c_) | (have := kM c_; clear c_) | (have := kU c_; clear c_)))) | (with_reducible exact (none_ne HH.out).elim) | (with_reducible exact (ft_ne HH.out).elim) | fail)) <;>
    (apply lpure rfl rfl; (go_simp; with_reducible rfl); (simp only [nP, nT, nZ, nS, xA, xB, xD, List.map_cons, List.map_nil]; rfl)) <;>
    (apply lpure rfl rfl; (go_simp; with_reducible rfl); (simp only [nP, nT, nZ, nS, xA, xB, xD, List.map_cons, List.map_nil]; rfl)) <;>
    (first | (apply lpure rfl rfl; (go_simp; with_reducible rfl); (simp only [nP, nT, nZ, nS, xA, xB, xD, List.map_cons, List.map_nil]; rfl)) | (apply loff rfl rfl; (simp only [nP, nT, nZ, nS, xA, xB, xD, List.map_cons, List.map_nil]; rfl))) <;>
    (first | (apply HF.lone rfl rfl rfl O22_ rfl; (repeat (first | exact At.head | apply At.tail)); rfl; (simp only [nP, nT, nZ, nS, xA, xB, xD, List.map_cons, List.map_nil]; rfl)) | (apply loff rfl rfl; (simp only [nP, nT, nZ, nS, xA, xB, xD, List.map_cons, List.map_nil]; rfl))) <;>
    (first | (apply lpure rfl rfl; (go_simp; with_reducible rfl); (simp only [nP, nT, nZ, nS, xA, xB, xD, List.map_cons, List.map_nil]; rfl)) | (apply loff rfl rfl; (simp only [nP, nT, nZ, nS, xA, xB, xD, List.map_cons, List.map_nil]; rfl))) <;>
    (first | (apply lpure rfl rfl; (go_simp; with_reducible rfl); (simp only [nP, nT, nZ, nS, xA, xB, xD, List.map_cons, List.map_nil]; rfl)) | (apply loff rfl rfl; (simp only [nP, nT, nZ, nS, xA, xB, xD, List.map_cons, List.map_nil]; rfl))) <;>
    (apply lpure rfl rfl; (go_simp; with_reducible rfl); (simp only [nP, nT, nZ, nS, xA, xB, xD, List.map_cons, List.map_nil]; rfl)) <;>
    (apply lpure rfl rfl; (go_simp; with_reducible rfl); (simp only [nP, nT, nZ, nS, xA, xB, xD, List.map_cons, List.map_nil]; rfl)) <;>
    (first | (apply lpure rfl rfl; (go_simp; with_reducible rfl); (simp only [nP, nT, nZ, nS, xA, xB, xD, List.map_cons, List.map_nil]; rfl)) | (apply loff rfl rfl; (simp only [nP, nT, nZ, nS, xA, xB, xD, List.map_cons, List.map_nil]; rfl))) <;>
    (first | (apply HF.lone rfl rfl rfl O22_ rfl; (repeat (first | exact At.head | apply At.tail)); rfl; (simp only [nP, nT, nZ, nS, xA, xB, xD, List.map_cons, List.map_nil]; rfl)) | (apply loff rfl rfl; (simp only [nP, nT, nZ, nS, xA, xB, xD, List.map_cons, List.map_nil]; rfl))) <;>
    (first | (apply lpure rfl rfl; (go_simp; with_reducible rfl); (simp only [nP, nT, nZ, nS, xA, xB, xD, List.map_cons, List.map_nil]; rfl)) | (apply loff rfl rfl; (simp only [nP, nT, nZ, nS, xA, xB, xD, List.map_cons, List.map_nil]; rfl))) <;>
    (first | (apply lpure rfl rfl; (go_simp; with_reducible rfl); (simp only [nP, nT, nZ, nS, xA, xB, xD, List.map_cons, List.map_nil]; rfl)) | (apply loff rfl rfl; (simp only [nP, nT, nZ, nS, xA, xB, xD, List.map_cons, List.map_nil]; rfl))) <;>
    (first | (apply lpure rfl rfl; (go_simp; with_reducible rfl); (simp only [nP, nT, nZ, nS, xA, xB, xD, List.map_cons, List.map_nil]; rfl)) | (apply loff rfl rfl; (simp only [nP, nT, nZ, nS, xA, xB, xD, List.map_cons, List.map_nil]; rfl))) <;>
    (apply lpure rfl rfl; (go_simp; with_reducible rfl); (simp only [nP, nT, nZ, nS, xA, xB, xD, List.map_cons, List.map_nil]; rfl)) <;>
    (apply lpure rfl rfl; (go_simp; with_reducible rfl); (simp only [nP, nT, nZ, nS, xA, xB, xD, List.map_cons, List.map_nil]; rfl)) <;>
    (apply lend; obtain rfl := Option.some.inj HH.out; refine HQ1_ _ _ ?_ HF; (repeat' apply Exists.intro); (simp only [Act.put, List.setIfInBounds_toArray, List.set_cons_zero, List.set_cons_succ]; rfl)))); (try clear HL_); clear HF HH; rintro a1_ W1_ ⟨⟨_, _, _, _, _, _, _, _, _, _, _, _, _, _, _, _, _, _, _, _, _, _, _, _, _, _, _, _, _, _, _, _, _, _, rfl⟩, HF⟩; have HH := HX; clear HX; (refine qnorm (a' := ?_) ?_ ?_; rotate_left; (simp only [nP, nT, nZ, nS, xA, xB, xD, List.map_cons, List.map_nil]; rfl)); (repeat' (first | ((with_reducible have h_ := iW HH); clear HH; rcases h_ with ⟨c_, h_⟩ | ⟨c_, h_⟩ <;> (have HH := Aside0.mk h_; clear h_; first | (with_reducible exact (none_ne HH.out).elim) | (replace HP := Aside0.mk (And.intro c_ HP.out); first | (replace c_ := kT c_; subst c_) | (replace c_ := kF c_; subst c_) | (replace c_ := kE c_; subst c_) | (replace c_ := kT c_; try have := kN c_) | (replace c_ := kF c_) | (have := kA c_; have := kB c_; clear c_) | (have := kC c_; have := kD c_; clear c_) | (have := kL c_; clear c_) | (have := kS c_; clear c_) | (have := kM c_; clear c_) | (have := kU c_; clear c_)))) | (with_reducible exact (none_ne HH.out).elim) | (with_reducible exact (ft_ne HH.out).elim) | fail)))
    | ((with_reducible refine gate_region (id := 5) ?_); (with_reducible have h_ := bE HH); clear HH; obtain ⟨bk_, A_, h_⟩ := h_; have HX := Aside0.mk h_; clear h_; unfold impl_UpperOk.F5 at A_; have HH := Aside0.mk A_; clear A_; refine join_ HF (fun a a' => ∃ v64 v65 v66 v67 v68 v69 v70 v71 v72 v73 v74 v75 v76 : Value, a' = ((((((((((((((a.put (some 64) v64).put (some 65) v65).put (some 66) v66).put (some 67) v67).put (some 68) v68).put (some 69) v69).put (some 70) v70).put (some 71) v71).put (some 72) v72).put (some 73) v73).put (some 74) v74).put (some 75) v75).put (some 76) v76).put (some 7) (.bool bk_))) ?_ ?_; (focus ((intro Q1_ HQ1_) <;>
    (repeat' (first | ((with_reducible have h_ := iW HH); clear HH; rcases h_ with ⟨c_, h_⟩ | ⟨c_, h_⟩ <;> (have HH := Aside0.mk h_; clear h_; first | (with_reducible exact (none_ne HH.out).elim) | (replace HP := Aside0.mk (And.intro c_ HP.out); first | (replace c_ := kT c_; subst c_) | (replace c_ := kF c_; subst c_) | (replace c_ := kE c_; subst c_) | (replace c_ := kT c_; try have := kN c_) | (replace c_ := kF c_) | (have := kA c_; have := kB c_; clear c_) | (have := kC c_; have := kD c_; clear c_) | (have := kL c_; clear c_) | (have := kS c_; clear c_) | (have := kM c_; clear c_) | (have := kU c_; clear c_)))) | (with_reducible exact (none_ne HH.out).elim) | (with_reducible exact (ft_ne HH.out).elim) | fail)) <;>
    (apply plain_region) <;>
    (apply lpure rfl rfl; (go_simp; with_reducible rfl); (simp only [nP, nT, nZ, nS, xA, xB, xD, List.map_cons, List.map_nil]; rfl)) <;>
    (apply HF.lone rfl rfl rfl O3_ rfl; (repeat (first | exact At.head | apply At.tail)); rfl; (simp only [nP, nT, nZ, nS, xA, xB, xD, List.map_cons, List.map_nil]; rfl)) <;>
    ((with_reducible have h_ := bE HH); clear HH; obtain ⟨_, A_, h_⟩ := h_; have HH := Aside0.mk h_; clear h_; replace A_ := Aside0.mk A_; apply lcall rfl rfl rfl Try.func75 (by kernel_rfl) rfl; (with_reducible apply Calls.mono); (with_reducible apply impl_isByte.calls (h := A_.out)); rintro e w_ ⟨rfl, hb_⟩; refine ⟨_, rfl, ?_⟩; replace HF := HF.drawn hb_; clear hb_; rotate_left; (first | rfl | (simp only [mT, mC, mN]; first | done | rfl)); clear A_; (refine lnorm (a' := ?_) ?_ ?_; rotate_left; (simp only [nP, nT, nZ, nS, xA, xB, xD, List.map_cons, List.map_nil]; rfl))) <;>
    (repeat' (first | ((with_reducible have h_ := iW HH); clear HH; rcases h_ with ⟨c_, h_⟩ | ⟨c_, h_⟩ <;> (have HH := Aside0.mk h_; clear h_; first | (with_reducible exact (none_ne HH.out).elim) | (replace HP := Aside0.mk (And.intro c_ HP.out); first | (replace c_ := kT c_; subst c_) | (replace c_ := kF c_; subst c_) | (replace c_ := kE c_; subst c_) | (replace c_ := kT c_; try have := kN c_) | (replace c_ := kF c_) | (have := kA c_; have := kB c_; clear c_) | (have := kC c_; have := kD c_; clear c_) | (have := kL c_; clear c_) | (have := kS c_; clear c_) | (have := kM c_; clear c_) | (have := kU c_; clear c_)))) | (with_reducible exact (none_ne HH.out).elim) | (with_reducible exact (ft_ne HH.out).elim) | fail)) <;>
    (apply lpure rfl rfl; (go_simp; with_reducible rfl); (simp only [nP, nT, nZ, nS, xA, xB, xD, List.map_cons, List.map_nil]; rfl)) <;>
    (first | (apply lpure rfl rfl; (go_simp; with_reducible rfl); (simp only [nP, nT, nZ, nS, xA, xB, xD, List.map_cons, List.map_nil]; rfl)) | (apply loff rfl rfl; (simp only [nP, nT, nZ, nS, xA, xB, xD, List.map_cons, List.map_nil]; rfl))) <;>
    (first | (apply HF.lone rfl rfl rfl O3_ rfl; (repeat (first | exact At.head | apply At.tail)); rfl; (simp only [nP, nT, nZ, nS, xA, xB, xD, List.map_cons, List.map_nil]; rfl)) | (apply loff rfl rfl; (simp only [nP, nT, nZ, nS, xA, xB, xD, List.map_cons, List.map_nil]; rfl))) <;>
    (first | ((with_reducible have h_ := bE HH); clear HH; obtain ⟨_, A_, h_⟩ := h_; have HH := Aside0.mk h_; clear h_; replace A_ := Aside0.mk A_; apply lcall rfl rfl rfl Try.func75 (by kernel_rfl) rfl; (with_reducible apply Calls.mono); (with_reducible apply impl_isByte.calls (h := A_.out)); rintro e w_ ⟨rfl, hb_⟩; refine ⟨_, rfl, ?_⟩; replace HF := HF.drawn hb_; clear hb_; rotate_left; (first | rfl | (simp only [mT, mC, mN]; first | done | rfl)); clear A_; (refine lnorm (a' := ?_) ?_ ?_; rotate_left; (simp only [nP, nT, nZ, nS, xA, xB, xD, List.map_cons, List.map_nil]; rfl))) | (apply loff rfl rfl; (simp only [nP, nT, nZ, nS, xA, xB, xD, List.map_cons, List.map_nil]; rfl))) <;>
    (repeat' (first | ((with_reducible have h_ := iW HH); clear HH; rcases h_ with ⟨c_, h_⟩ | ⟨c_, h_⟩ <;> (have HH := Aside0.mk h_; clear h_; first | (with_reducible exact (none_ne HH.out).elim) | (replace HP := Aside0.mk (And.intro c_ HP.out); first | (replace c_ := kT c_; subst c_) | (replace c_ := kF c_; subst c_) | (replace c_ := kE c_; subst c_) | (replace c_ := kT c_; try have := kN c_) | (replace c_ := kF c_) | (have := kA c_; have := kB c_; clear c_) | (have := kC c_; have := kD c_; clear c_) | (have := kL c_; clear c_) | (have := kS c_; clear c_) | (have := kM c_; clear c_) | (have := kU c_; clear c_)))) | (with_reducible exact (none_ne HH.out).elim) | (with_reducible exact (ft_ne HH.out).elim) | fail)) <;>
    (apply lpure rfl rfl; (go_simp; with_reducible rfl); (simp only [nP, nT, nZ, nS, xA, xB, xD, List.map_cons, List.map_nil]; rfl)) <;>
    (apply lpure rfl rfl; (go_simp; with_reducible rfl); (simp only [nP, nT, nZ, nS, xA, xB, xD, List.map_cons, List.map_nil]; rfl)) <;>
    (first | (apply lpure rfl rfl; (go_simp; with_reducible rfl); (simp only [nP, nT, nZ, nS, xA, xB, xD, List.map_cons, List.map_nil]; rfl)) | (apply loff rfl rfl; (simp only [nP, nT, nZ, nS, xA, xB, xD, List.map_cons, List.map_nil]; rfl))) <;>
    (first | (apply HF.lone rfl rfl rfl O3_ rfl; (repeat (first | exact At.head | apply At.tail)); rfl; (simp only [nP, nT, nZ, nS, xA, xB, xD, List.map_cons, List.map_nil]; rfl)) | (apply loff rfl rfl; (simp only [nP, nT, nZ, nS, xA, xB, xD, List.map_cons, List.map_nil]; rfl))) <;>
    (first | ((with_reducible have h_ := bE HH); clear HH; obtain ⟨_, A_, h_⟩ := h_; have HH := Aside0.mk h_; clear h_; replace A_ := Aside0.mk A_; apply lcall rfl rfl rfl Try.func108 (by kernel_rfl) rfl; (with_reducible apply Calls.mono); (with_reducible apply impl_isLong.calls (h := A_.out)); rintro e w_ ⟨rfl, hb_⟩; refine ⟨_, rfl, ?_⟩; replace HF := HF.drawn hb_; clear hb_; rotate_left; (first | rfl | (simp only [mT, mC, mN]; first | done | rfl)); clear A_; (refine lnorm (a' := ?_) ?_ ?_; rotate_left; (simp only [nP, nT, nZ, nS, xA, xB, xD, List.map_cons, List.map_nil]; rfl))) | (apply loff rfl rfl; (simp only [nP, nT, nZ, nS, xA, xB, xD, List.map_cons, List.map_nil]; rfl))) <;>
    (repeat' (first | ((with_reducible have h_ := iW HH); clear HH; rcases h_ with ⟨c_, h_⟩ | ⟨c_, h_⟩ <;> (have HH := Aside0.mk h_; clear h_; first | (with_reducible exact (none_ne HH.out).elim) | (replace HP := Aside0.mk (And.intro c_ HP.out); first | (replace c_ := kT c_; subst c_) | (replace c_ := kF c_; subst c_) | (replace c_ := kE c_; subst c_) | (replace c_ := kT c_; try have := kN c_) | (replace c_ := kF c_) | (have := kA c_; have := kB c_; clear c_) | (have := kC c_; have := kD c_; clear c_) | (have := kL c_; clear c_) | (have := kS c_; clear c_) | (have := kM c_; clear c_) | (have := kU c_; clear c_)))) | (with_reducible exact (none_ne HH.out).elim) | (with_reducible exact (ft_ne HH.out).elim) | fail)) <;>
    (apply lpure rfl rfl; (go_simp; with_reducible rfl); (simp only [nP, nT, nZ, nS, xA, xB, xD, List.map_cons, List.map_nil]; rfl)) <;>
    (apply lpure rfl rfl; (go_simp; with_reducible rfl); (simp only [nP, nT, nZ, nS, xA, xB, xD, List.map_cons, List.map_nil]; rfl)) <;>
    (apply lend; obtain rfl := Option.some.inj HH.out; refine HQ1_ _ _ ?_ HF; (repeat' apply Exists.intro); (simp only [Act.put, List.setIfInBounds_toArray, List.set_cons_zero, List.set_cons_succ]; rfl)))); (try clear HL_); clear HF HH; rintro a1_ W1_ ⟨⟨_, _, _, _, _, _, _, _, _, _, _, _, _, rfl⟩, HF⟩; have HH := HX; clear HX; (refine qnorm (a' := ?_) ?_ ?_; rotate_left; (simp only [nP, nT, nZ, nS, xA, xB, xD, List.map_cons, List.map_nil]; rfl)); (repeat' (first | ((with_reducible have h_ := iW HH); clear HH; rcases h_ with ⟨c_, h_⟩ | ⟨c_, h_⟩ <;> (have HH := Aside0.mk h_; clear h_; first | (with_reducible exact (none_ne HH.out).elim) | (replace HP := Aside0.mk (And.intro c_ HP.out); first | (replace c_ := kT c_; subst c_) | (replace c_ := kF c_; subst c_) | (replace c_ := kE c_; subst c_) | (replace c_ := kT c_; try have := kN c_) | (replace c_ := kF c_) | (have := kA c_; have := kB c_; clear c_) | (have := kC c_; have := kD c_; clear c_) | (have := kL c_; clear c_) | (have := kS c_; clear c_) | (have := kM c_; clear c_) | (have := kU c_; clear c_)))) | (with_reducible exact (none_ne HH.out).elim) | (with_reducible exact (ft_ne HH.out).elim) | fail)))
    | ((with_reducible refine gate_region (id := 6) ?_); ((apply plain_region) <;>
    (apply lpure rfl rfl; (go_simp; with_reducible rfl); (simp only [nP, nT, nZ, nS, xA, xB, xD, List.map_cons, List.map_nil]; rfl)) <;>
    (apply HF.lone rfl rfl rfl O3_ rfl; (repeat (first | exact At.head | apply At.tail)); rfl; (simp only [nP, nT, nZ, nS, xA, xB, xD, List.map_cons, List.map_nil]; rfl)) <;>
    (apply lend)))
    | ((with_reducible refine gate_region (id := 7) ?_); ((apply plain_region) <;>
    (apply lpure rfl rfl; (go_simp; with_reducible rfl); (simp only [nP, nT, nZ, nS, xA, xB, xD, List.map_cons, List.map_nil]; rfl)) <;>
    (apply lpure rfl rfl; (go_simp; with_reducible rfl); (simp only [nP, nT, nZ, nS, xA, xB, xD, List.map_cons, List.map_nil]; rfl)) <;>
    (apply lend)))
    | ((with_reducible refine gate_region (id := 8) ?_); ((apply plain_region) <;>
    (apply lpure rfl rfl; (go_simp; with_reducible rfl); (simp only [nP, nT, nZ, nS, xA, xB, xD, List.map_cons, List.map_nil]; rfl)) <;>
    (apply lpure rfl rfl; (go_simp; with_reducible rfl); (simp only [nP, nT, nZ, nS, xA, xB, xD, List.map_cons, List.map_nil]; rfl)) <;>
    (first | (apply lpure rfl rfl; (go_simp; with_reducible rfl); (simp only [nP, nT, nZ, nS, xA, xB, xD, List.map_cons, List.map_nil]; rfl)) | (apply loff rfl rfl; (simp only [nP, nT, nZ, nS, xA, xB, xD, List.map_cons, List.map_nil]; rfl))) <;>
    (apply lpure rfl rfl; (go_simp; with_reducible rfl); (simp only [nP, nT, nZ, nS, xA, xB, xD, List.map_cons, List.map_nil]; rfl)) <;>
    (apply lpure rfl rfl; (go_simp; with_reducible rfl); (simp only [nP, nT, nZ, nS, xA, xB, xD, List.map_cons, List.map_nil]; rfl)) <;>
    (first | (apply lpure rfl rfl; (go_simp; with_reducible rfl); (simp only [nP, nT, nZ, nS, xA, xB, xD, List.map_cons, List.map_nil]; rfl)) | (apply loff rfl rfl; (simp only [nP, nT, nZ, nS, xA, xB, xD, List.map_cons, List.map_nil]; rfl))) <;>
    (first | (apply HF.lone rfl rfl rfl O3_ rfl; (repeat (first | exact At.head | apply At.tail)); rfl; (simp only [nP, nT, nZ, nS, xA, xB, xD, List.map_cons, List.map_nil]; rfl)) | (apply loff rfl rfl; (simp only [nP, nT, nZ, nS, xA, xB, xD, List.map_cons, List.map_nil]; rfl))) <;>
    (first | (apply lpure rfl rfl; (go_simp; with_reducible rfl); (simp only [nP, nT, nZ, nS, xA, xB, xD, List.map_cons, List.map_nil]; rfl)) | (apply loff rfl rfl; (simp only [nP, nT, nZ, nS, xA, xB, xD, List.map_cons, List.map_nil]; rfl))) <;>
    (first | (apply HF.lone rfl rfl rfl O3_ rfl; (repeat (first | exact At.head | apply At.tail)); rfl; (simp only [nP, nT, nZ, nS, xA, xB, xD, List.map_cons, List.map_nil]; rfl)) | (apply loff rfl rfl; (simp only [nP, nT, nZ, nS, xA, xB, xD, List.map_cons, List.map_nil]; rfl))) <;>
    (first | (apply lpure rfl rfl; (go_simp; with_reducible rfl); (simp only [nP, nT, nZ, nS, xA, xB, xD, List.map_cons, List.map_nil]; rfl)) | (apply loff rfl rfl; (simp only [nP, nT, nZ, nS, xA, xB, xD, List.map_cons, List.map_nil]; rfl))) <;>
    (first | (apply HF.lone rfl rfl rfl O3_ rfl; (repeat (first | exact At.head | apply At.tail)); rfl; (simp only [nP, nT, nZ, nS, xA, xB, xD, List.map_cons, List.map_nil]; rfl)) | (apply loff rfl rfl; (simp only [nP, nT, nZ, nS, xA, xB, xD, List.map_cons, List.map_nil]; rfl))) <;>
    (first | (apply HF.lbuild rfl rfl; (go_simp; first | exact ⟨rfl, rfl⟩ | exact ⟨rfl, rfl, rfl⟩ | rfl); clear HF; intro g_ w_ hg_ hb_ hh_ HF; (try simp only [i64_w] at hh_); (try clear HL_); have HL_ := Aside0.mk hh_; clear hg_ hh_ hb_; (refine lnorm (a' := ?_) ?_ ?_; rotate_left; (simp only [nP, nT, nZ, nS, xA, xB, xD, List.map_cons, List.map_nil]; rfl))) | (apply loff rfl rfl; (simp only [nP, nT, nZ, nS, xA, xB, xD, List.map_cons, List.map_nil]; rfl))) <;>
    (first | ((with_reducible have h_ := bE HH); clear HH; obtain ⟨_, A_, h_⟩ := h_; have HH := Aside0.mk h_; clear h_; replace A_ := Aside0.mk A_; apply lcall rfl rfl rfl Try.func114 (by kernel_rfl) rfl; (with_reducible apply Calls.mono); (with_reducible apply impl_areZero.calls (A0 := some ⟨g_, 0, none⟩) (c0 := 3) (h := A_.out)); exact bytesC (k := .i64) (xs := [_, _, _]) HL_.out (by simp); exact Nat.le_refl _; rintro e w_ ⟨rfl, hb_⟩; refine ⟨_, rfl, ?_⟩; replace HF := HF.drawn hb_; clear hb_; rotate_left; (first | rfl | (simp only [mT, mC, mN]; first | done | rfl)); clear A_; (refine lnorm (a' := ?_) ?_ ?_; rotate_left; (simp only [nP, nT, nZ, nS, xA, xB, xD, List.map_cons, List.map_nil]; rfl))) | (apply loff rfl rfl; (simp only [nP, nT, nZ, nS, xA, xB, xD, List.map_cons, List.map_nil]; rfl))) <;>
    (repeat' (first | ((with_reducible have h_ := iW HH); clear HH; rcases h_ with ⟨c_, h_⟩ | ⟨c_, h_⟩ <;> (have HH := Aside0.mk h_; clear h_; first | (with_reducible exact (none_ne HH.out).elim) | (replace HP := Aside0.mk (And.intro c_ HP.out); first | (replace c_ := kT c_; subst c_) | (replace c_ := kF c_; subst c_) | (replace c_ := kE c_; subst c_) | (replace c_ := kT c_; try have := kN c_) | (replace c_ := kF c_) | (have := kA c_; have := kB c_; clear c_) | (have := kC c_; have := kD c_; clear c_) | (have := kL c_; clear c_) | (have := kS c_; clear c_) | (have := kM c_; clear c_) | (have := kU c_; clear c_)))) | (with_reducible exact (none_ne HH.out).elim) | (with_reducible exact (ft_ne HH.out).elim) | fail)) <;>
    (apply lpure rfl rfl; (go_simp; with_reducible rfl); (simp only [nP, nT, nZ, nS, xA, xB, xD, List.map_cons, List.map_nil]; rfl)) <;>
    (apply lpure rfl rfl; (go_simp; with_reducible rfl); (simp only [nP, nT, nZ, nS, xA, xB, xD, List.map_cons, List.map_nil]; rfl)) <;>
    (first | (apply lpure rfl rfl; (go_simp; with_reducible rfl); (simp only [nP, nT, nZ, nS, xA, xB, xD, List.map_cons, List.map_nil]; rfl)) | (apply loff rfl rfl; (simp only [nP, nT, nZ, nS, xA, xB, xD, List.map_cons, List.map_nil]; rfl))) <;>
    (first | (apply HF.lone rfl rfl rfl O4_ rfl; (repeat (first | exact At.head | apply At.tail)); rfl; (simp only [nP, nT, nZ, nS, xA, xB, xD, List.map_cons, List.map_nil]; rfl)) | (apply loff rfl rfl; (simp only [nP, nT, nZ, nS, xA, xB, xD, List.map_cons, List.map_nil]; rfl))) <;>
    (first | (apply lpure rfl rfl; (go_simp; with_reducible rfl); (simp only [nP, nT, nZ, nS, xA, xB, xD, List.map_cons, List.map_nil]; rfl)) | (apply loff rfl rfl; (simp only [nP, nT, nZ, nS, xA, xB, xD, List.map_cons, List.map_nil]; rfl))) <;>
    (apply lpure rfl rfl; (go_simp; with_reducible rfl); (simp only [nP, nT, nZ, nS, xA, xB, xD, List.map_cons, List.map_nil]; rfl)) <;>
    (apply lpure rfl rfl; (go_simp; with_reducible rfl); (simp only [nP, nT, nZ, nS, xA, xB, xD, List.map_cons, List.map_nil]; rfl)) <;>
    (apply lend)))
    | ((with_reducible refine gate_region (id := 9) ?_); ((apply plain_region) <;>
    (apply lpure rfl rfl; (go_simp; with_reducible rfl); (simp only [nP, nT, nZ, nS, xA, xB, xD, List.map_cons, List.map_nil]; rfl)) <;>
    (apply lpure rfl rfl; (go_simp; with_reducible rfl); (simp only [nP, nT, nZ, nS, xA, xB, xD, List.map_cons, List.map_nil]; rfl)) <;>
    (apply lend)))
    | ((with_reducible refine gate_region (id := 10) ?_); ((apply plain_region) <;>
    (apply lpure rfl rfl; (go_simp; with_reducible rfl); (simp only [nP, nT, nZ, nS, xA, xB, xD, List.map_cons, List.map_nil]; rfl)) <;>
    (apply lpure rfl rfl; (go_simp; with_reducible rfl); (simp only [nP, nT, nZ, nS, xA, xB, xD, List.map_cons, List.map_nil]; rfl)) <;>
    (first | (apply lpure rfl rfl; (go_simp; with_reducible rfl); (simp only [nP, nT, nZ, nS, xA, xB, xD, List.map_cons, List.map_nil]; rfl)) | (apply loff rfl rfl; (simp only [nP, nT, nZ, nS, xA, xB, xD, List.map_cons, List.map_nil]; rfl))) <;>
    (first | (apply HF.lone rfl rfl rfl O3_ rfl; (repeat (first | exact At.head | apply At.tail)); rfl; (simp only [nP, nT, nZ, nS, xA, xB, xD, List.map_cons, List.map_nil]; rfl)) | (apply loff rfl rfl; (simp only [nP, nT, nZ, nS, xA, xB, xD, List.map_cons, List.map_nil]; rfl))) <;>
    (first | (apply lpure rfl rfl; (go_simp; with_reducible rfl); (simp only [nP, nT, nZ, nS, xA, xB, xD, List.map_cons, List.map_nil]; rfl)) | (apply loff rfl rfl; (simp only [nP, nT, nZ, nS, xA, xB, xD, List.map_cons, List.map_nil]; rfl))) <;>
    (first | (apply HF.lone rfl rfl rfl O3_ rfl; (repeat (first | exact At.head | apply At.tail)); rfl; (simp only [nP, nT, nZ, nS, xA, xB, xD, List.map_cons, List.map_nil]; rfl)) | (apply loff rfl rfl; (simp only [nP, nT, nZ, nS, xA, xB, xD, List.map_cons, List.map_nil]; rfl))) <;>
    (first | (apply lpure rfl rfl; (go_simp; with_reducible rfl); (simp only [nP, nT, nZ, nS, xA, xB, xD, List.map_cons, List.map_nil]; rfl)) | (apply loff rfl rfl; (simp only [nP, nT, nZ, nS, xA, xB, xD, List.map_cons, List.map_nil]; rfl))) <;>
    (first | (apply HF.lone rfl rfl rfl O3_ rfl; (repeat (first | exact At.head | apply At.tail)); rfl; (simp only [nP, nT, nZ, nS, xA, xB, xD, List.map_cons, List.map_nil]; rfl)) | (apply loff rfl rfl; (simp only [nP, nT, nZ, nS, xA, xB, xD, List.map_cons, List.map_nil]; rfl))) <;>
    (first | (apply lpure rfl rfl; (go_simp; with_reducible rfl); (simp only [nP, nT, nZ, nS, xA, xB, xD, List.map_cons, List.map_nil]; rfl)) | (apply loff rfl rfl; (simp only [nP, nT, nZ, nS, xA, xB, xD, List.map_cons, List.map_nil]; rfl))) <;>
    (first | (apply HF.lone rfl rfl rfl O3_ rfl; (repeat (first | exact At.head | apply At.tail)); rfl; (simp only [nP, nT, nZ, nS, xA, xB, xD, List.map_cons, List.map_nil]; rfl)) | (apply loff rfl rfl; (simp only [nP, nT, nZ, nS, xA, xB, xD, List.map_cons, List.map_nil]; rfl))) <;>
    (first | (apply lpure rfl rfl; (go_simp; with_reducible rfl); (simp only [nP, nT, nZ, nS, xA, xB, xD, List.map_cons, List.map_nil]; rfl)) | (apply loff rfl rfl; (simp only [nP, nT, nZ, nS, xA, xB, xD, List.map_cons, List.map_nil]; rfl))) <;>
    (first | (apply HF.lone rfl rfl rfl O3_ rfl; (repeat (first | exact At.head | apply At.tail)); rfl; (simp only [nP, nT, nZ, nS, xA, xB, xD, List.map_cons, List.map_nil]; rfl)) | (apply loff rfl rfl; (simp only [nP, nT, nZ, nS, xA, xB, xD, List.map_cons, List.map_nil]; rfl))) <;>
    (first | (apply lpure rfl rfl; (go_simp; with_reducible rfl); (simp only [nP, nT, nZ, nS, xA, xB, xD, List.map_cons, List.map_nil]; rfl)) | (apply loff rfl rfl; (simp only [nP, nT, nZ, nS, xA, xB, xD, List.map_cons, List.map_nil]; rfl))) <;>
    (first | (apply HF.lone rfl rfl rfl O3_ rfl; (repeat (first | exact At.head | apply At.tail)); rfl; (simp only [nP, nT, nZ, nS, xA, xB, xD, List.map_cons, List.map_nil]; rfl)) | (apply loff rfl rfl; (simp only [nP, nT, nZ, nS, xA, xB, xD, List.map_cons, List.map_nil]; rfl))) <;>
    (first | (apply lpure rfl rfl; (go_simp; with_reducible rfl); (simp only [nP, nT, nZ, nS, xA, xB, xD, List.map_cons, List.map_nil]; rfl)) | (apply loff rfl rfl; (simp only [nP, nT, nZ, nS, xA, xB, xD, List.map_cons, List.map_nil]; rfl))) <;>
    (first | (apply HF.lone rfl rfl rfl O3_ rfl; (repeat (first | exact At.head | apply At.tail)); rfl; (simp only [nP, nT, nZ, nS, xA, xB, xD, List.map_cons, List.map_nil]; rfl)) | (apply loff rfl rfl; (simp only [nP, nT, nZ, nS, xA, xB, xD, List.map_cons, List.map_nil]; rfl))) <;>
    (first | (apply lpure rfl rfl; (go_simp; with_reducible rfl); (simp only [nP, nT, nZ, nS, xA, xB, xD, List.map_cons, List.map_nil]; rfl)) | (apply loff rfl rfl; (simp only [nP, nT, nZ, nS, xA, xB, xD, List.map_cons, List.map_nil]; rfl))) <;>
    (first | (apply HF.lone rfl rfl rfl O3_ rfl; (repeat (first | exact At.head | apply At.tail)); rfl; (simp only [nP, nT, nZ, nS, xA, xB, xD, List.map_cons, List.map_nil]; rfl)) | (apply loff rfl rfl; (simp only [nP, nT, nZ, nS, xA, xB, xD, List.map_cons, List.map_nil]; rfl))) <;>
    (first | (apply lpure rfl rfl; (go_simp; with_reducible rfl); (simp only [nP, nT, nZ, nS, xA, xB, xD, List.map_cons, List.map_nil]; rfl)) | (apply loff rfl rfl; (simp only [nP, nT, nZ, nS, xA, xB, xD, List.map_cons, List.map_nil]; rfl))) <;>
    (first | (apply HF.lone rfl rfl rfl O22_ rfl; (repeat (first | exact At.head | apply At.tail)); rfl; (simp only [nP, nT, nZ, nS, xA, xB, xD, List.map_cons, List.map_nil]; rfl)) | (apply loff rfl rfl; (simp only [nP, nT, nZ, nS, xA, xB, xD, List.map_cons, List.map_nil]; rfl))) <;>
    (first | (apply lpure rfl rfl; (go_simp; with_reducible rfl); (simp only [nP, nT, nZ, nS, xA, xB, xD, List.map_cons, List.map_nil]; rfl)) | (apply loff rfl rfl; (simp only [nP, nT, nZ, nS, xA, xB, xD, List.map_cons, List.map_nil]; rfl))) <;>
    (first | (apply HF.lbuild rfl rfl; (go_simp; first | exact ⟨rfl, rfl⟩ | exact ⟨rfl, rfl, rfl⟩ | rfl); clear HF; intro g_ w_ hg_ hb_ hh_ HF; (try simp only [i64_w] at hh_); (try clear HL_); have HL_ := Aside0.mk hh_; clear hg_ hh_ hb_; (refine lnorm (a' := ?_) ?_ ?_; rotate_left; (simp only [nP, nT, nZ, nS, xA, xB, xD, List.map_cons, List.map_nil]; rfl))) | (apply loff rfl rfl; (simp only [nP, nT, nZ, nS, xA, xB, xD, List.map_cons, List.map_nil]; rfl))) <;>
    (first | ((with_reducible have h_ := bE HH); clear HH; obtain ⟨_, A_, h_⟩ := h_; have HH := Aside0.mk h_; clear h_; replace A_ := Aside0.mk A_; apply lcall rfl rfl rfl Try.func114 (by kernel_rfl) rfl; (with_reducible apply Calls.mono); (with_reducible apply impl_areZero.calls (A0 := some ⟨g_, 0, none⟩) (c0 := 9) (h := A_.out)); exact bytesC (k := .i64) (xs := [_, _, _, _, _, _, _, _, _]) HL_.out (by simp); exact Nat.le_refl _; rintro e w_ ⟨rfl, hb_⟩; refine ⟨_, rfl, ?_⟩; replace HF := HF.drawn hb_; clear hb_; rotate_left; (first | rfl | (simp only [mT, mC, mN]; first | done | rfl)); clear A_; (refine lnorm (a' := ?_) ?_ ?_; rotate_left; (simp only [nP, nT, nZ, nS, xA, xB, xD, List.map_cons, List.map_nil]; rfl))) | (apply loff rfl rfl; (simp only [nP, nT, nZ, nS, xA, xB, xD, List.map_cons, List.map_nil]; rfl))) <;>
    (repeat' (first | ((with_reducible have h_ := iW HH); clear HH; rcases h_ with ⟨c_, h_⟩ | ⟨c_, h_⟩ <;> (have HH := Aside0.mk h_; clear h_; first | (with_reducible exact (none_ne HH.out).elim) | (replace HP := Aside0.mk (And.intro c_ HP.out); first | (replace c_ := kT c_; subst c_) | (replace c_ := kF c_; subst c_) | (replace c_ := kE c_; subst c_) | (replace c_ := kT c_; try have := kN c_) | (replace c_ := kF c_) | (have := kA c_; have := kB c_; clear c_) | (have := kC c_; have := kD c_; clear c_) | (have := kL c_; clear c_) | (have := kS c_; clear c_) | (have := kM c_; clear c_) | (have := kU c_; clear c_)))) | (with_reducible exact (none_ne HH.out).elim) | (with_reducible exact (ft_ne HH.out).elim) | fail)) <;>
    (apply lpure rfl rfl; (go_simp; with_reducible rfl); (simp only [nP, nT, nZ, nS, xA, xB, xD, List.map_cons, List.map_nil]; rfl)) <;>
    (apply lpure rfl rfl; (go_simp; with_reducible rfl); (simp only [nP, nT, nZ, nS, xA, xB, xD, List.map_cons, List.map_nil]; rfl)) <;>
    (first | (apply lpure rfl rfl; (go_simp; with_reducible rfl); (simp only [nP, nT, nZ, nS, xA, xB, xD, List.map_cons, List.map_nil]; rfl)) | (apply loff rfl rfl; (simp only [nP, nT, nZ, nS, xA, xB, xD, List.map_cons, List.map_nil]; rfl))) <;>
    (first | (apply HF.lone rfl rfl rfl O4_ rfl; (repeat (first | exact At.head | apply At.tail)); rfl; (simp only [nP, nT, nZ, nS, xA, xB, xD, List.map_cons, List.map_nil]; rfl)) | (apply loff rfl rfl; (simp only [nP, nT, nZ, nS, xA, xB, xD, List.map_cons, List.map_nil]; rfl))) <;>
    (first | (apply lpure rfl rfl; (go_simp; with_reducible rfl); (simp only [nP, nT, nZ, nS, xA, xB, xD, List.map_cons, List.map_nil]; rfl)) | (apply loff rfl rfl; (simp only [nP, nT, nZ, nS, xA, xB, xD, List.map_cons, List.map_nil]; rfl))) <;>
    (first | (apply lpure rfl rfl; (go_simp; with_reducible rfl); (simp only [nP, nT, nZ, nS, xA, xB, xD, List.map_cons, List.map_nil]; rfl)) | (apply loff rfl rfl; (simp only [nP, nT, nZ, nS, xA, xB, xD, List.map_cons, List.map_nil]; rfl))) <;>
    (first | (apply lpure rfl rfl; (go_simp; with_reducible rfl); (simp only [nP, nT, nZ, nS, xA, xB, xD, List.map_cons, List.map_nil]; rfl)) | (apply loff rfl rfl; (simp only [nP, nT, nZ, nS, xA, xB, xD, List.map_cons, List.map_nil]; rfl))) <;>
    (first | (apply lpure rfl rfl; (go_simp; with_reducible rfl); (simp only [nP, nT, nZ, nS, xA, xB, xD, List.map_cons, List.map_nil]; rfl)) | (apply loff rfl rfl; (simp only [nP, nT, nZ, nS, xA, xB, xD, List.map_cons, List.map_nil]; rfl))) <;>
    (first | (apply lpure rfl rfl; (go_simp; with_reducible rfl); (simp only [nP, nT, nZ, nS, xA, xB, xD, List.map_cons, List.map_nil]; rfl)) | (apply loff rfl rfl; (simp only [nP, nT, nZ, nS, xA, xB, xD, List.map_cons, List.map_nil]; rfl))) <;>
    (apply lpure rfl rfl; (go_simp; with_reducible rfl); (simp only [nP, nT, nZ, nS, xA, xB, xD, List.map_cons, List.map_nil]; rfl)) <;>
    (apply lpure rfl rfl; (go_simp; with_reducible rfl); (simp only [nP, nT, nZ, nS, xA, xB, xD, List.map_cons, List.map_nil]; rfl)) <;>
    (apply lend)))
    | ((with_reducible refine gate_region (id := 11) ?_); ((apply plain_region) <;>
    (apply lpure rfl rfl; (go_simp; with_reducible rfl); (simp only [nP, nT, nZ, nS, xA, xB, xD, List.map_cons, List.map_nil]; rfl)) <;>
    (apply lpure rfl rfl; (go_simp; with_reducible rfl); (simp only [nP, nT, nZ, nS, xA, xB, xD, List.map_cons, List.map_nil]; rfl)) <;>
    (apply lend)))
    | ((with_reducible refine gate_region (id := 12) ?_); ((apply plain_region) <;>
    (apply lpure rfl rfl; (go_simp; with_reducible rfl); (simp only [nP, nT, nZ, nS, xA, xB, xD, List.map_cons, List.map_nil]; rfl)) <;>
    (apply lpure rfl rfl; (go_simp; with_reducible rfl); (simp only [nP, nT, nZ, nS, xA, xB, xD, List.map_cons, List.map_nil]; rfl)) <;>
    (first | (apply lpure rfl rfl; (go_simp; with_reducible rfl); (simp only [nP, nT, nZ, nS, xA, xB, xD, List.map_cons, List.map_nil]; rfl)) | (apply loff rfl rfl; (simp only [nP, nT, nZ, nS, xA, xB, xD, List.map_cons, List.map_nil]; rfl))) <;>
    (first | (apply HF.lone rfl rfl rfl O3_ rfl; (repeat (first | exact At.head | apply At.tail)); rfl; (simp only [nP, nT, nZ, nS, xA, xB, xD, List.map_cons, List.map_nil]; rfl)) | (apply loff rfl rfl; (simp only [nP, nT, nZ, nS, xA, xB, xD, List.map_cons, List.map_nil]; rfl))) <;>
    (first | (apply lpure rfl rfl; (go_simp; with_reducible rfl); (simp only [nP, nT, nZ, nS, xA, xB, xD, List.map_cons, List.map_nil]; rfl)) | (apply loff rfl rfl; (simp only [nP, nT, nZ, nS, xA, xB, xD, List.map_cons, List.map_nil]; rfl))) <;>
    (first | (apply HF.lone rfl rfl rfl O3_ rfl; (repeat (first | exact At.head | apply At.tail)); rfl; (simp only [nP, nT, nZ, nS, xA, xB, xD, List.map_cons, List.map_nil]; rfl)) | (apply loff rfl rfl; (simp only [nP, nT, nZ, nS, xA, xB, xD, List.map_cons, List.map_nil]; rfl))) <;>
    (first | (apply lpure rfl rfl; (go_simp; with_reducible rfl); (simp only [nP, nT, nZ, nS, xA, xB, xD, List.map_cons, List.map_nil]; rfl)) | (apply loff rfl rfl; (simp only [nP, nT, nZ, nS, xA, xB, xD, List.map_cons, List.map_nil]; rfl))) <;>
    (first | (apply HF.lone rfl rfl rfl O3_ rfl; (repeat (first | exact At.head | apply At.tail)); rfl; (simp only [nP, nT, nZ, nS, xA, xB, xD, List.map_cons, List.map_nil]; rfl)) | (apply loff rfl rfl; (simp only [nP, nT, nZ, nS, xA, xB, xD, List.map_cons, List.map_nil]; rfl))) <;>
    (first | (apply lpure rfl rfl; (go_simp; with_reducible rfl); (simp only [nP, nT, nZ, nS, xA, xB, xD, List.map_cons, List.map_nil]; rfl)) | (apply loff rfl rfl; (simp only [nP, nT, nZ, nS, xA, xB, xD, List.map_cons, List.map_nil]; rfl))) <;>
    (first | (apply HF.lone rfl rfl rfl O3_ rfl; (repeat (first | exact At.head | apply At.tail)); rfl; (simp only [nP, nT, nZ, nS, xA, xB, xD, List.map_cons, List.map_nil]; rfl)) | (apply loff rfl rfl; (simp only [nP, nT, nZ, nS, xA, xB, xD, List.map_cons, List.map_nil]; rfl))) <;>
    (first | (apply lpure rfl rfl; (go_simp; with_reducible rfl); (simp only [nP, nT, nZ, nS, xA, xB, xD, List.map_cons, List.map_nil]; rfl)) | (apply loff rfl rfl; (simp only [nP, nT, nZ, nS, xA, xB, xD, List.map_cons, List.map_nil]; rfl))) <;>
    (first | (apply HF.lone rfl rfl rfl O3_ rfl; (repeat (first | exact At.head | apply At.tail)); rfl; (simp only [nP, nT, nZ, nS, xA, xB, xD, List.map_cons, List.map_nil]; rfl)) | (apply loff rfl rfl; (simp only [nP, nT, nZ, nS, xA, xB, xD, List.map_cons, List.map_nil]; rfl))) <;>
    (first | (apply lpure rfl rfl; (go_simp; with_reducible rfl); (simp only [nP, nT, nZ, nS, xA, xB, xD, List.map_cons, List.map_nil]; rfl)) | (apply loff rfl rfl; (simp only [nP, nT, nZ, nS, xA, xB, xD, List.map_cons, List.map_nil]; rfl))) <;>
    (first | (apply HF.lone rfl rfl rfl O3_ rfl; (repeat (first | exact At.head | apply At.tail)); rfl; (simp only [nP, nT, nZ, nS, xA, xB, xD, List.map_cons, List.map_nil]; rfl)) | (apply loff rfl rfl; (simp only [nP, nT, nZ, nS, xA, xB, xD, List.map_cons, List.map_nil]; rfl))) <;>
    (first | (apply lpure rfl rfl; (go_simp; with_reducible rfl); (simp only [nP, nT, nZ, nS, xA, xB, xD, List.map_cons, List.map_nil]; rfl)) | (apply loff rfl rfl; (simp only [nP, nT, nZ, nS, xA, xB, xD, List.map_cons, List.map_nil]; rfl))) <;>
    (first | (apply HF.lone rfl rfl rfl O3_ rfl; (repeat (first | exact At.head | apply At.tail)); rfl; (simp only [nP, nT, nZ, nS, xA, xB, xD, List.map_cons, List.map_nil]; rfl)) | (apply loff rfl rfl; (simp only [nP, nT, nZ, nS, xA, xB, xD, List.map_cons, List.map_nil]; rfl))) <;>
    (first | (apply lpure rfl rfl; (go_simp; with_reducible rfl); (simp only [nP, nT, nZ, nS, xA, xB, xD, List.map_cons, List.map_nil]; rfl)) | (apply loff rfl rfl; (simp only [nP, nT, nZ, nS, xA, xB, xD, List.map_cons, List.map_nil]; rfl))) <;>
    (first | (apply HF.lone rfl rfl rfl O22_ rfl; (repeat (first | exact At.head | apply At.tail)); rfl; (simp only [nP, nT, nZ, nS, xA, xB, xD, List.map_cons, List.map_nil]; rfl)) | (apply loff rfl rfl; (simp only [nP, nT, nZ, nS, xA, xB, xD, List.map_cons, List.map_nil]; rfl))) <;>
    (first | (apply lpure rfl rfl; (go_simp; with_reducible rfl); (simp only [nP, nT, nZ, nS, xA, xB, xD, List.map_cons, List.map_nil]; rfl)) | (apply loff rfl rfl; (simp only [nP, nT, nZ, nS, xA, xB, xD, List.map_cons, List.map_nil]; rfl))) <;>
    (first | (apply HF.lbuild rfl rfl; (go_simp; first | exact ⟨rfl, rfl⟩ | exact ⟨rfl, rfl, rfl⟩ | rfl); clear HF; intro g_ w_ hg_ hb_ hh_ HF; (try simp only [i64_w] at hh_); (try clear HL_); have HL_ := Aside0.mk hh_; clear hg_ hh_ hb_; (refine lnorm (a' := ?_) ?_ ?_; rotate_left; (simp only [nP, nT, nZ, nS, xA, xB, xD, List.map_cons, List.map_nil]; rfl))) | (apply loff rfl rfl; (simp only [nP, nT, nZ, nS, xA, xB, xD, List.map_cons, List.map_nil]; rfl))) <;>
    (first | ((with_reducible have h_ := bE HH); clear HH; obtain ⟨_, A_, h_⟩ := h_; have HH := Aside0.mk h_; clear h_; replace A_ := Aside0.mk A_; apply lcall rfl rfl rfl Try.func114 (by kernel_rfl) rfl; (with_reducible apply Calls.mono); (with_reducible apply impl_areZero.calls (A0 := some ⟨g_, 0, none⟩) (c0 := 8) (h := A_.out)); exact bytesC (k := .i64) (xs := [_, _, _, _, _, _, _, _]) HL_.out (by simp); exact Nat.le_refl _; rintro e w_ ⟨rfl, hb_⟩; refine ⟨_, rfl, ?_⟩; replace HF := HF.drawn hb_; clear hb_; rotate_left; (first | rfl | (simp only [mT, mC, mN]; first | done | rfl)); clear A_; (refine lnorm (a' := ?_) ?_ ?_; rotate_left; (simp only [nP, nT, nZ, nS, xA, xB, xD, List.map_cons, List.map_nil]; rfl))) | (apply loff rfl rfl; (simp only [nP, nT, nZ, nS, xA, xB, xD, List.map_cons, List.map_nil]; rfl))) <;>
    (repeat' (first | ((with_reducible have h_ := iW HH); clear HH; rcases h_ with ⟨c_, h_⟩ | ⟨c_, h_⟩ <;> (have HH := Aside0.mk h_; clear h_; first | (with_reducible exact (none_ne HH.out).elim) | (replace HP := Aside0.mk (And.intro c_ HP.out); first | (replace c_ := kT c_; subst c_) | (replace c_ := kF c_; subst c_) | (replace c_ := kE c_; subst c_) | (replace c_ := kT c_; try have := kN c_) | (replace c_ := kF c_) | (have := kA c_; have := kB c_; clear c_) | (have := kC c_; have := kD c_; clear c_) | (have := kL c_; clear c_) | (have := kS c_; clear c_) | (have := kM c_; clear c_) | (have := kU c_; clear c_)))) | (with_reducible exact (none_ne HH.out).elim) | (with_reducible exact (ft_ne HH.out).elim) | fail)) <;>
    (apply lpure rfl rfl; (go_simp; with_reducible rfl); (simp only [nP, nT, nZ, nS, xA, xB, xD, List.map_cons, List.map_nil]; rfl)) <;>
    (apply lpure rfl rfl; (go_simp; with_reducible rfl); (simp only [nP, nT, nZ, nS, xA, xB, xD, List.map_cons, List.map_nil]; rfl)) <;>
    (first | (apply lpure rfl rfl; (go_simp; with_reducible rfl); (simp only [nP, nT, nZ, nS, xA, xB, xD, List.map_cons, List.map_nil]; rfl)) | (apply loff rfl rfl; (simp only [nP, nT, nZ, nS, xA, xB, xD, List.map_cons, List.map_nil]; rfl))) <;>
    (first | (apply HF.lone rfl rfl rfl O4_ rfl; (repeat (first | exact At.head | apply At.tail)); rfl; (simp only [nP, nT, nZ, nS, xA, xB, xD, List.map_cons, List.map_nil]; rfl)) | (apply loff rfl rfl; (simp only [nP, nT, nZ, nS, xA, xB, xD, List.map_cons, List.map_nil]; rfl))) <;>
    (first | (apply lpure rfl rfl; (go_simp; with_reducible rfl); (simp only [nP, nT, nZ, nS, xA, xB, xD, List.map_cons, List.map_nil]; rfl)) | (apply loff rfl rfl; (simp only [nP, nT, nZ, nS, xA, xB, xD, List.map_cons, List.map_nil]; rfl))) <;>
    (apply lpure rfl rfl; (go_simp; with_reducible rfl); (simp only [nP, nT, nZ, nS, xA, xB, xD, List.map_cons, List.map_nil]; rfl)) <;>
    (apply lpure rfl rfl; (go_simp; with_reducible rfl); (simp only [nP, nT, nZ, nS, xA, xB, xD, List.map_cons, List.map_nil]; rfl)) <;>
    (apply lend)))
    | ((with_reducible refine gate_region (id := 13) ?_); ((apply plain_region) <;>
    (apply lpure rfl rfl; (go_simp; with_reducible rfl); (simp only [nP, nT, nZ, nS, xA, xB, xD, List.map_cons, List.map_nil]; rfl)) <;>
    (apply HF.lone rfl rfl rfl O3_ rfl; (repeat (first | exact At.head | apply At.tail)); rfl; (simp only [nP, nT, nZ, nS, xA, xB, xD, List.map_cons, List.map_nil]; rfl)) <;>
    (apply lpure rfl rfl; (go_simp; with_reducible rfl); (simp only [nP, nT, nZ, nS, xA, xB, xD, List.map_cons, List.map_nil]; rfl)) <;>
    (apply HF.lone rfl rfl rfl O3_ rfl; (repeat (first | exact At.head | apply At.tail)); rfl; (simp only [nP, nT, nZ, nS, xA, xB, xD, List.map_cons, List.map_nil]; rfl)) <;>
    (apply lpure rfl rfl; (go_simp; with_reducible rfl); (simp only [nP, nT, nZ, nS, xA, xB, xD, List.map_cons, List.map_nil]; rfl)) <;>
    (apply HF.lone rfl rfl rfl O3_ rfl; (repeat (first | exact At.head | apply At.tail)); rfl; (simp only [nP, nT, nZ, nS, xA, xB, xD, List.map_cons, List.map_nil]; rfl)) <;>
    (apply lpure rfl rfl; (go_simp; with_reducible rfl); (simp only [nP, nT, nZ, nS, xA, xB, xD, List.map_cons, List.map_nil]; rfl)) <;>
    (apply HF.lone rfl rfl rfl O3_ rfl; (repeat (first | exact At.head | apply At.tail)); rfl; (simp only [nP, nT, nZ, nS, xA, xB, xD, List.map_cons, List.map_nil]; rfl)) <;>
    (apply lpure rfl rfl; (go_simp; with_reducible rfl); (simp only [nP, nT, nZ, nS, xA, xB, xD, List.map_cons, List.map_nil]; rfl)) <;>
    (apply HF.lone rfl rfl rfl O3_ rfl; (repeat (first | exact At.head | apply At.tail)); rfl; (simp only [nP, nT, nZ, nS, xA, xB, xD, List.map_cons, List.map_nil]; rfl)) <;>
    (apply lpure rfl rfl; (go_simp; with_reducible rfl); (simp only [nP, nT, nZ, nS, xA, xB, xD, List.map_cons, List.map_nil]; rfl)) <;>
    (apply HF.lone rfl rfl rfl O3_ rfl; (repeat (first | exact At.head | apply At.tail)); rfl; (simp only [nP, nT, nZ, nS, xA, xB, xD, List.map_cons, List.map_nil]; rfl)) <;>
    (apply lpure rfl rfl; (go_simp; with_reducible rfl); (simp only [nP, nT, nZ, nS, xA, xB, xD, List.map_cons, List.map_nil]; rfl)) <;>
    (apply HF.lone rfl rfl rfl O3_ rfl; (repeat (first | exact At.head | apply At.tail)); rfl; (simp only [nP, nT, nZ, nS, xA, xB, xD, List.map_cons, List.map_nil]; rfl)) <;>
    (apply lpure rfl rfl; (go_simp; with_reducible rfl); (simp only [nP, nT, nZ, nS, xA, xB, xD, List.map_cons, List.map_nil]; rfl)) <;>
    (apply HF.lone rfl rfl rfl O3_ rfl; (repeat (first | exact At.head | apply At.tail)); rfl; (simp only [nP, nT, nZ, nS, xA, xB, xD, List.map_cons, List.map_nil]; rfl)) <;>
    (apply lpure rfl rfl; (go_simp; with_reducible rfl); (simp only [nP, nT, nZ, nS, xA, xB, xD, List.map_cons, List.map_nil]; rfl)) <;>
    (apply HF.lone rfl rfl rfl O3_ rfl; (repeat (first | exact At.head | apply At.tail)); rfl; (simp only [nP, nT, nZ, nS, xA, xB, xD, List.map_cons, List.map_nil]; rfl)) <;>
    (apply lpure rfl rfl; (go_simp; with_reducible rfl); (simp only [nP, nT, nZ, nS, xA, xB, xD, List.map_cons, List.map_nil]; rfl)) <;>
    (apply HF.lone rfl rfl rfl O3_ rfl; (repeat (first | exact At.head | apply At.tail)); rfl; (simp only [nP, nT, nZ, nS, xA, xB, xD, List.map_cons, List.map_nil]; rfl)) <;>
    (apply lpure rfl rfl; (go_simp; with_reducible rfl); (simp only [nP, nT, nZ, nS, xA, xB, xD, List.map_cons, List.map_nil]; rfl)) <;>
    (apply HF.lone rfl rfl rfl O22_ rfl; (repeat (first | exact At.head | apply At.tail)); rfl; (simp only [nP, nT, nZ, nS, xA, xB, xD, List.map_cons, List.map_nil]; rfl)) <;>
    (apply lpure rfl rfl; (go_simp; with_reducible rfl); (simp only [nP, nT, nZ, nS, xA, xB, xD, List.map_cons, List.map_nil]; rfl)) <;>
    (apply HF.lbuild rfl rfl; (go_simp; first | exact ⟨rfl, rfl⟩ | exact ⟨rfl, rfl, rfl⟩ | rfl); clear HF; intro g_ w_ hg_ hb_ hh_ HF; (try simp only [i64_w] at hh_); (try clear HL_); have HL_ := Aside0.mk hh_; clear hg_ hh_ hb_; (refine lnorm (a' := ?_) ?_ ?_; rotate_left; (simp only [nP, nT, nZ, nS, xA, xB, xD, List.map_cons, List.map_nil]; rfl))) <;>
    ((with_reducible have h_ := bE HH); clear HH; obtain ⟨_, A_, h_⟩ := h_; have HH := Aside0.mk h_; clear h_; replace A_ := Aside0.mk A_; apply lcall rfl rfl rfl Try.func114 (by kernel_rfl) rfl; (with_reducible apply Calls.mono); (with_reducible apply impl_areZero.calls (A0 := some ⟨g_, 0, none⟩) (c0 := 11) (h := A_.out)); exact bytesC (k := .i64) (xs := [_, _, _, _, _, _, _, _, _, _, _]) HL_.out (by simp); exact Nat.le_refl _; rintro e w_ ⟨rfl, hb_⟩; refine ⟨_, rfl, ?_⟩; replace HF := HF.drawn hb_; clear hb_; rotate_left; (first | rfl | (simp only [mT, mC, mN]; first | done | rfl)); clear A_; (refine lnorm (a' := ?_) ?_ ?_; rotate_left; (simp only [nP, nT, nZ, nS, xA, xB, xD, List.map_cons, List.map_nil]; rfl))) <;>
    (repeat' (first | ((with_reducible have h_ := iW HH); clear HH; rcases h_ with ⟨c_, h_⟩ | ⟨c_, h_⟩ <;> (have HH := Aside0.mk h_; clear h_; first | (with_reducible exact (none_ne HH.out).elim) | (replace HP := Aside0.mk (And.intro c_ HP.out); first | (replace c_ := kT c_; subst c_) | (replace c_ := kF c_; subst c_) | (replace c_ := kE c_; subst c_) | (replace c_ := kT c_; try have := kN c_) | (replace c_ := kF c_) | (have := kA c_; have := kB c_; clear c_) | (have := kC c_; have := kD c_; clear c_) | (have := kL c_; clear c_) | (have := kS c_; clear c_) | (have := kM c_; clear c_) | (have := kU c_; clear c_)))) | (with_reducible exact (none_ne HH.out).elim) | (with_reducible exact (ft_ne HH.out).elim) | fail)) <;>
    (apply lpure rfl rfl; (go_simp; with_reducible rfl); (simp only [nP, nT, nZ, nS, xA, xB, xD, List.map_cons, List.map_nil]; rfl)) <;>
    (first | (apply lpure rfl rfl; (go_simp; with_reducible rfl); (simp only [nP, nT, nZ, nS, xA, xB, xD, List.map_cons, List.map_nil]; rfl)) | (apply loff rfl rfl; (simp only [nP, nT, nZ, nS, xA, xB, xD, List.map_cons, List.map_nil]; rfl))) <;>
    (first | (apply HF.lone rfl rfl rfl O4_ rfl; (repeat (first | exact At.head | apply At.tail)); rfl; (simp only [nP, nT, nZ, nS, xA, xB, xD, List.map_cons, List.map_nil]; rfl)) | (apply loff rfl rfl; (simp only [nP, nT, nZ, nS, xA, xB, xD, List.map_cons, List.map_nil]; rfl))) <;>
    (first | (apply lpure rfl rfl; (go_simp; with_reducible rfl); (simp only [nP, nT, nZ, nS, xA, xB, xD, List.map_cons, List.map_nil]; rfl)) | (apply loff rfl rfl; (simp only [nP, nT, nZ, nS, xA, xB, xD, List.map_cons, List.map_nil]; rfl))) <;>
    (apply lpure rfl rfl; (go_simp; with_reducible rfl); (simp only [nP, nT, nZ, nS, xA, xB, xD, List.map_cons, List.map_nil]; rfl)) <;>
    (apply lpure rfl rfl; (go_simp; with_reducible rfl); (simp only [nP, nT, nZ, nS, xA, xB, xD, List.map_cons, List.map_nil]; rfl)) <;>
    (apply lend)))
    | go_step | fail))
 all_goals ((first | (obtain rfl := Option.some.inj HH.out) | skip); go_ret; exact ⟨by first | rfl | (simp [errW_none, errW_some] <;> rfl) | (simp [*, errW_none, errW_some] <;> rfl), HF.below⟩)

end Go.Proofs.Ytdbiejkaplndgaa.FFnExactUpperRead
