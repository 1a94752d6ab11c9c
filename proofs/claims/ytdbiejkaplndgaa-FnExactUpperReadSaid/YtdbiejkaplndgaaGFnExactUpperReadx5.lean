-- Functions and their contracts, written by a program of this claim (wip/tools/oprint.py) out of the translation.
import Derived.Test.YtdbiejkaplndgaaGFnExactUpperReadx0
import Derived.Test.YtdbiejkaplndgaaVFnExactUpperRead
import Derived.Test.YtdbiejkaplndgaaGFnExactUpperReadx1
import Derived.Test.YtdbiejkaplndgaaGFnExactUpperReadx2
import Derived.Test.YtdbiejkaplndgaaGFnExactUpperReadx4
namespace Go.Proofs.Ytdbiejkaplndgaa.FFnExactUpperRead
open Go.RowKit Go.Proofs.YtdbiejkaplndgaaW.PrintWords Go.Proofs.YtdbiejkaplndgaaW.PrintLast Go.Proofs.YtdbiejkaplndgaaW.PrintMore Go.Proofs.Ytdbiejkaplndgaa.Frame
attribute [local go_sem] max2_int min2_int max_two min_two max_three min_three max_four min_four   -- for this text's walks alone
set_option linter.unusedVariables false
set_option linter.unusedSimpArgs false

/-! ### spec_OnesSum: function 101 -/
def spec_OnesSum.l0 : Nat → List Int → Int → Int → Option (Int)
 | 0, _, _, _ => none
 | k + 1, x0, x3, x4 => if x4 < (x0.length : Int) then (if 0 ≤ x4 then (if (wrap64 (x4 + 1)) < (x0.length : Int) then (if 0 ≤ (wrap64 (x4 + 1)) then ((spec_SumAdd.f x3 (wrap64 ((wrap64 (256 * (wrap64 (rd x0 x4)))) + (wrap64 (rd x0 (wrap64 (x4 + 1))))))).bind fun t283 => (spec_OnesSum.l0 k x0 t283 (wrap64 (x4 + 2)))) else (none)) else ((spec_SumAdd.f x3 (wrap64 (256 * (wrap64 (rd x0 x4))))).bind fun t284 => (spec_OnesSum.l0 k x0 t284 (wrap64 (x4 + 2))))) else (none)) else (some x3)
def spec_OnesSum.f (k : Nat) (l0 : List Int) : Option (Int) := if (l0.length : Int) > 2000 then (some (-1)) else (spec_OnesSum.l0 k l0 0 0)
theorem spec_OnesSum.mono_l : ∀ k, (∀ y0 y1 y2, LeO (spec_OnesSum.l0 k y0 y1 y2) (spec_OnesSum.l0 (k + 1) y0 y1 y2))
 | 0 => fun _ _ _ r h => by simp [spec_OnesSum.l0] at h
 | k + 1 => by
  have ih0 := spec_OnesSum.mono_l k
  ·intro y0 y1 y2
   unfold spec_OnesSum.l0
   repeat' first
   | (with_reducible exact ih0 _ _ _)
   | (with_reducible exact LeO.refl _)
   | (with_reducible exact LeO.none _)
   | (with_reducible refine LeO.ite ?_ ?_)
   | (with_reducible refine LeO.bind ?_ (fun _ => ?_))
   | exact ih0 _ _ _
   | exact LeO.none _
   | refine LeO.ite ?_ ?_
   | refine LeO.bind ?_ (fun _ => ?_)
theorem spec_OnesSum.mono : ∀ a0 k, LeO (spec_OnesSum.f k a0) (spec_OnesSum.f (k + 1) a0) := by
 intro a0 k
 have ih0 := spec_OnesSum.mono_l k
 unfold spec_OnesSum.f
 repeat' first
   | (with_reducible exact ih0 _ _ _)
   | (with_reducible exact LeO.refl _)
   | (with_reducible exact LeO.none _)
   | (with_reducible refine LeO.ite ?_ ?_)
   | (with_reducible refine LeO.bind ?_ (fun _ => ?_))
   | exact ih0 _ _ _
   | exact LeO.none _
   | refine LeO.ite ?_ ?_
   | refine LeO.bind ?_ (fun _ => ?_)
set_option maxHeartbeats 8000000 in
set_option maxRecDepth 100000 in
theorem spec_OnesSum.calls (k : Nat) (A0 : Option Addr) (c0 : Nat) (l0 : List Int) (r : Int) (w : World) (hr0 : Kd.C (Kd.int .u8) w A0 l0.length l0) (hc0 : l0.length ≤ c0) (h : spec_OnesSum.f k l0 = some r) :
  Calls Try.prog 101 #[.slice A0 l0.length c0] w fun e w' => e = .returned (.int .i64 r) ∧ Drawn0 w w' := by
 have HR0 := Aside0.mk hr0
 have HC0 := Aside0.mk hc0
 clear hr0 hc0
 have H : (if (l0.length : Int) > 2000 then (some (-1)) else (spec_OnesSum.l0 k l0 0 0)) = some r := h
 clear h
 by_cases c2 : (l0.length : Int) > 2000
 ·rw [if_pos c2] at H
  have c2b0 : decide (2000 < (l0.length : Int)) = true := decide_eq_true c2
  have c2b1 : decide (2000 < l0.length) = true := decide_eq_true (by omega)
  clear c2
  obtain rfl := Option.some.inj H
  go_enter Try.func101, Try.ntmps101
  go_wp2
  go_ret
  exact ⟨by first | rfl | (simp; done) | (simp [*]; done), by repeat (first | exact Drawn0.refl _ | apply Drawn0.step)⟩
 ·rw [if_neg c2] at H
  have c2b0 : decide (2000 < (l0.length : Int)) = false := decide_eq_false c2
  have c2b1 : decide (2000 < l0.length) = false := decide_eq_false (by omega)
  clear c2
  have H' := Aside0.mk H
  clear H
  go_enter Try.func101, Try.ntmps101
  go_wp2
  go_loopg [3, 4] k (fun kq v3 v4 w' => ∃ (x3_1 : Int) (x4_1 : Int), v3 = .int .i64 x3_1 ∧ v4 = .int .i64 x4_1 ∧ Aside0 (spec_OnesSum.l0 kq l0 x3_1 x4_1 = some r) ∧ Aside0 (kq ≤ k) ∧ Drawn0 w w')
  case atStart => exact ⟨(0), (0), (by first | rfl | (simp; done) | (simp [*]; done)), (by first | rfl | (simp; done) | (simp [*]; done)), H', ⟨Nat.le_refl _⟩, by repeat (first | exact Drawn0.refl _ | apply Drawn0.step)⟩
  case round =>
   clear H'
   try clear c1
   try clear c2
   try clear c2b0
   try clear c2b1
   try clear p2
   obtain ⟨x3_1, x4_1, rfl, rfl, HA, HK1, ⟨m1, rfl⟩⟩ := hrel
   cases gk with
   | zero => exact absurd HA.out (by simp [spec_OnesSum.l0])
   | succ k1 =>
    have H := HA.out
    clear HA
    simp only [spec_OnesSum.l0] at H
    by_cases c3 : x4_1 < (l0.length : Int)
    ·rw [if_pos c3] at H
     have c3b0 : decide (x4_1 < (l0.length : Int)) = true := decide_eq_true c3
     clear c3
     by_cases c4 : 0 ≤ x4_1
     ·rw [if_pos c4] at H
      have c4b0 : decide (0 ≤ x4_1) = true := decide_eq_true c4
      clear c4
      by_cases c5 : (wrap64 (x4_1 + 1)) < (l0.length : Int)
      ·rw [if_pos c5] at H
       have c5b0 : decide ((wrap64 (x4_1 + 1)) < (l0.length : Int)) = true := decide_eq_true c5
       clear c5
       obtain ⟨ji6, hji6⟩ : ∃ j_ : Int, (wrap64 (x4_1 + 1)) = j_ := ⟨_, rfl⟩
       replace H : (if 0 ≤ (ji6) then ((spec_SumAdd.f x3_1 (wrap64 ((wrap64 (256 * (wrap64 (rd l0 x4_1)))) + (wrap64 (rd l0 (ji6)))))).bind fun t283 => (spec_OnesSum.l0 k1 l0 t283 (wrap64 (x4_1 + 2)))) else (none)) = some r := by first | (rw [hji6] at H; exact H) | (simp only [hji6] at H ⊢; exact H)
       (try rw [hji6] at c5b0)
       have hji6w : (IntKind.i64.wrap (x4_1 + 1)) = ji6 := (i64_w _).trans hji6
       by_cases c7 : 0 ≤ (ji6)
       ·rw [if_pos c7] at H
        have c7b0 : decide (0 ≤ (ji6)) = true := decide_eq_true c7
        clear c7
        replace H := Option.bind_eq_some_iff.mp H
        obtain ⟨t283, A80, H⟩ := H
        replace H : (spec_OnesSum.l0 k1 l0 t283 (wrap64 (x4_1 + 2))) = some r := H
        have A8 := Aside0.mk A80
        clear A80
        have H' := Aside0.mk H
        clear H
        have p281 : 0 ≤ (x4_1 : Int) := of_decide_eq_true (by first | (with_reducible assumption) | assumption)
        have q281 : x4_1 < (l0.length : Int) := of_decide_eq_true (by first | (with_reducible assumption) | assumption)
        obtain ⟨ad281, e281, hx281_0⟩ := Kd.at_int HR0.out x4_1 p281 q281
        cases e281
        replace p281 := eq_true p281
        replace q281 := eq_true q281
        have p282 : 0 ≤ ((ji6) : Int) := of_decide_eq_true (by first | (with_reducible assumption) | assumption)
        have q282 : (ji6) < (l0.length : Int) := of_decide_eq_true (by first | (with_reducible assumption) | assumption)
        obtain ⟨ad282, e282, hx282_0⟩ := Kd.at_int HR0.out (ji6) p282 q282
        obtain rfl : ad281 = ad282 := (by injection e282)
        replace p282 := eq_true p282
        replace q282 := eq_true q282
        go_wp2_with (first | ((with_reducible refine gate_callee (f := 100) rfl ?_); refine goesL_ (some 36) rfl rfl Try.func100 (by kernel_rfl) rfl #[.int .i64 x3_1, .int .i64 (wrap64 ((wrap64 (256 * (wrap64 (rd l0 x4_1)))) + (wrap64 (rd l0 (ji6)))))] rfl (by (try simp only [List.map_toArray, List.map_cons, List.map_nil]); first | done | (simp only [hji6]; rfl) | rfl | (simp only [List.length_drop, List.length_take]; rfl)) ?_; (with_reducible refine (spec_SumAdd.calls x3_1 (wrap64 ((wrap64 (256 * (wrap64 (rd l0 x4_1)))) + (wrap64 (rd l0 (ji6))))) t283 _ A8.out).mono ?_); rintro e w' ⟨rfl, ⟨nd, rfl⟩⟩; refine ⟨_, rfl, ?_⟩))
        go_roundg k1
        case measure => have := HK1.out; omega
        case rel => exact ⟨(t283), (wrap64 (x4_1 + 2)), (by first | rfl | (simp; done) | (simp [*]; done)), (by first | rfl | (simp; done) | (simp [*]; done)), H', ⟨by have := HK1.out; omega⟩, by repeat (first | exact Drawn0.refl _ | apply Drawn0.step)⟩
       ·rw [if_neg c7] at H
        exact absurd H (by simp)
      ·rw [if_neg c5] at H
       have c5b0 : decide ((wrap64 (x4_1 + 1)) < (l0.length : Int)) = false := decide_eq_false c5
       clear c5
       replace H := Option.bind_eq_some_iff.mp H
       obtain ⟨t284, A90, H⟩ := H
       replace H : (spec_OnesSum.l0 k1 l0 t284 (wrap64 (x4_1 + 2))) = some r := H
       have A9 := Aside0.mk A90
       clear A90
       have H' := Aside0.mk H
       clear H
       have p281 : 0 ≤ (x4_1 : Int) := of_decide_eq_true (by first | (with_reducible assumption) | assumption)
       have q281 : x4_1 < (l0.length : Int) := of_decide_eq_true (by first | (with_reducible assumption) | assumption)
       obtain ⟨ad281, e281, hx281_0⟩ := Kd.at_int HR0.out x4_1 p281 q281
       cases e281
       replace p281 := eq_true p281
       replace q281 := eq_true q281
       go_wp2_with (first | ((with_reducible refine gate_callee (f := 100) rfl ?_); refine goesL_ (some 36) rfl rfl Try.func100 (by kernel_rfl) rfl #[.int .i64 x3_1, .int .i64 (wrap64 (256 * (wrap64 (rd l0 x4_1))))] rfl (by (try simp only [List.map_toArray, List.map_cons, List.map_nil]); first | done | rfl | (simp only [List.length_drop, List.length_take]; rfl)) ?_; (with_reducible refine (spec_SumAdd.calls x3_1 (wrap64 (256 * (wrap64 (rd l0 x4_1)))) t284 _ A9.out).mono ?_); rintro e w' ⟨rfl, ⟨nd, rfl⟩⟩; refine ⟨_, rfl, ?_⟩))
       go_roundg k1
       case measure => have := HK1.out; omega
       case rel => exact ⟨(t284), (wrap64 (x4_1 + 2)), (by first | rfl | (simp; done) | (simp [*]; done)), (by first | rfl | (simp; done) | (simp [*]; done)), H', ⟨by have := HK1.out; omega⟩, by repeat (first | exact Drawn0.refl _ | apply Drawn0.step)⟩
     ·rw [if_neg c4] at H
      exact absurd H (by simp)
    ·rw [if_neg c3] at H
     have c3b0 : decide (x4_1 < (l0.length : Int)) = false := decide_eq_false c3
     clear c3
     obtain rfl := Option.some.inj H
     go_wp2
     go_ret
     exact ⟨by first | rfl | (simp; done) | (simp [*]; done), by repeat (first | exact Drawn0.refl _ | apply Drawn0.step)⟩

/-! ### spec_PseudoSum: function 98 -/
def spec_PseudoSum.f (k : Nat) (a0_0 : Int) (a0_1 : Int) (a0_2 : Int) (a0_3 : Int) (a0_4 : Int) (a1_0 : Int) (a1_1 : Int) (a1_2 : Int) (a1_3 : Int) (a1_4 : Int) (a2 : Int) (a3 : Int) : Option (Int) := (spec_l07Pair.f a0_0 a0_1 a0_2 a0_3 a0_4 a1_0 a1_1 a1_2 a1_3 a1_4).bind fun t287 => (if t287 = true then ((spec_l05In.f a2 255).bind fun t288 => (if t288 = true then ((spec_l05In.f a3 1500).bind fun t289 => (if t289 = true then ((spec_AddrBytes.f a0_0 a0_1 a0_2 a0_3 a0_4).bind fun t290 => ((spec_AddrBytes.f a1_0 a1_1 a1_2 a1_3 a1_4).bind fun t293 => (if t290.length + t293.length < 140737488355328 then ((some (t290 ++ t293 : List Int)).bind fun y296 => (if a0_0 = 4 then ((some (([0, (a2) % 256] : List Int) : List Int)).bind fun y299 => (if y296.length + y299.length < 140737488355328 then ((some (y296 ++ y299 : List Int)).bind fun y302 => ((spec_Put16.f a3).bind fun t305 => (if y302.length + t305.length < 140737488355328 then ((spec_OnesSum.f k (y302 ++ t305)).bind fun t311 => (some t311)) else (none)))) else (none))) else ((spec_Put32.f a3).bind fun t312 => (if y296.length + t312.length < 140737488355328 then ((some (y296 ++ t312 : List Int)).bind fun y315 => ((some (([0, 0, 0, (a2) % 256] : List Int) : List Int)).bind fun y318 => (if y315.length + y318.length < 140737488355328 then ((spec_OnesSum.f k (y315 ++ y318)).bind fun t324 => (some t324)) else (none)))) else (none))))) else (none)))) else (some (-1)))) else (some (-1)))) else (some (-1)))
theorem spec_PseudoSum.mono : ∀ a0 a1 a2 a3 a4 a5 a6 a7 a8 a9 a10 a11 k, LeO (spec_PseudoSum.f k a0 a1 a2 a3 a4 a5 a6 a7 a8 a9 a10 a11) (spec_PseudoSum.f (k + 1) a0 a1 a2 a3 a4 a5 a6 a7 a8 a9 a10 a11) := by
 intro a0 a1 a2 a3 a4 a5 a6 a7 a8 a9 a10 a11 k
 unfold spec_PseudoSum.f
 repeat' first
   | (with_reducible exact spec_OnesSum.mono _ _)
   | (with_reducible exact LeO.refl _)
   | (with_reducible exact LeO.none _)
   | (with_reducible refine LeO.ite ?_ ?_)
   | (with_reducible refine LeO.bind ?_ (fun _ => ?_))
   | exact spec_OnesSum.mono _ _
   | exact LeO.none _
   | refine LeO.ite ?_ ?_
   | refine LeO.bind ?_ (fun _ => ?_)
set_option maxHeartbeats 8000000 in
set_option maxRecDepth 100000 in
theorem spec_PseudoSum.calls (k : Nat) (a0_0 : Int) (a0_1 : Int) (a0_2 : Int) (a0_3 : Int) (a0_4 : Int) (a1_0 : Int) (a1_1 : Int) (a1_2 : Int) (a1_3 : Int) (a1_4 : Int) (a2 : Int) (a3 : Int) (r : Int) (w : World) (h : spec_PseudoSum.f k a0_0 a0_1 a0_2 a0_3 a0_4 a1_0 a1_1 a1_2 a1_3 a1_4 a2 a3 = some r) :
  Calls Try.prog 98 #[.agg #[.int .i64 a0_0, .int .i64 a0_1, .int .i64 a0_2, .int .i64 a0_3, .int .i64 a0_4], .agg #[.int .i64 a1_0, .int .i64 a1_1, .int .i64 a1_2, .int .i64 a1_3, .int .i64 a1_4], .int .i64 a2, .int .i64 a3] w fun e w' => e = .returned (.int .i64 r) ∧ Below w.heap.size w w' := by
 have hu22 := Try.underlying22
 have hu24 := Try.underlying24
 have info5_ : (Try.prog.info? 5).map (fun i => (i.zero, i.size, i.bytes)) = some (some (.int .u8 0), 1, 1) := by kernel_rfl
 have O3_ : IsOne Try.prog 3 := ⟨⟨_, Try.underlying3, rfl⟩, by kernel_rfl⟩
 have R24_ : IsRow Try.prog 24 5 := ⟨⟨_, Try.underlying24, rfl⟩, by kernel_rfl⟩
 have HF := Fr.start [24] w
 have HP := Aside0.mk True.intro
 unfold spec_PseudoSum.f at h
 have HH := Aside0.mk h
 clear h
 go_enter Try.func98, Try.ntmps98
 repeat' (first | ((with_reducible have h_ := iW HH); clear HH; rcases h_ with ⟨c_, h_⟩ | ⟨c_, h_⟩ <;> (have HH := Aside0.mk h_; clear h_; first | (with_reducible exact (none_ne HH.out).elim) | (replace HP := Aside0.mk (And.intro c_ HP.out); first | (replace c_ := kT c_; subst c_) | (replace c_ := kF c_; subst c_) | (replace c_ := kE c_; subst c_) | (replace c_ := kT c_; try have := kN c_) | (replace c_ := kF c_) | (have := kA c_; have := kB c_; clear c_) | (have := kC c_; have := kD c_; clear c_) | (have := kL c_; clear c_) | (have := kS c_; clear c_) | (have := kM c_; clear c_) | (have := kU c_; clear c_)))) | (with_reducible exact (none_ne HH.out).elim) | (with_reducible exact (ft_ne HH.out).elim) | fail)
 all_goals (repeat' (first
    | (((with_reducible refine gate_region (id := 0) ?_); apply plain_region) <;>
    ((with_reducible apply Fr.lbox HF rfl rfl rfl); (go_simp; rfl); decide; clear HF; intro g_ w_ HF; (refine lnorm (a' := ?_) ?_ ?_; rotate_left; (simp only [nP, nT, nZ, nS, xA, xB, xC, xD, Int.reduceToNat]; rfl))) <;>
    ((with_reducible apply Fr.lbox HF rfl rfl rfl); (go_simp; rfl); decide; clear HF; intro g_ w_ HF; (refine lnorm (a' := ?_) ?_ ?_; rotate_left; (simp only [nP, nT, nZ, nS, xA, xB, xC, xD, Int.reduceToNat]; rfl))) <;>
    (apply lpure rfl rfl; (go_simp; with_reducible rfl); (simp only [nP, nT, nZ, nS, xA, xB, xC, xD, Int.reduceToNat]; rfl)) <;>
    (apply lend))
    | (((with_reducible refine gate_region (id := 1) ?_); apply plain_region) <;>
    (apply HF.lrow rfl rfl rfl R24_ rfl; (repeat (first | exact At.head | apply At.tail)); (simp only [List.drop_succ_cons, List.drop_zero, List.take_succ_cons, List.take_zero]; rfl); rfl; (simp only [nP, nT, nZ, nS, xA, xB, xC, xD, Int.reduceToNat]; rfl)) <;>
    (apply HF.lrow rfl rfl rfl R24_ rfl; (repeat (first | exact At.head | apply At.tail)); (simp only [List.drop_succ_cons, List.drop_zero, List.take_succ_cons, List.take_zero]; rfl); rfl; (simp only [nP, nT, nZ, nS, xA, xB, xC, xD, Int.reduceToNat]; rfl)) <;>
    ((with_reducible have h_ := bE HH); clear HH; obtain ⟨_, A_, h_⟩ := h_; (try dsimp only at h_); have HH := Aside0.mk h_; clear h_; have A12_ := Aside0.mk A_; clear A_) <;>
    (repeat' (first | ((with_reducible have h_ := iW HH); clear HH; rcases h_ with ⟨c_, h_⟩ | ⟨c_, h_⟩ <;> (have HH := Aside0.mk h_; clear h_; first | (with_reducible exact (none_ne HH.out).elim) | (replace HP := Aside0.mk (And.intro c_ HP.out); first | (replace c_ := kT c_; subst c_) | (replace c_ := kF c_; subst c_) | (replace c_ := kE c_; subst c_) | (replace c_ := kT c_; try have := kN c_) | (replace c_ := kF c_) | (have := kA c_; have := kB c_; clear c_) | (have := kC c_; have := kD c_; clear c_) | (have := kL c_; clear c_) | (have := kS c_; clear c_) | (have := kM c_; clear c_) | (have := kU c_; clear c_)))) | (with_reducible exact (none_ne HH.out).elim) | (with_reducible exact (ft_ne HH.out).elim) | fail)) <;>
    (apply lcall rfl rfl rfl Try.func71 (by kernel_rfl) rfl; (with_reducible apply Calls.mono); (with_reducible apply spec_l07Pair.calls (h := A12_.out)); rintro e w_ ⟨rfl, hb_⟩; refine ⟨_, rfl, ?_⟩; replace HF := HF.call hb_; clear hb_; rotate_left; (first | rfl | (simp only [mT, mC, mN]; first | done | rfl)); clear A12_; (refine lnorm (a' := ?_) ?_ ?_; rotate_left; (simp only [nP, nT, nZ, nS, xA, xB, xC, xD, Int.reduceToNat]; rfl))) <;>
    (apply lpure rfl rfl; (go_simp; with_reducible rfl); (simp only [nP, nT, nZ, nS, xA, xB, xC, xD, Int.reduceToNat]; rfl)) <;>
    (apply lpure rfl rfl; (go_simp; with_reducible rfl); (simp only [nP, nT, nZ, nS, xA, xB, xC, xD, Int.reduceToNat]; rfl)) <;>
    (first | ((apply lpure rfl rfl; (go_simp; with_reducible rfl); (simp only [nP, nT, nZ, nS, xA, xB, xC, xD, Int.reduceToNat]; rfl))) | (apply loff rfl rfl; (simp only [nP, nT, nZ, nS, xA, xB, xC, xD, Int.reduceToNat]; rfl))) <;>
    (first | (((with_reducible have h_ := bE HH); clear HH; obtain ⟨_, A_, h_⟩ := h_; (try dsimp only at h_); have HH := Aside0.mk h_; clear h_; have A16_ := Aside0.mk A_; clear A_) <;> (repeat' (first | ((with_reducible have h_ := iW HH); clear HH; rcases h_ with ⟨c_, h_⟩ | ⟨c_, h_⟩ <;> (have HH := Aside0.mk h_; clear h_; first | (with_reducible exact (none_ne HH.out).elim) | (replace HP := Aside0.mk (And.intro c_ HP.out); first | (replace c_ := kT c_; subst c_) | (replace c_ := kF c_; subst c_) | (replace c_ := kE c_; subst c_) | (replace c_ := kT c_; try have := kN c_) | (replace c_ := kF c_) | (have := kA c_; have := kB c_; clear c_) | (have := kC c_; have := kD c_; clear c_) | (have := kL c_; clear c_) | (have := kS c_; clear c_) | (have := kM c_; clear c_) | (have := kU c_; clear c_)))) | (with_reducible exact (none_ne HH.out).elim) | (with_reducible exact (ft_ne HH.out).elim) | fail)) <;> (apply lcall rfl rfl rfl Try.func72 (by kernel_rfl) rfl; (with_reducible apply Calls.mono); (with_reducible apply spec_l05In.calls (h := A16_.out)); rintro e w_ ⟨rfl, hb_⟩; refine ⟨_, rfl, ?_⟩; replace HF := HF.drawn hb_; clear hb_; rotate_left; (first | rfl | (simp only [mT, mC, mN]; first | done | rfl)); clear A16_; (refine lnorm (a' := ?_) ?_ ?_; rotate_left; (simp only [nP, nT, nZ, nS, xA, xB, xC, xD, Int.reduceToNat]; rfl)))) | (apply loff rfl rfl; (simp only [nP, nT, nZ, nS, xA, xB, xC, xD, Int.reduceToNat]; rfl))) <;>
    (first | ((apply lpure rfl rfl; (go_simp; with_reducible rfl); (simp only [nP, nT, nZ, nS, xA, xB, xC, xD, Int.reduceToNat]; rfl))) | (apply loff rfl rfl; (simp only [nP, nT, nZ, nS, xA, xB, xC, xD, Int.reduceToNat]; rfl))) <;>
    (apply lpure rfl rfl; (go_simp; with_reducible rfl); (simp only [nP, nT, nZ, nS, xA, xB, xC, xD, Int.reduceToNat]; rfl)) <;>
    (apply lpure rfl rfl; (go_simp; with_reducible rfl); (simp only [nP, nT, nZ, nS, xA, xB, xC, xD, Int.reduceToNat]; rfl)) <;>
    (first | ((apply lpure rfl rfl; (go_simp; with_reducible rfl); (simp only [nP, nT, nZ, nS, xA, xB, xC, xD, Int.reduceToNat]; rfl))) | (apply loff rfl rfl; (simp only [nP, nT, nZ, nS, xA, xB, xC, xD, Int.reduceToNat]; rfl))) <;>
    (first | (((with_reducible have h_ := bE HH); clear HH; obtain ⟨_, A_, h_⟩ := h_; (try dsimp only at h_); have HH := Aside0.mk h_; clear h_; have A21_ := Aside0.mk A_; clear A_) <;> (repeat' (first | ((with_reducible have h_ := iW HH); clear HH; rcases h_ with ⟨c_, h_⟩ | ⟨c_, h_⟩ <;> (have HH := Aside0.mk h_; clear h_; first | (with_reducible exact (none_ne HH.out).elim) | (replace HP := Aside0.mk (And.intro c_ HP.out); first | (replace c_ := kT c_; subst c_) | (replace c_ := kF c_; subst c_) | (replace c_ := kE c_; subst c_) | (replace c_ := kT c_; try have := kN c_) | (replace c_ := kF c_) | (have := kA c_; have := kB c_; clear c_) | (have := kC c_; have := kD c_; clear c_) | (have := kL c_; clear c_) | (have := kS c_; clear c_) | (have := kM c_; clear c_) | (have := kU c_; clear c_)))) | (with_reducible exact (none_ne HH.out).elim) | (with_reducible exact (ft_ne HH.out).elim) | fail)) <;> (apply lcall rfl rfl rfl Try.func72 (by kernel_rfl) rfl; (with_reducible apply Calls.mono); (with_reducible apply spec_l05In.calls (h := A21_.out)); rintro e w_ ⟨rfl, hb_⟩; refine ⟨_, rfl, ?_⟩; replace HF := HF.drawn hb_; clear hb_; rotate_left; (first | rfl | (simp only [mT, mC, mN]; first | done | rfl)); clear A21_; (refine lnorm (a' := ?_) ?_ ?_; rotate_left; (simp only [nP, nT, nZ, nS, xA, xB, xC, xD, Int.reduceToNat]; rfl)))) | (apply loff rfl rfl; (simp only [nP, nT, nZ, nS, xA, xB, xC, xD, Int.reduceToNat]; rfl))) <;>
    (first | ((apply lpure rfl rfl; (go_simp; with_reducible rfl); (simp only [nP, nT, nZ, nS, xA, xB, xC, xD, Int.reduceToNat]; rfl))) | (apply loff rfl rfl; (simp only [nP, nT, nZ, nS, xA, xB, xC, xD, Int.reduceToNat]; rfl))) <;>
    (apply lpure rfl rfl; (go_simp; with_reducible rfl); (simp only [nP, nT, nZ, nS, xA, xB, xC, xD, Int.reduceToNat]; rfl)) <;>
    (apply lend))
    | (((with_reducible refine gate_region (id := 2) ?_); apply plain_region) <;>
    (apply lpure rfl rfl; (go_simp; with_reducible rfl); (simp only [nP, nT, nZ, nS, xA, xB, xC, xD, Int.reduceToNat]; rfl)) <;>
    (apply lend))
    | (((with_reducible refine gate_region (id := 3) ?_); have HG := HF; replace HF := HF.drop; refine HG.region2 HF (by kernel_rfl) rfl ?_; clear HF HG; intro w_ HF HG) <;>
    (repeat' (first | ((with_reducible have h_ := iW HH); clear HH; rcases h_ with ⟨c_, h_⟩ | ⟨c_, h_⟩ <;> (have HH := Aside0.mk h_; clear h_; first | (with_reducible exact (none_ne HH.out).elim) | (replace HP := Aside0.mk (And.intro c_ HP.out); first | (replace c_ := kT c_; subst c_) | (replace c_ := kF c_; subst c_) | (replace c_ := kE c_; subst c_) | (replace c_ := kT c_; try have := kN c_) | (replace c_ := kF c_) | (have := kA c_; have := kB c_; clear c_) | (have := kC c_; have := kD c_; clear c_) | (have := kL c_; clear c_) | (have := kS c_; clear c_) | (have := kM c_; clear c_) | (have := kU c_; clear c_)))) | (with_reducible exact (none_ne HH.out).elim) | (with_reducible exact (ft_ne HH.out).elim) | fail)) <;>
    ((with_reducible have h_ := bE HH); clear HH; obtain ⟨_, A_, h_⟩ := h_; (try dsimp only at h_); have HH := Aside0.mk h_; clear h_; have A25_ := Aside0.mk A_; clear A_) <;>
    (repeat' (first | ((with_reducible have h_ := iW HH); clear HH; rcases h_ with ⟨c_, h_⟩ | ⟨c_, h_⟩ <;> (have HH := Aside0.mk h_; clear h_; first | (with_reducible exact (none_ne HH.out).elim) | (replace HP := Aside0.mk (And.intro c_ HP.out); first | (replace c_ := kT c_; subst c_) | (replace c_ := kF c_; subst c_) | (replace c_ := kE c_; subst c_) | (replace c_ := kT c_; try have := kN c_) | (replace c_ := kF c_) | (have := kA c_; have := kB c_; clear c_) | (have := kC c_; have := kD c_; clear c_) | (have := kL c_; clear c_) | (have := kS c_; clear c_) | (have := kM c_; clear c_) | (have := kU c_; clear c_)))) | (with_reducible exact (none_ne HH.out).elim) | (with_reducible exact (ft_ne HH.out).elim) | fail)) <;>
    ((with_reducible have h_ := bE HH); clear HH; obtain ⟨_, A_, h_⟩ := h_; (try dsimp only at h_); have HH := Aside0.mk h_; clear h_; have A27_ := Aside0.mk A_; clear A_) <;>
    (repeat' (first | ((with_reducible have h_ := iW HH); clear HH; rcases h_ with ⟨c_, h_⟩ | ⟨c_, h_⟩ <;> (have HH := Aside0.mk h_; clear h_; first | (with_reducible exact (none_ne HH.out).elim) | (replace HP := Aside0.mk (And.intro c_ HP.out); first | (replace c_ := kT c_; subst c_) | (replace c_ := kF c_; subst c_) | (replace c_ := kE c_; subst c_) | (replace c_ := kT c_; try have := kN c_) | (replace c_ := kF c_) | (have := kA c_; have := kB c_; clear c_) | (have := kC c_; have := kD c_; clear c_) | (have := kL c_; clear c_) | (have := kS c_; clear c_) | (have := kM c_; clear c_) | (have := kU c_; clear c_)))) | (with_reducible exact (none_ne HH.out).elim) | (with_reducible exact (ft_ne HH.out).elim) | fail)) <;>
    (first | ((with_reducible have h_ := bE HH); clear HH; obtain ⟨_, A_, h_⟩ := h_; have HH := Aside0.mk h_; clear h_; have E28_ := Aside0.mk (Option.some.inj A_); clear A_) | skip) <;>
    (repeat' (first | ((with_reducible have h_ := iW HH); clear HH; rcases h_ with ⟨c_, h_⟩ | ⟨c_, h_⟩ <;> (have HH := Aside0.mk h_; clear h_; first | (with_reducible exact (none_ne HH.out).elim) | (replace HP := Aside0.mk (And.intro c_ HP.out); first | (replace c_ := kT c_; subst c_) | (replace c_ := kF c_; subst c_) | (replace c_ := kE c_; subst c_) | (replace c_ := kT c_; try have := kN c_) | (replace c_ := kF c_) | (have := kA c_; have := kB c_; clear c_) | (have := kC c_; have := kD c_; clear c_) | (have := kL c_; clear c_) | (have := kS c_; clear c_) | (have := kM c_; clear c_) | (have := kU c_; clear c_)))) | (with_reducible exact (none_ne HH.out).elim) | (with_reducible exact (ft_ne HH.out).elim) | fail)) <;>
    (apply HF.rrow 0 rfl rfl rfl rfl (by kernel_rfl) (fun _ _ _ h => h) R24_ rfl; (repeat (first | exact At.head | apply At.tail)); (simp only [List.drop_succ_cons, List.drop_zero, List.take_succ_cons, List.take_zero]; rfl); rfl; (simp only [nP, nT, nZ, nS, xA, xB, xC, xD, Int.reduceToNat]; rfl)) <;>
    (apply HF.rrow 2 rfl rfl rfl rfl (by kernel_rfl) (fun _ _ _ h => h) R24_ rfl; (repeat (first | exact At.head | apply At.tail)); (simp only [List.drop_succ_cons, List.drop_zero, List.take_succ_cons, List.take_zero]; rfl); rfl; (simp only [nP, nT, nZ, nS, xA, xB, xC, xD, Int.reduceToNat]; rfl)) <;>
    (apply rcall 1 rfl rfl rfl rfl (by kernel_rfl) (by simp) Try.func55 (by kernel_rfl) rfl; (with_reducible apply Calls.mono); (with_reducible apply spec_AddrBytes.calls (h := A25_.out)); rintro e w_ ⟨v0_, rfl, hov0_, hb_⟩; obtain ⟨Av25_0, cv25_0, rfl⟩ := Kd.R_slice hov0_; have HO25_0 := HG.row2 hov0_; have HB25 := Aside0.mk hb_.size; clear hov0_; refine ⟨_, rfl, HF.call hb_, ?_⟩; replace HG := (HG.call hb_).mark; clear HF hb_; intro HF; rotate_left; (first | rfl | (simp only [mT, mC, mN]; first | done | rfl)); clear A25_; (refine norm_ (a' := ?_) ?_ ?_; rotate_left; (simp only [nP, nT, nZ, nS, xA, xB, xC, xD, Int.reduceToNat]; rfl))) <;>
    (apply rcall 3 rfl rfl rfl rfl (by kernel_rfl) (by simp) Try.func55 (by kernel_rfl) rfl; (with_reducible apply Calls.mono); (with_reducible apply spec_AddrBytes.calls (h := A27_.out)); have HS27 := HG.since; rintro e w_ ⟨v0_, rfl, hov0_, hb_⟩; obtain ⟨Av27_0, cv27_0, rfl⟩ := Kd.R_slice hov0_; have HO27_0 := HG.row2 hov0_; have HB27 := Aside0.mk hb_.size; clear hov0_; refine ⟨_, rfl, HF.call hb_, ?_⟩; replace HG := (HG.call hb_).mark; clear HF hb_; intro HF; rotate_left; (first | rfl | (simp only [mT, mC, mN]; first | done | rfl)); clear A27_; (refine norm_ (a' := ?_) ?_ ?_; rotate_left; (simp only [nP, nT, nZ, nS, xA, xB, xC, xD, Int.reduceToNat]; rfl))) <;>
    (apply ronto 4 rfl rfl (by kernel_rfl) (by simp); intro K_ hK_; refine run_append (k := .u8) HG rfl rfl rfl hu22 info5_ (by decide) rfl rfl (HG.row_now HO25_0.out (by simp) (by decide)) (by decide) (HG.rowC HO27_0 (by simp) (by decide)).1 (by first | omega | (have h_ := HP.out; omega) | (have h_ := HP.out; simp only [List.length_nil, List.length_cons] at h_; omega) | (have h_ := HP.out; simp only [List.length_nil, List.length_cons] at h_ ⊢; omega)) ?_; intro v_ w_ ho_ HF1; (first | (replace ho_ := R_cast ho_ E28_.out; clear E28_) | (obtain ⟨y_, ey_, ho_⟩ := R_name ho_; have EY28 := Aside0.mk ey_.symm; (try rw [ey_] at HH); clear ey_)); obtain ⟨Av28_0, cv28_0, rfl⟩ := Kd.R_slice ho_; have HO28_0 := Aside0.mk ho_; clear ho_; refine hK_ _ _ (HF1.part (by repeat (first | exact List.Sublist.slnil | apply List.Sublist.cons_cons | apply List.Sublist.cons)) (by intro M_ h_; cases h_)) (fun HF => ?_); clear HG; have HG := HF1; clear HF1 hK_; (refine norm_ (a' := ?_) ?_ ?_; rotate_left; (simp only [nP, nT, nZ, nS, xA, xB, xC, xD, Int.reduceToNat]; rfl))) <;>
    ((apply Fr.rpure 5 rfl rfl rfl (by kernel_rfl) (fun _ _ _ h => h); (intro w_; go_simp; with_reducible rfl); (simp only [nP, nT, nZ, nS, xA, xB, xC, xD, Int.reduceToNat]; rfl)); (try clear HO9_0); have HO9_0 := HO28_0) <;>
    (refine done_ (by kernel_rfl) ?_; clear HF; have HF := HG; clear HG))
    | (((with_reducible refine gate_region (id := 4) ?_); have k_ := HO25_0; clear k_; have k_ := HO27_0; clear k_; have k_ := HO28_0; clear k_; have k_ := HO9_0; clear k_; apply plain_region) <;>
    (apply lpure rfl rfl; (go_simp; with_reducible rfl); (simp only [nP, nT, nZ, nS, xA, xB, xC, xD, Int.reduceToNat]; rfl)) <;>
    (apply HF.lone rfl rfl rfl O3_ rfl; (repeat (first | exact At.head | apply At.tail)); rfl; (simp only [nP, nT, nZ, nS, xA, xB, xC, xD, Int.reduceToNat]; rfl)) <;>
    (apply lpure rfl rfl; (go_simp; with_reducible rfl); (simp only [nP, nT, nZ, nS, xA, xB, xC, xD, Int.reduceToNat]; rfl)) <;>
    (apply lend))
    | (((with_reducible refine gate_region (id := 5) ?_); have k_ := HO25_0; clear k_; have k_ := HO27_0; clear k_; have k_ := HO28_0; clear k_; have k_ := HO9_0; clear k_; apply plain_region) <;>
    (apply lpure rfl rfl; (go_simp; with_reducible rfl); (simp only [nP, nT, nZ, nS, xA, xB, xC, xD, Int.reduceToNat]; rfl)) <;>
    (apply lpure rfl rfl; (go_simp; with_reducible rfl); (simp only [nP, nT, nZ, nS, xA, xB, xC, xD, Int.reduceToNat]; rfl)) <;>
    (apply lpure rfl rfl; (go_simp; with_reducible rfl); (simp only [nP, nT, nZ, nS, xA, xB, xC, xD, Int.reduceToNat]; rfl)) <;>
    ((with_reducible have h_ := bE HH); clear HH; obtain ⟨_, A_, h_⟩ := h_; have HH := Aside0.mk h_; clear h_; obtain rfl := Option.some.inj A_; (try clear A_)) <;>
    (repeat' (first | ((with_reducible have h_ := iW HH); clear HH; rcases h_ with ⟨c_, h_⟩ | ⟨c_, h_⟩ <;> (have HH := Aside0.mk h_; clear h_; first | (with_reducible exact (none_ne HH.out).elim) | (replace HP := Aside0.mk (And.intro c_ HP.out); first | (replace c_ := kT c_; subst c_) | (replace c_ := kF c_; subst c_) | (replace c_ := kE c_; subst c_) | (replace c_ := kT c_; try have := kN c_) | (replace c_ := kF c_) | (have := kA c_; have := kB c_; clear c_) | (have := kC c_; have := kD c_; clear c_) | (have := kL c_; clear c_) | (have := kS c_; clear c_) | (have := kM c_; clear c_) | (have := kU c_; clear c_)))) | (with_reducible exact (none_ne HH.out).elim) | (with_reducible exact (ft_ne HH.out).elim) | fail)) <;>
    (apply HF.lbuild rfl rfl; (go_simp; first | exact ⟨rfl, rfl⟩ | exact ⟨rfl, rfl, rfl⟩ | rfl); clear HF; intro g_ w_ hg_ hb_ hh_ HF; replace HF := HF.mark; (try simp only [u8_wr, i64_w] at hh_); have HL35 := Aside0.mk hh_; clear hg_ hb_ hh_; (refine lnorm (a' := ?_) ?_ ?_; rotate_left; (simp only [nP, nT, nZ, nS, xA, xB, xC, xD, Int.reduceToNat]; rfl))) <;>
    ((first | ((with_reducible have h_ := bE HH); clear HH; obtain ⟨_, A_, h_⟩ := h_; have HH := Aside0.mk h_; clear h_; have E36_ := Aside0.mk (Option.some.inj A_); clear A_) | skip)) <;>
    (repeat' (first | ((with_reducible have h_ := iW HH); clear HH; rcases h_ with ⟨c_, h_⟩ | ⟨c_, h_⟩ <;> (have HH := Aside0.mk h_; clear h_; first | (with_reducible exact (none_ne HH.out).elim) | (replace HP := Aside0.mk (And.intro c_ HP.out); first | (replace c_ := kT c_; subst c_) | (replace c_ := kF c_; subst c_) | (replace c_ := kE c_; subst c_) | (replace c_ := kT c_; try have := kN c_) | (replace c_ := kF c_) | (have := kA c_; have := kB c_; clear c_) | (have := kC c_; have := kD c_; clear c_) | (have := kL c_; clear c_) | (have := kS c_; clear c_) | (have := kM c_; clear c_) | (have := kU c_; clear c_)))) | (with_reducible exact (none_ne HH.out).elim) | (with_reducible exact (ft_ne HH.out).elim) | fail)) <;>
    (refine ⟨wpList_step fun K_ hK_ => ?_⟩; refine run_append (k := .u8) (l := [_, _]) HF rfl rfl rfl hu22 info5_ (by decide) rfl rfl (HF.row_now HO9_0.out (by simp) (by decide)) (by decide) (bytesC (xs := [_, _]) (HF.lit HL35 (by simp) (by decide)) (by simp)) (by first | omega | (have h_ := HP.out; omega) | (have h_ := HP.out; simp only [List.length_nil, List.length_cons] at h_; omega) | (have h_ := HP.out; simp only [List.length_nil, List.length_cons] at h_ ⊢; omega)) ?_; intro v_ w_ ho_ HF1; (first | (replace ho_ := R_cast ho_ E36_.out; clear E36_) | (obtain ⟨y_, ey_, ho_⟩ := R_name ho_; have EY36 := Aside0.mk ey_.symm; (try rw [ey_] at HH); clear ey_)); obtain ⟨Av36_0, cv36_0, rfl⟩ := Kd.R_slice ho_; have HO36_0 := Aside0.mk ho_; clear ho_; clear HF; have HF := HF1; clear HF1; refine (hK_ _ _ (GL.out ?_)); clear hK_; (refine lnorm (a' := ?_) ?_ ?_; rotate_left; (simp only [nP, nT, nZ, nS, xA, xB, xC, xD, Int.reduceToNat]; rfl))) <;>
    ((apply lpure rfl rfl; (go_simp; with_reducible rfl); (simp only [nP, nT, nZ, nS, xA, xB, xC, xD, Int.reduceToNat]; rfl)); (try clear HO9_0); have HO9_0 := HO36_0) <;>
    (apply lend))
    | (((with_reducible refine gate_region (id := 6) ?_); have k_ := HO25_0; clear k_; have k_ := HO27_0; clear k_; have k_ := HO28_0; clear k_; have k_ := HO9_0; clear k_; have k_ := HO36_0; clear k_; apply plain_region) <;>
    (apply lpure rfl rfl; (go_simp; with_reducible rfl); (simp only [nP, nT, nZ, nS, xA, xB, xC, xD, Int.reduceToNat]; rfl)) <;>
    (apply lpure rfl rfl; (go_simp; with_reducible rfl); (simp only [nP, nT, nZ, nS, xA, xB, xC, xD, Int.reduceToNat]; rfl)) <;>
    ((with_reducible have h_ := bE HH); clear HH; obtain ⟨_, A_, h_⟩ := h_; (try dsimp only at h_); have HH := Aside0.mk h_; clear h_; have A39_ := Aside0.mk A_; clear A_) <;>
    (repeat' (first | ((with_reducible have h_ := iW HH); clear HH; rcases h_ with ⟨c_, h_⟩ | ⟨c_, h_⟩ <;> (have HH := Aside0.mk h_; clear h_; first | (with_reducible exact (none_ne HH.out).elim) | (replace HP := Aside0.mk (And.intro c_ HP.out); first | (replace c_ := kT c_; subst c_) | (replace c_ := kF c_; subst c_) | (replace c_ := kE c_; subst c_) | (replace c_ := kT c_; try have := kN c_) | (replace c_ := kF c_) | (have := kA c_; have := kB c_; clear c_) | (have := kC c_; have := kD c_; clear c_) | (have := kL c_; clear c_) | (have := kS c_; clear c_) | (have := kM c_; clear c_) | (have := kU c_; clear c_)))) | (with_reducible exact (none_ne HH.out).elim) | (with_reducible exact (ft_ne HH.out).elim) | fail)) <;>
    (apply lcall rfl rfl rfl Try.func52 (by kernel_rfl) rfl; (with_reducible apply Calls.mono); (with_reducible apply spec_Put16.calls (h := A39_.out)); have HS39 := HF.since; rintro e w_ ⟨v0_, rfl, hov0_, hb_⟩; obtain ⟨Av39_0, cv39_0, rfl⟩ := Kd.R_slice hov0_; have HO39_0 := HF.row2 hov0_; have HB39 := Aside0.mk hb_.size; clear hov0_; refine ⟨_, rfl, ?_⟩; replace HF := (HF.call hb_).mark; clear hb_; rotate_left; (first | rfl | (simp only [mT, mC, mN]; first | done | rfl)); clear A39_; (refine lnorm (a' := ?_) ?_ ?_; rotate_left; (simp only [nP, nT, nZ, nS, xA, xB, xC, xD, Int.reduceToNat]; rfl))) <;>
    ((first | ((with_reducible have h_ := bE HH); clear HH; obtain ⟨_, A_, h_⟩ := h_; have HH := Aside0.mk h_; clear h_; have E40_ := Aside0.mk (Option.some.inj A_); clear A_) | skip)) <;>
    (repeat' (first | ((with_reducible have h_ := iW HH); clear HH; rcases h_ with ⟨c_, h_⟩ | ⟨c_, h_⟩ <;> (have HH := Aside0.mk h_; clear h_; first | (with_reducible exact (none_ne HH.out).elim) | (replace HP := Aside0.mk (And.intro c_ HP.out); first | (replace c_ := kT c_; subst c_) | (replace c_ := kF c_; subst c_) | (replace c_ := kE c_; subst c_) | (replace c_ := kT c_; try have := kN c_) | (replace c_ := kF c_) | (have := kA c_; have := kB c_; clear c_) | (have := kC c_; have := kD c_; clear c_) | (have := kL c_; clear c_) | (have := kS c_; clear c_) | (have := kM c_; clear c_) | (have := kU c_; clear c_)))) | (with_reducible exact (none_ne HH.out).elim) | (with_reducible exact (ft_ne HH.out).elim) | fail)) <;>
    (refine ⟨wpList_step fun K_ hK_ => ?_⟩; refine run_append (k := .u8) HF rfl rfl rfl hu22 info5_ (by decide) rfl rfl (HF.row_now HO9_0.out (by simp) (by decide)) (by decide) (HF.rowC HO39_0 (by simp) (by decide)).1 (by first | omega | (have h_ := HP.out; omega) | (have h_ := HP.out; simp only [List.length_nil, List.length_cons] at h_; omega) | (have h_ := HP.out; simp only [List.length_nil, List.length_cons] at h_ ⊢; omega)) ?_; intro v_ w_ ho_ HF1; (first | (replace ho_ := R_cast ho_ E40_.out; clear E40_) | (obtain ⟨y_, ey_, ho_⟩ := R_name ho_; have EY40 := Aside0.mk ey_.symm; (try rw [ey_] at HH); clear ey_)); obtain ⟨Av40_0, cv40_0, rfl⟩ := Kd.R_slice ho_; have HO40_0 := Aside0.mk ho_; clear ho_; clear HF; have HF := HF1; clear HF1; refine (hK_ _ _ (GL.out ?_)); clear hK_; (refine lnorm (a' := ?_) ?_ ?_; rotate_left; (simp only [nP, nT, nZ, nS, xA, xB, xC, xD, Int.reduceToNat]; rfl))) <;>
    ((apply lpure rfl rfl; (go_simp; with_reducible rfl); (simp only [nP, nT, nZ, nS, xA, xB, xC, xD, Int.reduceToNat]; rfl)); (try clear HO9_0); have HO9_0 := HO40_0) <;>
    (apply lend))
    | (((with_reducible refine gate_region (id := 9) ?_); have k_ := HO25_0; clear k_; have k_ := HO27_0; clear k_; have k_ := HO28_0; clear k_; have k_ := HO9_0; clear k_; have k_ := HO36_0; clear k_; have k_ := HO39_0; clear k_; have k_ := HO40_0; clear k_; apply plain_region) <;>
    (apply lpure rfl rfl; (go_simp; with_reducible rfl); (simp only [nP, nT, nZ, nS, xA, xB, xC, xD, Int.reduceToNat]; rfl)) <;>
    ((with_reducible have h_ := bE HH); clear HH; obtain ⟨_, A_, h_⟩ := h_; (try dsimp only at h_); have HH := Aside0.mk h_; clear h_; have A51_ := Aside0.mk A_; clear A_) <;>
    (repeat' (first | ((with_reducible have h_ := iW HH); clear HH; rcases h_ with ⟨c_, h_⟩ | ⟨c_, h_⟩ <;> (have HH := Aside0.mk h_; clear h_; first | (with_reducible exact (none_ne HH.out).elim) | (replace HP := Aside0.mk (And.intro c_ HP.out); first | (replace c_ := kT c_; subst c_) | (replace c_ := kF c_; subst c_) | (replace c_ := kE c_; subst c_) | (replace c_ := kT c_; try have := kN c_) | (replace c_ := kF c_) | (have := kA c_; have := kB c_; clear c_) | (have := kC c_; have := kD c_; clear c_) | (have := kL c_; clear c_) | (have := kS c_; clear c_) | (have := kM c_; clear c_) | (have := kU c_; clear c_)))) | (with_reducible exact (none_ne HH.out).elim) | (with_reducible exact (ft_ne HH.out).elim) | fail)) <;>
    (apply lcall rfl rfl rfl Try.func101 (by kernel_rfl) rfl; (with_reducible apply Calls.mono); (with_reducible apply spec_OnesSum.calls (h := A51_.out)); exact (HF.rowC HO9_0 (by simp) (by decide)).1; exact (HF.rowC HO9_0 (by simp) (by decide)).2; rintro e w_ ⟨rfl, hb_⟩; refine ⟨_, rfl, ?_⟩; replace HF := HF.drawn hb_; clear hb_; rotate_left; (first | rfl | (simp only [mT, mC, mN]; first | done | rfl)); clear A51_; (refine lnorm (a' := ?_) ?_ ?_; rotate_left; (simp only [nP, nT, nZ, nS, xA, xB, xC, xD, Int.reduceToNat]; rfl))) <;>
    (apply lpure rfl rfl; (go_simp; with_reducible rfl); (simp only [nP, nT, nZ, nS, xA, xB, xC, xD, Int.reduceToNat]; rfl)) <;>
    (apply lend))
    | (((with_reducible refine gate_region (id := 9) ?_); have k_ := HO25_0; clear k_; have k_ := HO27_0; clear k_; have k_ := HO28_0; clear k_; have k_ := HO9_0; clear k_; have k_ := HO43_0; clear k_; have k_ := HO44_0; clear k_; have k_ := HO49_0; clear k_; apply plain_region) <;>
    (apply lpure rfl rfl; (go_simp; with_reducible rfl); (simp only [nP, nT, nZ, nS, xA, xB, xC, xD, Int.reduceToNat]; rfl)) <;>
    ((with_reducible have h_ := bE HH); clear HH; obtain ⟨_, A_, h_⟩ := h_; (try dsimp only at h_); have HH := Aside0.mk h_; clear h_; have A51_ := Aside0.mk A_; clear A_) <;>
    (repeat' (first | ((with_reducible have h_ := iW HH); clear HH; rcases h_ with ⟨c_, h_⟩ | ⟨c_, h_⟩ <;> (have HH := Aside0.mk h_; clear h_; first | (with_reducible exact (none_ne HH.out).elim) | (replace HP := Aside0.mk (And.intro c_ HP.out); first | (replace c_ := kT c_; subst c_) | (replace c_ := kF c_; subst c_) | (replace c_ := kE c_; subst c_) | (replace c_ := kT c_; try have := kN c_) | (replace c_ := kF c_) | (have := kA c_; have := kB c_; clear c_) | (have := kC c_; have := kD c_; clear c_) | (have := kL c_; clear c_) | (have := kS c_; clear c_) | (have := kM c_; clear c_) | (have := kU c_; clear c_)))) | (with_reducible exact (none_ne HH.out).elim) | (with_reducible exact (ft_ne HH.out).elim) | fail)) <;>
    (apply lcall rfl rfl rfl Try.func101 (by kernel_rfl) rfl; (with_reducible apply Calls.mono); (with_reducible apply spec_OnesSum.calls (h := A51_.out)); exact (HF.rowC HO9_0 (by simp) (by decide)).1; exact (HF.rowC HO9_0 (by simp) (by decide)).2; rintro e w_ ⟨rfl, hb_⟩; refine ⟨_, rfl, ?_⟩; replace HF := HF.drawn hb_; clear hb_; rotate_left; (first | rfl | (simp only [mT, mC, mN]; first | done | rfl)); clear A51_; (refine lnorm (a' := ?_) ?_ ?_; rotate_left; (simp only [nP, nT, nZ, nS, xA, xB, xC, xD, Int.reduceToNat]; rfl))) <;>
    (apply lpure rfl rfl; (go_simp; with_reducible rfl); (simp only [nP, nT, nZ, nS, xA, xB, xC, xD, Int.reduceToNat]; rfl)) <;>
    (apply lend))
    | (((with_reducible refine gate_region (id := 7) ?_); have k_ := HO25_0; clear k_; have k_ := HO27_0; clear k_; have k_ := HO28_0; clear k_; have k_ := HO9_0; clear k_; apply plain_region) <;>
    (apply lpure rfl rfl; (go_simp; with_reducible rfl); (simp only [nP, nT, nZ, nS, xA, xB, xC, xD, Int.reduceToNat]; rfl)) <;>
    (apply lpure rfl rfl; (go_simp; with_reducible rfl); (simp only [nP, nT, nZ, nS, xA, xB, xC, xD, Int.reduceToNat]; rfl)) <;>
    ((with_reducible have h_ := bE HH); clear HH; obtain ⟨_, A_, h_⟩ := h_; (try dsimp only at h_); have HH := Aside0.mk h_; clear h_; have A43_ := Aside0.mk A_; clear A_) <;>
    (repeat' (first | ((with_reducible have h_ := iW HH); clear HH; rcases h_ with ⟨c_, h_⟩ | ⟨c_, h_⟩ <;> (have HH := Aside0.mk h_; clear h_; first | (with_reducible exact (none_ne HH.out).elim) | (replace HP := Aside0.mk (And.intro c_ HP.out); first | (replace c_ := kT c_; subst c_) | (replace c_ := kF c_; subst c_) | (replace c_ := kE c_; subst c_) | (replace c_ := kT c_; try have := kN c_) | (replace c_ := kF c_) | (have := kA c_; have := kB c_; clear c_) | (have := kC c_; have := kD c_; clear c_) | (have := kL c_; clear c_) | (have := kS c_; clear c_) | (have := kM c_; clear c_) | (have := kU c_; clear c_)))) | (with_reducible exact (none_ne HH.out).elim) | (with_reducible exact (ft_ne HH.out).elim) | fail)) <;>
    (apply lcall rfl rfl rfl Try.func51 (by kernel_rfl) rfl; (with_reducible apply Calls.mono); (with_reducible apply spec_Put32.calls (h := A43_.out)); have HS43 := HF.since; rintro e w_ ⟨v0_, rfl, hov0_, hb_⟩; obtain ⟨Av43_0, cv43_0, rfl⟩ := Kd.R_slice hov0_; have HO43_0 := HF.row2 hov0_; have HB43 := Aside0.mk hb_.size; clear hov0_; refine ⟨_, rfl, ?_⟩; replace HF := (HF.call hb_).mark; clear hb_; rotate_left; (first | rfl | (simp only [mT, mC, mN]; first | done | rfl)); clear A43_; (refine lnorm (a' := ?_) ?_ ?_; rotate_left; (simp only [nP, nT, nZ, nS, xA, xB, xC, xD, Int.reduceToNat]; rfl))) <;>
    ((first | ((with_reducible have h_ := bE HH); clear HH; obtain ⟨_, A_, h_⟩ := h_; have HH := Aside0.mk h_; clear h_; have E44_ := Aside0.mk (Option.some.inj A_); clear A_) | skip)) <;>
    (repeat' (first | ((with_reducible have h_ := iW HH); clear HH; rcases h_ with ⟨c_, h_⟩ | ⟨c_, h_⟩ <;> (have HH := Aside0.mk h_; clear h_; first | (with_reducible exact (none_ne HH.out).elim) | (replace HP := Aside0.mk (And.intro c_ HP.out); first | (replace c_ := kT c_; subst c_) | (replace c_ := kF c_; subst c_) | (replace c_ := kE c_; subst c_) | (replace c_ := kT c_; try have := kN c_) | (replace c_ := kF c_) | (have := kA c_; have := kB c_; clear c_) | (have := kC c_; have := kD c_; clear c_) | (have := kL c_; clear c_) | (have := kS c_; clear c_) | (have := kM c_; clear c_) | (have := kU c_; clear c_)))) | (with_reducible exact (none_ne HH.out).elim) | (with_reducible exact (ft_ne HH.out).elim) | fail)) <;>
    (refine ⟨wpList_step fun K_ hK_ => ?_⟩; refine run_append (k := .u8) HF rfl rfl rfl hu22 info5_ (by decide) rfl rfl (HF.row_now HO9_0.out (by simp) (by decide)) (by decide) (HF.rowC HO43_0 (by simp) (by decide)).1 (by first | omega | (have h_ := HP.out; omega) | (have h_ := HP.out; simp only [List.length_nil, List.length_cons] at h_; omega) | (have h_ := HP.out; simp only [List.length_nil, List.length_cons] at h_ ⊢; omega)) ?_; intro v_ w_ ho_ HF1; (first | (replace ho_ := R_cast ho_ E44_.out; clear E44_) | (obtain ⟨y_, ey_, ho_⟩ := R_name ho_; have EY44 := Aside0.mk ey_.symm; (try rw [ey_] at HH); clear ey_)); obtain ⟨Av44_0, cv44_0, rfl⟩ := Kd.R_slice ho_; have HO44_0 := Aside0.mk ho_; clear ho_; clear HF; have HF := HF1; clear HF1; refine (hK_ _ _ (GL.out ?_)); clear hK_; (refine lnorm (a' := ?_) ?_ ?_; rotate_left; (simp only [nP, nT, nZ, nS, xA, xB, xC, xD, Int.reduceToNat]; rfl))) <;>
    ((apply lpure rfl rfl; (go_simp; with_reducible rfl); (simp only [nP, nT, nZ, nS, xA, xB, xC, xD, Int.reduceToNat]; rfl)); (try clear HO9_0); have HO9_0 := HO44_0) <;>
    (apply lend))
    | (((with_reducible refine gate_region (id := 8) ?_); have k_ := HO25_0; clear k_; have k_ := HO27_0; clear k_; have k_ := HO28_0; clear k_; have k_ := HO9_0; clear k_; have k_ := HO43_0; clear k_; have k_ := HO44_0; clear k_; apply plain_region) <;>
    (apply lpure rfl rfl; (go_simp; with_reducible rfl); (simp only [nP, nT, nZ, nS, xA, xB, xC, xD, Int.reduceToNat]; rfl)) <;>
    (apply lpure rfl rfl; (go_simp; with_reducible rfl); (simp only [nP, nT, nZ, nS, xA, xB, xC, xD, Int.reduceToNat]; rfl)) <;>
    (apply lpure rfl rfl; (go_simp; with_reducible rfl); (simp only [nP, nT, nZ, nS, xA, xB, xC, xD, Int.reduceToNat]; rfl)) <;>
    ((with_reducible have h_ := bE HH); clear HH; obtain ⟨_, A_, h_⟩ := h_; have HH := Aside0.mk h_; clear h_; obtain rfl := Option.some.inj A_; (try clear A_)) <;>
    (repeat' (first | ((with_reducible have h_ := iW HH); clear HH; rcases h_ with ⟨c_, h_⟩ | ⟨c_, h_⟩ <;> (have HH := Aside0.mk h_; clear h_; first | (with_reducible exact (none_ne HH.out).elim) | (replace HP := Aside0.mk (And.intro c_ HP.out); first | (replace c_ := kT c_; subst c_) | (replace c_ := kF c_; subst c_) | (replace c_ := kE c_; subst c_) | (replace c_ := kT c_; try have := kN c_) | (replace c_ := kF c_) | (have := kA c_; have := kB c_; clear c_) | (have := kC c_; have := kD c_; clear c_) | (have := kL c_; clear c_) | (have := kS c_; clear c_) | (have := kM c_; clear c_) | (have := kU c_; clear c_)))) | (with_reducible exact (none_ne HH.out).elim) | (with_reducible exact (ft_ne HH.out).elim) | fail)) <;>
    (apply HF.lbuild rfl rfl; (go_simp; first | exact ⟨rfl, rfl⟩ | exact ⟨rfl, rfl, rfl⟩ | rfl); clear HF; intro g_ w_ hg_ hb_ hh_ HF; replace HF := HF.mark; (try simp only [u8_wr, i64_w] at hh_); have HL48 := Aside0.mk hh_; clear hg_ hb_ hh_; (refine lnorm (a' := ?_) ?_ ?_; rotate_left; (simp only [nP, nT, nZ, nS, xA, xB, xC, xD, Int.reduceToNat]; rfl))) <;>
    ((first | ((with_reducible have h_ := bE HH); clear HH; obtain ⟨_, A_, h_⟩ := h_; have HH := Aside0.mk h_; clear h_; have E49_ := Aside0.mk (Option.some.inj A_); clear A_) | skip)) <;>
    (repeat' (first | ((with_reducible have h_ := iW HH); clear HH; rcases h_ with ⟨c_, h_⟩ | ⟨c_, h_⟩ <;> (have HH := Aside0.mk h_; clear h_; first | (with_reducible exact (none_ne HH.out).elim) | (replace HP := Aside0.mk (And.intro c_ HP.out); first | (replace c_ := kT c_; subst c_) | (replace c_ := kF c_; subst c_) | (replace c_ := kE c_; subst c_) | (replace c_ := kT c_; try have := kN c_) | (replace c_ := kF c_) | (have := kA c_; have := kB c_; clear c_) | (have := kC c_; have := kD c_; clear c_) | (have := kL c_; clear c_) | (have := kS c_; clear c_) | (have := kM c_; clear c_) | (have := kU c_; clear c_)))) | (with_reducible exact (none_ne HH.out).elim) | (with_reducible exact (ft_ne HH.out).elim) | fail)) <;>
    (refine ⟨wpList_step fun K_ hK_ => ?_⟩; refine run_append (k := .u8) (l := [_, _, _, _]) HF rfl rfl rfl hu22 info5_ (by decide) rfl rfl (HF.row_now HO9_0.out (by simp) (by decide)) (by decide) (bytesC (xs := [_, _, _, _]) (HF.lit HL48 (by simp) (by decide)) (by simp)) (by first | omega | (have h_ := HP.out; omega) | (have h_ := HP.out; simp only [List.length_nil, List.length_cons] at h_; omega) | (have h_ := HP.out; simp only [List.length_nil, List.length_cons] at h_ ⊢; omega)) ?_; intro v_ w_ ho_ HF1; (first | (replace ho_ := R_cast ho_ E49_.out; clear E49_) | (obtain ⟨y_, ey_, ho_⟩ := R_name ho_; have EY49 := Aside0.mk ey_.symm; (try rw [ey_] at HH); clear ey_)); obtain ⟨Av49_0, cv49_0, rfl⟩ := Kd.R_slice ho_; have HO49_0 := Aside0.mk ho_; clear ho_; clear HF; have HF := HF1; clear HF1; refine (hK_ _ _ (GL.out ?_)); clear hK_; (refine lnorm (a' := ?_) ?_ ?_; rotate_left; (simp only [nP, nT, nZ, nS, xA, xB, xC, xD, Int.reduceToNat]; rfl))) <;>
    ((apply lpure rfl rfl; (go_simp; with_reducible rfl); (simp only [nP, nT, nZ, nS, xA, xB, xC, xD, Int.reduceToNat]; rfl)); (try clear HO9_0); have HO9_0 := HO49_0) <;>
    (apply lend))
    | go_step | fail))
 all_goals (have h_ := HH.out; clear HH; cases h_ <;> (go_ret; first
   | exact ⟨(by first | rfl | (simp [errW_none, errW_some] <;> rfl) | (simp [*, errW_none, errW_some] <;> rfl)), HF.below⟩))

end Go.Proofs.Ytdbiejkaplndgaa.FFnExactUpperRead
