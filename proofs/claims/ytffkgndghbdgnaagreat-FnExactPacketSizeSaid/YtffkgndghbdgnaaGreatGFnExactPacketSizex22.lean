-- Functions and their contracts, written by a program of this claim (wip/tools/oprint.py) out of the translation.
import Derived.Test.YtffkgndghbdgnaaGreatGFnExactPacketSizex21
namespace Go.Proofs.YtffkgndghbdgnaaGreat.FFnExactPacketSize
open Go.RowKit Go.Proofs.YtffkgndghbdgnaaGreatW.PrintWords Go.Proofs.YtffkgndghbdgnaaGreatW.PrintLast Go.Proofs.YtffkgndghbdgnaaGreatW.PrintMore Go.Proofs.YtffkgndghbdgnaaGreat.Frame
attribute [local go_sem] max2_int min2_int max_two min_two max_three min_three max_four min_four   -- for this text's walks alone
set_option linter.unusedVariables false
set_option maxHeartbeats 8000000
set_option maxRecDepth 100000
set_option linter.unusedSimpArgs false

/-! ### impl_put: function 69 -/
def impl_put.l0 : Nat → Int → Int → List Int → Int → Int → Option (List Int)
 | 0, _, _, _, _, _ => none
 | k + 1, x0, x1, x5, x10, x11 => if x11 < x10 then (if 0 ≤ (wrap64 (8 * (wrap64 ((wrap64 (x1 - 1)) - x11)))) then (if 0 ≤ x11 then (if x11 < (x5.length : Int) then (impl_put.l0 k x0 x1 (x5.set (x11 : Int).toNat ((shr .i64 x0 (wrap64 (8 * (wrap64 ((wrap64 (x1 - 1)) - x11))))) % 256)) x10 (wrap64 (x11 + 1))) else (none)) else (none)) else (none)) else (some x5)
def impl_put.f (k : Nat) (a0 a1 : Int) : Option (List Int) := if 0 ≤ a1 then (if (a1 : Int).toNat ≤ 281474976710656 then ((some (List.replicate (a1 : Int).toNat 0 : List Int)).bind fun y775 => (impl_put.l0 k a0 a1 y775 (y775.length : Int) 0)) else (none)) else (none)
theorem impl_put.calls (k : Nat) (a0 a1 : Int) (r : List Int) (w : World) (h : impl_put.f k a0 a1 = some r) :
  Calls Tryz.prog 69 #[.int .i64 a0, .int .i64 a1] w fun e w' => ∃ v0_ : Value, e = .returned (v0_) ∧ Kd.R (Kd.int .u8) 5 w' w.heap.size (fun _ => True) v0_ r ∧ Below w.heap.size w w' := by
 have HB := Aside0.mk (Below.refl w.heap.size w)
 have H : (if 0 ≤ a1 then (if (a1 : Int).toNat ≤ 281474976710656 then ((some (List.replicate (a1 : Int).toNat 0 : List Int)).bind fun y775 => (impl_put.l0 k a0 a1 y775 (y775.length : Int) 0)) else (none)) else (none)) = some r := h
 clear h
 by_cases c3 : 0 ≤ a1
 ·rw [if_pos c3] at H
  have c3b0 := eq_true c3
  have c3b1 : decide (0 ≤ a1) = true := decide_eq_true c3
  clear c3
  by_cases c4 : (a1 : Int).toNat ≤ 281474976710656
  ·rw [if_pos c4] at H
   have c4b0 := eq_true c4
   have c4b1 : decide ((a1 : Int).toNat ≤ 281474976710656) = true := decide_eq_true c4
   clear c4
   obtain ⟨y775, hy775⟩ : ∃ y_ : List Int, y_ = (List.replicate (a1 : Int).toNat 0) := ⟨_, rfl⟩
   replace H : (impl_put.l0 k a0 a1 y775 (y775.length : Int) 0) = some r := by first | (rw [hy775]; with_reducible exact H) | (have H2_ := (Option.bind_some _ _).symm.trans H; rw [hy775]; with_reducible exact H2_) | (have H2_ := (Option.bind_some _ _).symm.trans H; with_reducible exact H2_) | with_reducible exact H | (rw [hy775]; exact H) | exact H
   have Ny775 := Aside0.mk hy775
   clear hy775
   have H' := Aside0.mk H
   clear H
   go_enter Tryz.func69, Tryz.ntmps69
   go_wp2_with (first | ((with_reducible refine gate_dst (N := 8) rfl ?_); refine Kd.R_make (Kd.int .u8) _ 5 rfl (N := 8) rfl 22 _ _ rfl a1 rfl rfl Tryz.underlying22 (.int .u8 0) 1 info5 rfl (by decide) (by omega) 0 (ok := fun _ => True) (okp := fun _ => True) rfl (fun _ hk => hk) trivial (of_decide_eq_true (by first | (with_reducible assumption) | assumption)) (Nat.le_trans (Nat.mul_le_mul_right _ (of_decide_eq_true (by first | (with_reducible assumption) | assumption) : a1.toNat ≤ 281474976710656)) (by omega)) (Below.refl _ _) (Nat.le_refl _) ?_; intro v776 w5 ho6 hb hg_ hnew_; clear hg_ hnew_; (first | rw [← Ny775.out] at ho6 | (simp only [Int.reduceToNat] at ho6; rw [← Ny775.out] at ho6)); have n0_ := Aside0.mk (Kd.R_lower ho6 (below_size (by repeat (first | (with_reducible first | exact HB.out | apply below_alloc | apply pw_below_drewN | apply below_drew1) | exact HB.out)))); have n1_ := Aside0.mk (below_step (by repeat (first | (with_reducible first | exact HB.out | apply below_alloc | apply pw_below_drewN | apply below_drew1) | exact HB.out)) hb); clear HB; have HO777 := n0_; have HB := n1_; clear n0_ n1_; clear hb ho6; obtain ⟨Ao7, co7, eo7⟩ := Kd.R_slice HO777.out; subst eo7))
   go_loopg [11] k (fun kq v11 w' => ∃ (x5_1 : List Int) (x11_1 : Int), v11 = .int .i64 x11_1 ∧ Aside0 (impl_put.l0 kq a0 a1 x5_1 (y775.length : Int) x11_1 = some r) ∧ Aside0 (kq ≤ k) ∧ Aside0 (Kd.R (Kd.int .u8) 5 w' w.heap.size (fun _ => True) (.slice Ao7 y775.length co7) x5_1) ∧ Aside0 (Below w.heap.size w w'))
   case atStart => exact ⟨(y775), (0), (by first | rfl | (simp; done) | (simp [*]; done)), H', ⟨Nat.le_refl _⟩, ⟨by (with_reducible repeat (first | apply Kd.R_alloc | apply Kd.R_drewN | apply Kd.R_drew)); exact HO777.out⟩, ⟨by repeat (first | (with_reducible first | exact HB.out | apply below_alloc | apply pw_below_drewN | apply below_drew1) | exact HB.out)⟩⟩
   case round =>
    clear H'
    try clear p2
    try clear c3
    try clear c3b0
    try clear c3b1
    try clear c4
    try clear c4b0
    try clear c4b1
    try clear c6
    obtain ⟨x5_1, x11_1, rfl, HA, HK1, HO_5, HB⟩ := hrel
    have hl5_1 := (Kd.R_reads' HO_5.out).1
    rw [hl5_1] at HO_5
    (try simp only [hl5_1])
    cases gk with
    | zero => exact absurd HA.out (by simp [impl_put.l0])
    | succ k1 =>
     have H := HA.out
     clear HA
     simp only [impl_put.l0] at H
     by_cases c8 : x11_1 < (y775.length : Int)
     ·rw [if_pos c8] at H
      have c8b0 : decide (x11_1 < (y775.length : Int)) = true := decide_eq_true c8
      clear c8
      obtain ⟨ji9, hji9⟩ : ∃ j_ : Int, (wrap64 (8 * (wrap64 ((wrap64 (a1 - 1)) - x11_1)))) = j_ := ⟨_, rfl⟩
      replace H : (if 0 ≤ (ji9) then (if 0 ≤ x11_1 then (if x11_1 < (x5_1.length : Int) then (impl_put.l0 k1 a0 a1 (x5_1.set (x11_1 : Int).toNat ((shr .i64 a0 (ji9)) % 256)) (y775.length : Int) (wrap64 (x11_1 + 1))) else (none)) else (none)) else (none)) = some r := by first | (rw [hji9] at H; exact H) | (simp only [hji9] at H ⊢; exact H)
      have hji9w : (IntKind.i64.wrap (8 * (wrap64 ((wrap64 (a1 - 1)) - x11_1)))) = ji9 := (i64_w _).trans hji9
      by_cases c10 : 0 ≤ (ji9)
      ·rw [if_pos c10] at H
       have c10b0 := eq_true c10
       have c10b1 : decide (0 ≤ (ji9)) = true := decide_eq_true c10
       clear c10
       obtain ⟨ji11, hji11⟩ : ∃ j_ : Int, (shr .i64 a0 (ji9)) = j_ := ⟨_, rfl⟩
       replace H : (if 0 ≤ x11_1 then (if x11_1 < (x5_1.length : Int) then (impl_put.l0 k1 a0 a1 (x5_1.set (x11_1 : Int).toNat ((ji11) % 256)) (y775.length : Int) (wrap64 (x11_1 + 1))) else (none)) else (none)) = some r := by first | (rw [hji11] at H; exact H) | (simp only [hji11] at H ⊢; exact H)
       have hji11_ : (a0 / 2 ^ min (ji9).toNat 64) = ji11 := hji11
       have hji11z : (ji9) ≤ 64 → (a0 / 2 ^ (ji9).toNat) = ji11 := shr_small hji11
       by_cases c12 : 0 ≤ x11_1
       ·rw [if_pos c12] at H
        have c12b0 : decide (0 ≤ x11_1) = true := decide_eq_true c12
        clear c12
        by_cases c13 : x11_1 < (x5_1.length : Int)
        ·rw [if_pos c13] at H
         have c13b0 : decide (x11_1 < (x5_1.length : Int)) = true := decide_eq_true c13
         clear c13
         obtain ⟨y778, hy778⟩ : ∃ y_ : List Int, y_ = (x5_1.set (x11_1 : Int).toNat ((ji11) % 256)) := ⟨_, rfl⟩
         replace H : (impl_put.l0 k1 a0 a1 y778 (y775.length : Int) (wrap64 (x11_1 + 1))) = some r := by first | (rw [hy778]; with_reducible exact H) | (have H2_ := (Option.bind_some _ _).symm.trans H; rw [hy778]; with_reducible exact H2_) | (have H2_ := (Option.bind_some _ _).symm.trans H; with_reducible exact H2_) | with_reducible exact H | (rw [hy778]; exact H) | exact H
         have Ny778 := Aside0.mk hy778
         clear hy778
         have H' := Aside0.mk H
         clear H
         have p14 : 0 ≤ (x11_1 : Int) := of_decide_eq_true (by first | (with_reducible assumption) | assumption)
         have q14 : (x11_1 : Int) < ((x5_1.length : Int) : Int) := of_decide_eq_true (by first | (with_reducible assumption) | assumption)
         obtain ⟨go14, co14, eo14, gb14, gl14, cl14, HG14⟩ := Kd.R_form HO_5.out (by omega)
         (first | cases eo14 | (injection eo14 with ea_ en_ ec_; (first | subst ea_ | (injection ea_ with ea_; subst ea_)); subst ec_; clear en_))
         have GB14 := Aside0.mk gb14
         have GG14 := Aside0.mk HG14
         clear gb14 gl14 HG14
         obtain ⟨hx14_0, hf14_0⟩ := Kd.R_celln 0 HO_5.out (x11_1 : Int) p14 q14
         replace p14 := eq_true p14
         replace q14 := eq_true q14
         have HP15 := Kd.R_putg HO_5.out (x11_1 : Int) ((ji11) % 256)
         go_wp2_with (first | ((with_reducible refine gate_store (t := 5) (p := 24) rfl ?_); refine store_event (t := 5) (p := 24) (v := ?vo_w16) (w1 := (wr.setCell ⟨go14, (x11_1 : Int).toNat, none⟩ (.int .u8 ((ji11) % 256)))) ?hg ?ho ?hn ?hr ?_; (case ho => rfl); (case hg => rfl); (case hn => rfl); (case hr => first | (go_simp; done) | (go_simp; rfl)); intro w16 hw; have hg : wr.grownBy w16 (some go14) := (by rw [hw]; exact HP15.2); have hp_ : Kd.R (Kd.int .u8) 5 w16 w.heap.size (fun _ => True) (.slice (some ⟨go14, 0, none⟩) x5_1.length co7) y778 := (by rw [hw, Ny778.out]; exact HP15.1); clear HP15; have n0_ := Aside0.mk (hp_); have n1_ := Aside0.mk ((by rw [hw]; exact below_set (HB.out) GB14.out : Below w.heap.size w w16)); clear HO_5; clear HB; have HO_5 := n0_; have HB := n1_; clear n0_ n1_; clear hg hw hp_))
         (try simp only [← hl5_1])
         go_roundg k1
         case measure => have := HK1.out; omega
         case rel => exact ⟨(y778), (wrap64 (x11_1 + 1)), (by first | rfl | (simp; done) | (simp [*]; done)), H', ⟨by have := HK1.out; omega⟩, ⟨by (try simp only [hl5_1]); (with_reducible repeat (first | apply Kd.R_alloc | apply Kd.R_drewN | apply Kd.R_drew)); exact HO_5.out⟩, ⟨by repeat (first | (with_reducible first | exact HB.out | apply below_alloc | apply pw_below_drewN | apply below_drew1) | exact HB.out)⟩⟩
        ·rw [if_neg c13] at H
         exact absurd H (by simp)
       ·rw [if_neg c12] at H
        exact absurd H (by simp)
      ·rw [if_neg c10] at H
       exact absurd H (by simp)
     ·rw [if_neg c8] at H
      have c8b0 : decide (x11_1 < (y775.length : Int)) = false := decide_eq_false c8
      try (have c8b0_ := c8b0; simp only [hl5_1] at c8b0_)
      clear c8
      obtain rfl := Option.some.inj H
      go_wp2
      go_ret
      exact ⟨_, by first | rfl | (simp [errW_none, errW_some] <;> rfl) | (simp [*, errW_none, errW_some] <;> rfl), by (with_reducible repeat (first | apply Kd.R_alloc | apply Kd.R_drewN | apply Kd.R_drew)); exact HO_5.out, by repeat (first | (with_reducible first | exact HB.out | apply below_alloc | apply pw_below_drewN | apply below_drew1) | exact HB.out)⟩
  ·rw [if_neg c4] at H
   exact absurd H (by simp)
 ·rw [if_neg c3] at H
  exact absurd H (by simp)

/-! ### impl_Put16: function 68 -/
def impl_Put16.f (k : Nat) (a0 : Int) : Option (List Int) := (impl_put.f k a0 2).bind fun t779 => (some t779)
theorem impl_Put16.calls (k : Nat) (a0 : Int) (r : List Int) (w : World) (h : impl_Put16.f k a0 = some r) :
  Calls Tryz.prog 68 #[.int .i64 a0] w fun e w' => ∃ v0_ : Value, e = .returned (v0_) ∧ Kd.R (Kd.int .u8) 5 w' w.heap.size (fun _ => True) v0_ r ∧ Below w.heap.size w w' := by
 have HF := Fr.start [] w
 have HP := Aside0.mk True.intro
 unfold impl_Put16.f at h
 have HH := Aside0.mk h
 clear h
 go_enter Tryz.func68, Tryz.ntmps68
 repeat' (with_reducible first | exact xE HH | (replace HH := iA HP HH; clear HP; rcases HH with ⟨p, HP, HH⟩ | ⟨p, HP, HH⟩ <;> first | subst p | cases p | skip) | fail)
 all_goals (repeat' (first
    | ((with_reducible refine gA 0 ?_) <;> (refine sA ?_) <;> (apply lend))
    | ((with_reducible refine gA 1 ?_) <;> (refine sA ?_) <;> ((replace HH := bA HH); obtain ⟨_, A4_, HH⟩ := HH; (try dsimp only at HH)) <;> (repeat' (with_reducible first | exact xE HH | (replace HH := iA HP HH; clear HP; rcases HH with ⟨p, HP, HH⟩ | ⟨p, HP, HH⟩ <;> first | subst p | cases p | skip) | fail)) <;> (refine HF.rB Tryz.func69 (by (with_reducible apply impl_put.calls (h := A4_.out))) ?_; clear HF A4_; intro Av4_0 cv4_0 w_ HO4_0 HB4 HF; refine nA ?_) <;> ((refine pA ?_); (try clear HO2_0); have HO2_0 := HO4_0) <;> (apply lend))
    | go_step | fail))
 all_goals (have h_ := HH.out; clear HH; cases h_ <;> (go_ret; first
   | exact ⟨_, rfl, (rN HF HO2_0), HF.below⟩))

/-! ### impl_sum: function 110 -/
def impl_sum.f (a0 a1 : Int) : Option (Int) := if (wrap64 (a0 + a1)) > 65535 then (some (wrap64 ((wrap64 (a0 + a1)) - 65535))) else (some (wrap64 (a0 + a1)))
theorem impl_sum.calls (a0 a1 r : Int) (w : World) (h : impl_sum.f a0 a1 = some r) :
  Calls Tryz.prog 110 #[.int .i64 a0, .int .i64 a1] w fun e w' => e = .returned (.int .i64 r) ∧ Drawn0 w w' := by
 have H : (if (wrap64 (a0 + a1)) > 65535 then (some (wrap64 ((wrap64 (a0 + a1)) - 65535))) else (some (wrap64 (a0 + a1)))) = some r := h
 clear h
 by_cases c3 : (wrap64 (a0 + a1)) > 65535
 ·rw [if_pos c3] at H
  have c3b0 : decide (65535 < (wrap64 (a0 + a1))) = true := decide_eq_true c3
  clear c3
  obtain rfl := Option.some.inj H
  go_enter Tryz.func110, Tryz.ntmps110
  go_wp2
  go_ret
  exact ⟨vF, vD⟩
 ·rw [if_neg c3] at H
  have c3b0 : decide (65535 < (wrap64 (a0 + a1))) = false := decide_eq_false c3
  clear c3
  obtain rfl := Option.some.inj H
  go_enter Tryz.func110, Tryz.ntmps110
  go_wp2
  go_ret
  exact ⟨vF, vD⟩

/-! ### impl_onesSum: function 111 -/
def impl_onesSum.l0 : Nat → List Int → Int → Int → Option (Int)
 | 0, _, _, _ => none
 | k + 1, x0, x3, x4 => if x4 < (x0.length : Int) then (if 0 ≤ x4 then (if (wrap64 (x4 + 1)) < (x0.length : Int) then (if 0 ≤ (wrap64 (x4 + 1)) then ((impl_sum.f x3 (Go.bits .or .i64 (wrap64 ((wrap64 (rd x0 x4)) * 256)) (wrap64 (rd x0 (wrap64 (x4 + 1)))))).bind fun t784 => (impl_onesSum.l0 k x0 t784 (wrap64 (x4 + 2)))) else (none)) else ((impl_sum.f x3 (wrap64 ((wrap64 (rd x0 x4)) * 256))).bind fun t785 => (impl_onesSum.l0 k x0 t785 (wrap64 (x4 + 2))))) else (none)) else (some x3)
def impl_onesSum.f (k : Nat) (l0 : List Int) : Option (Int) := impl_onesSum.l0 k l0 0 0
theorem impl_onesSum.calls (k : Nat) (A0 : Option Addr) (c0 : Nat) (l0 : List Int) (r : Int) (w : World) (hr0 : Kd.C (Kd.int .u8) w A0 l0.length l0) (hc0 : l0.length ≤ c0) (h : impl_onesSum.f k l0 = some r) :
  Calls Tryz.prog 111 #[.slice A0 l0.length c0] w fun e w' => e = .returned (.int .i64 r) ∧ Drawn0 w w' := by
 have HR0 := Aside0.mk hr0
 have HC0 := Aside0.mk hc0
 clear hr0 hc0
 have H : (impl_onesSum.l0 k l0 0 0) = some r := h
 clear h
 have H' := Aside0.mk H
 clear H
 go_enter Tryz.func111, Tryz.ntmps111
 go_wp2
 go_loopg [3, 4] k (fun kq v3 v4 w' => ∃ (x3_1 : Int) (x4_1 : Int), v3 = .int .i64 x3_1 ∧ v4 = .int .i64 x4_1 ∧ Aside0 (impl_onesSum.l0 kq l0 x3_1 x4_1 = some r) ∧ Aside0 (kq ≤ k) ∧ Drawn0 w w')
 case atStart => exact ⟨(0), (0), (by first | rfl | (simp; done) | (simp [*]; done)), (by first | rfl | (simp; done) | (simp [*]; done)), H', ⟨Nat.le_refl _⟩, by repeat (first | exact Drawn0.refl _ | apply Drawn0.step)⟩
 case round =>
  clear H'
  try clear c1
  obtain ⟨x3_1, x4_1, rfl, rfl, HA, HK1, ⟨m1, rfl⟩⟩ := hrel
  cases gk with
  | zero => exact absurd HA.out (by simp [impl_onesSum.l0])
  | succ k1 =>
   have H := HA.out
   clear HA
   simp only [impl_onesSum.l0] at H
   by_cases c2 : x4_1 < (l0.length : Int)
   ·rw [if_pos c2] at H
    have c2b0 : decide (x4_1 < (l0.length : Int)) = true := decide_eq_true c2
    clear c2
    by_cases c3 : 0 ≤ x4_1
    ·rw [if_pos c3] at H
     have c3b0 : decide (0 ≤ x4_1) = true := decide_eq_true c3
     clear c3
     by_cases c4 : (wrap64 (x4_1 + 1)) < (l0.length : Int)
     ·rw [if_pos c4] at H
      have c4b0 : decide ((wrap64 (x4_1 + 1)) < (l0.length : Int)) = true := decide_eq_true c4
      clear c4
      obtain ⟨ji5, hji5⟩ : ∃ j_ : Int, (wrap64 (x4_1 + 1)) = j_ := ⟨_, rfl⟩
      replace H : (if 0 ≤ (ji5) then ((impl_sum.f x3_1 (Go.bits .or .i64 (wrap64 ((wrap64 (rd l0 x4_1)) * 256)) (wrap64 (rd l0 (ji5))))).bind fun t784 => (impl_onesSum.l0 k1 l0 t784 (wrap64 (x4_1 + 2)))) else (none)) = some r := by first | (rw [hji5] at H; exact H) | (simp only [hji5] at H ⊢; exact H)
      (try rw [hji5] at c4b0)
      have hji5w : (IntKind.i64.wrap (x4_1 + 1)) = ji5 := (i64_w _).trans hji5
      by_cases c6 : 0 ≤ (ji5)
      ·rw [if_pos c6] at H
       have c6b0 : decide (0 ≤ (ji5)) = true := decide_eq_true c6
       clear c6
       replace H := Option.bind_eq_some_iff.mp H
       obtain ⟨t784, A70, H⟩ := H
       replace H : (impl_onesSum.l0 k1 l0 t784 (wrap64 (x4_1 + 2))) = some r := H
       have A7 := Aside0.mk A70
       clear A70
       have H' := Aside0.mk H
       clear H
       have p782 : 0 ≤ (x4_1 : Int) := of_decide_eq_true (by first | (with_reducible assumption) | assumption)
       have q782 : x4_1 < (l0.length : Int) := of_decide_eq_true (by first | (with_reducible assumption) | assumption)
       obtain ⟨ad782, e782, hx782_0⟩ := Kd.at_int HR0.out x4_1 p782 q782
       cases e782
       replace p782 := eq_true p782
       replace q782 := eq_true q782
       have p783 : 0 ≤ ((ji5) : Int) := of_decide_eq_true (by first | (with_reducible assumption) | assumption)
       have q783 : (ji5) < (l0.length : Int) := of_decide_eq_true (by first | (with_reducible assumption) | assumption)
       obtain ⟨ad783, e783, hx783_0⟩ := Kd.at_int HR0.out (ji5) p783 q783
       obtain rfl : ad782 = ad783 := (by injection e783)
       replace p783 := eq_true p783
       replace q783 := eq_true q783
       go_wp2_with (first | ((with_reducible refine gate_callee (f := 110) rfl ?_); refine goesL_ (some 33) rfl rfl Tryz.func110 (by kernel_rfl) rfl #[.int .i64 x3_1, .int .i64 (Go.bits .or .i64 (wrap64 ((wrap64 (rd l0 x4_1)) * 256)) (wrap64 (rd l0 (ji5))))] rfl (by (try simp only [List.map_toArray, List.map_cons, List.map_nil]); first | done | (simp only [hji5]; rfl) | rfl | (simp only [List.length_drop, List.length_take]; rfl)) ?_; (with_reducible refine (impl_sum.calls x3_1 (Go.bits .or .i64 (wrap64 ((wrap64 (rd l0 x4_1)) * 256)) (wrap64 (rd l0 (ji5)))) t784 _ A7.out).mono ?_); rintro e w' ⟨rfl, ⟨nd, rfl⟩⟩; refine ⟨_, rfl, ?_⟩))
       go_roundg k1
       case measure => have := HK1.out; omega
       case rel => exact ⟨(t784), (wrap64 (x4_1 + 2)), (by first | rfl | (simp; done) | (simp [*]; done)), (by first | rfl | (simp; done) | (simp [*]; done)), H', ⟨by have := HK1.out; omega⟩, by repeat (first | exact Drawn0.refl _ | apply Drawn0.step)⟩
      ·rw [if_neg c6] at H
       exact absurd H (by simp)
     ·rw [if_neg c4] at H
      have c4b0 : decide ((wrap64 (x4_1 + 1)) < (l0.length : Int)) = false := decide_eq_false c4
      clear c4
      replace H := Option.bind_eq_some_iff.mp H
      obtain ⟨t785, A80, H⟩ := H
      replace H : (impl_onesSum.l0 k1 l0 t785 (wrap64 (x4_1 + 2))) = some r := H
      have A8 := Aside0.mk A80
      clear A80
      have H' := Aside0.mk H
      clear H
      have p782 : 0 ≤ (x4_1 : Int) := of_decide_eq_true (by first | (with_reducible assumption) | assumption)
      have q782 : x4_1 < (l0.length : Int) := of_decide_eq_true (by first | (with_reducible assumption) | assumption)
      obtain ⟨ad782, e782, hx782_0⟩ := Kd.at_int HR0.out x4_1 p782 q782
      cases e782
      replace p782 := eq_true p782
      replace q782 := eq_true q782
      go_wp2_with (first | ((with_reducible refine gate_callee (f := 110) rfl ?_); refine goesL_ (some 33) rfl rfl Tryz.func110 (by kernel_rfl) rfl #[.int .i64 x3_1, .int .i64 (wrap64 ((wrap64 (rd l0 x4_1)) * 256))] rfl (by (try simp only [List.map_toArray, List.map_cons, List.map_nil]); first | done | rfl | (simp only [List.length_drop, List.length_take]; rfl)) ?_; (with_reducible refine (impl_sum.calls x3_1 (wrap64 ((wrap64 (rd l0 x4_1)) * 256)) t785 _ A8.out).mono ?_); rintro e w' ⟨rfl, ⟨nd, rfl⟩⟩; refine ⟨_, rfl, ?_⟩))
      go_roundg k1
      case measure => have := HK1.out; omega
      case rel => exact ⟨(t785), (wrap64 (x4_1 + 2)), (by first | rfl | (simp; done) | (simp [*]; done)), (by first | rfl | (simp; done) | (simp [*]; done)), H', ⟨by have := HK1.out; omega⟩, by repeat (first | exact Drawn0.refl _ | apply Drawn0.step)⟩
    ·rw [if_neg c3] at H
     exact absurd H (by simp)
   ·rw [if_neg c2] at H
    have c2b0 : decide (x4_1 < (l0.length : Int)) = false := decide_eq_false c2
    clear c2
    obtain rfl := Option.some.inj H
    go_wp2
    go_ret
    exact ⟨vF, vD⟩

/-! ### impl_Put32: function 121 -/
def impl_Put32.f (k : Nat) (a0 : Int) : Option (List Int) := (impl_put.f k a0 4).bind fun t786 => (some t786)
theorem impl_Put32.calls (k : Nat) (a0 : Int) (r : List Int) (w : World) (h : impl_Put32.f k a0 = some r) :
  Calls Tryz.prog 121 #[.int .i64 a0] w fun e w' => ∃ v0_ : Value, e = .returned (v0_) ∧ Kd.R (Kd.int .u8) 5 w' w.heap.size (fun _ => True) v0_ r ∧ Below w.heap.size w w' := by
 have HF := Fr.start [] w
 have HP := Aside0.mk True.intro
 unfold impl_Put32.f at h
 have HH := Aside0.mk h
 clear h
 go_enter Tryz.func121, Tryz.ntmps121
 repeat' (with_reducible first | exact xE HH | (replace HH := iA HP HH; clear HP; rcases HH with ⟨p, HP, HH⟩ | ⟨p, HP, HH⟩ <;> first | subst p | cases p | skip) | fail)
 all_goals (repeat' (first
    | ((with_reducible refine gA 0 ?_) <;> (refine sA ?_) <;> (apply lend))
    | ((with_reducible refine gA 1 ?_) <;> (refine sA ?_) <;> ((replace HH := bA HH); obtain ⟨_, A4_, HH⟩ := HH; (try dsimp only at HH)) <;> (repeat' (with_reducible first | exact xE HH | (replace HH := iA HP HH; clear HP; rcases HH with ⟨p, HP, HH⟩ | ⟨p, HP, HH⟩ <;> first | subst p | cases p | skip) | fail)) <;> (refine HF.rB Tryz.func69 (by (with_reducible apply impl_put.calls (h := A4_.out))) ?_; clear HF A4_; intro Av4_0 cv4_0 w_ HO4_0 HB4 HF; refine nA ?_) <;> ((refine pA ?_); (try clear HO2_0); have HO2_0 := HO4_0) <;> (apply lend))
    | go_step | fail))
 all_goals (have h_ := HH.out; clear HH; cases h_ <;> (go_ret; first
   | exact ⟨_, rfl, (rN HF HO2_0), HF.below⟩))

/-! ### impl_AddrBytes: function 122 -/
def impl_AddrBytes.f (k : Nat) (a0_0 a0_1 : Int) (a0_2 a0_3 a0_4 : Int) : Option (List Int) := (impl_AddrOk.f a0_0 a0_1 a0_2 a0_3 a0_4).bind fun t790 => (if t790 = true then (if a0_0 = 4 then ((impl_Put32.f k a0_4).bind fun t791 => (some t791)) else ((impl_Put32.f k a0_1).bind fun t794 => ((impl_Put32.f k a0_2).bind fun t797 => ((impl_Put32.f k a0_3).bind fun t800 => ((impl_Put32.f k a0_4).bind fun t803 => ((slices_Concat_byte_byte.f k (([t794, t797, t800, t803] : List (List Int)))).bind fun t809 => (some t809))))))) else (some ([] : List Int)))
def impl_AddrBytes.T5 : Bool × List (List Nat × List Nat) := (true, [([], []), ([0], [0]), ([1], [1]), ([], []), ([3], [3]), ([4, 2], [4]), ([], []), ([6], [6]), ([7, 5], [7]), ([], []), ([9], [9]), ([10, 8], [10]), ([2, 5, 8, 11], [2, 5, 8, 11]), ([12, 11], [12]), ([13, 13, 0, 1, 2, 3, 4, 5, 6, 7, 8, 9, 10, 11, 12, 13], [13])])
def impl_AddrBytes.B5 : List Nat := [0, 1, 3, 0, 8, 31, 0, 64, 255, 0, 512, 2047, 4095, 8191, 16383]
theorem impl_AddrBytes.tab5 : rtab .any (opsOf Tryz.f122 5) = impl_AddrBytes.T5 := by kernel_rfl
theorem impl_AddrBytes.bits5 : waitsOk impl_AddrBytes.T5.2 impl_AddrBytes.B5 = true := by kernel_rfl
theorem impl_AddrBytes.calls (k : Nat) (a0_0 a0_1 : Int) (a0_2 a0_3 a0_4 : Int) (r : List Int) (w : World) (h : impl_AddrBytes.f k a0_0 a0_1 a0_2 a0_3 a0_4 = some r) :
  Calls Tryz.prog 122 #[.agg #[.int .i64 a0_0, .int .i64 a0_1, .int .i64 a0_2, .int .i64 a0_3, .int .i64 a0_4]] w fun e w' => ∃ v0_ : Value, e = .returned (v0_) ∧ Kd.R (Kd.int .u8) 5 w' w.heap.size (fun _ => True) v0_ r ∧ Below w.heap.size w w' := by
 have hu39 := Tryz.underlying39
 have hu109 := Tryz.underlying109
 have HF := Fr.start [39] w
 have HP := Aside0.mk True.intro
 unfold impl_AddrBytes.f at h
 have HH := Aside0.mk h
 clear h
 go_enter Tryz.func122, Tryz.ntmps122
 repeat' (with_reducible first | exact xE HH | (replace HH := iA HP HH; clear HP; rcases HH with ⟨p, HP, HH⟩ | ⟨p, HP, HH⟩ <;> first | subst p | cases p | skip) | fail)
 all_goals (repeat' (first
    | ((with_reducible refine gA 0 ?_) <;> (refine HF.bA ?_; clear HF; intro g_ w_ HF; refine nA ?_) <;> (refine sA ?_) <;> (apply lend))
    | ((with_reducible refine gA 1 ?_) <;> (refine sA ?_) <;> ((replace HH := bA HH); obtain ⟨_, A5_, HH⟩ := HH; (try dsimp only at HH)) <;> (repeat' (with_reducible first | exact xE HH | (replace HH := iA HP HH; clear HP; rcases HH with ⟨p, HP, HH⟩ | ⟨p, HP, HH⟩ <;> first | subst p | cases p | skip) | fail)) <;> (refine HF.cB Tryz.func128 (by (with_reducible apply impl_AddrOk.calls (h := A5_.out))) ?_; clear HF A5_; intro w_ HF) <;> (iterate 2 refine sA ?_) <;> (apply lend))
    | ((with_reducible refine gA 2 ?_) <;> (refine sA ?_) <;> (apply lend))
    | ((with_reducible refine gA 3 ?_) <;> (iterate 4 refine sA ?_) <;> (apply lend))
    | ((with_reducible refine gA 4 ?_) <;> (iterate 2 refine sA ?_) <;> ((replace HH := bA HH); obtain ⟨_, A13_, HH⟩ := HH; (try dsimp only at HH)) <;> (repeat' (with_reducible first | exact xE HH | (replace HH := iA HP HH; clear HP; rcases HH with ⟨p, HP, HH⟩ | ⟨p, HP, HH⟩ <;> first | subst p | cases p | skip) | fail)) <;> (refine HF.rB Tryz.func121 (by (with_reducible apply impl_Put32.calls (h := A13_.out))) ?_; clear HF A13_; intro Av13_0 cv13_0 w_ HO13_0 HB13 HF; refine nA ?_) <;> ((refine pA ?_); (try clear HO2_0); have HO2_0 := HO13_0) <;> (apply lend))
    | (((with_reducible refine gate_region (id := 5) ?_); have HG := HF; refine HG.region2 HF (by kernel_rfl) rfl ?_; clear HF HG; intro w_ HF HG; refine with_tabW impl_AddrBytes.tab5 impl_AddrBytes.bits5 (fun HT_ HW_ => ?_)) <;> (repeat' (with_reducible first | exact xE HH | (replace HH := iA HP HH; clear HP; rcases HH with ⟨p, HP, HH⟩ | ⟨p, HP, HH⟩ <;> first | subst p | cases p | skip) | fail)) <;> ((replace HH := bA HH); obtain ⟨_, A16_, HH⟩ := HH; (try dsimp only at HH)) <;> (repeat' (with_reducible first | exact xE HH | (replace HH := iA HP HH; clear HP; rcases HH with ⟨p, HP, HH⟩ | ⟨p, HP, HH⟩ <;> first | subst p | cases p | skip) | fail)) <;> ((replace HH := bA HH); obtain ⟨_, A19_, HH⟩ := HH; (try dsimp only at HH)) <;> (repeat' (with_reducible first | exact xE HH | (replace HH := iA HP HH; clear HP; rcases HH with ⟨p, HP, HH⟩ | ⟨p, HP, HH⟩ <;> first | subst p | cases p | skip) | fail)) <;> ((replace HH := bA HH); obtain ⟨_, A22_, HH⟩ := HH; (try dsimp only at HH)) <;> (repeat' (with_reducible first | exact xE HH | (replace HH := iA HP HH; clear HP; rcases HH with ⟨p, HP, HH⟩ | ⟨p, HP, HH⟩ <;> first | subst p | cases p | skip) | fail)) <;> ((replace HH := bA HH); obtain ⟨_, A25_, HH⟩ := HH; (try dsimp only at HH)) <;> (repeat' (with_reducible first | exact xE HH | (replace HH := iA HP HH; clear HP; rcases HH with ⟨p, HP, HH⟩ | ⟨p, HP, HH⟩ <;> first | subst p | cases p | skip) | fail)) <;> ((replace HH := bA HH); obtain ⟨_, A27_, HH⟩ := HH; (try dsimp only at HH)) <;> (repeat' (with_reducible first | exact xE HH | (replace HH := iA HP HH; clear HP; rcases HH with ⟨p, HP, HH⟩ | ⟨p, HP, HH⟩ <;> first | subst p | cases p | skip) | fail)) <;> (refine dA 0 ?_; refine dA 1 ?_; refine dA 3 ?_; refine dA 4 ?_; refine dA 6 ?_; refine dA 7 ?_; refine dA 9 ?_; refine dA 10 ?_) <;> (refine HF.rD HG 2 Tryz.func121 (by (with_reducible apply impl_Put32.calls (h := A16_.out))) ?_; clear HF HG A16_; intro Av16_0 cv16_0 w_ HO16_0 HB16 HG HF; refine mA ?_) <;> (have HS19 := HG.since; refine HF.rD HG 5 Tryz.func121 (by (with_reducible apply impl_Put32.calls (h := A19_.out))) ?_; clear HF HG A19_; intro Av19_0 cv19_0 w_ HO19_0 HB19 HG HF; refine mA ?_) <;> (have HS22 := HG.since; refine HF.rD HG 8 Tryz.func121 (by (with_reducible apply impl_Put32.calls (h := A22_.out))) ?_; clear HF HG A22_; intro Av22_0 cv22_0 w_ HO22_0 HB22 HG HF; refine mA ?_) <;> (have HS25 := HG.since; refine HF.rD HG 11 Tryz.func121 (by (with_reducible apply impl_Put32.calls (h := A25_.out))) ?_; clear HF HG A25_; intro Av25_0 cv25_0 w_ HO25_0 HB25 HG HF; refine mA ?_) <;> (refine HF.nD HG 12 ?_; clear HF HG; intro g_ w_ HL26 HG HF; refine mA ?_) <;> (have HS27 := HG.since; refine HF.rD HG 13 Tryz.func49 (by (with_reducible apply slices_Concat_byte_byte.calls (A0 := some ⟨_, 0, none⟩) (c0 := 4) (h := A27_.out)); exact (rowsC (HG.lit HL26 (by simp) (by decide)) (by (repeat' (first | exact RowsAt.nil | refine RowsAt.cons rfl ?_ ?_ ?_)); exact (HG.r2 HO16_0); exact (HG.r1 HO16_0); exact (HG.r2 HO19_0); exact (HG.r1 HO19_0); exact (HG.r2 HO22_0); exact (HG.r1 HO22_0); exact (HG.r2 HO25_0); exact (HG.r1 HO25_0)) (by simp)); exact (Nat.le_refl _)) ?_; clear HF HG A27_; intro Av27_0 cv27_0 w_ HO27_0 HB27 HG HF; refine mA ?_) <;> ((refine qA 14 ?_); (try clear HO2_0); have HO2_0 := HO27_0) <;> (refine done_ (done_of HT_.out (by kernel_rfl)) ?_; clear HF; have HF := HG; clear HG))
    | go_step | fail))
 all_goals (have h_ := HH.out; clear HH; cases h_ <;> (go_ret; first
   | exact ⟨_, rfl, (Kd.R_nil _ _ _ _ _), HF.below⟩
   | exact ⟨_, rfl, (rN HF HO2_0), HF.below⟩))

end Go.Proofs.YtffkgndghbdgnaaGreat.FFnExactPacketSize
