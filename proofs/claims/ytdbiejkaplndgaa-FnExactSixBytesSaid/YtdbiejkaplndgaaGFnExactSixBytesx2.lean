-- Functions and their contracts, written by a program of this claim (wip/tools/oprint.py) out of the translation.
import Derived.Test.YtdbiejkaplndgaaGFnExactSixBytesx0
import Derived.Test.YtdbiejkaplndgaaVFnExactSixBytes
import Derived.Test.YtdbiejkaplndgaaGFnExactSixBytesx1
namespace Go.Proofs.Ytdbiejkaplndgaa.FFnExactSixBytes
open Go.RowKit Go.Proofs.YtdbiejkaplndgaaW.PrintWords Go.Proofs.YtdbiejkaplndgaaW.PrintLast Go.Proofs.YtdbiejkaplndgaaW.PrintMore Go.Proofs.Ytdbiejkaplndgaa.Frame
attribute [local go_sem] max2_int min2_int max_two min_two max_three min_three max_four min_four   -- for this text's walks alone
set_option linter.unusedVariables false
set_option linter.unusedSimpArgs false

/-! ### laws_markSix: function 14 -/
def laws_markSix.f (k : Nat) (a0_0 : Int) (a0_1 : Int) (a0_2 : Int) (a0_3 : Int) (a0_4 : Int) (a0_5 : Int) (a0_6 : Int) (a0_7 : Int) (a0_8 : Int) (a0_9 : Int) (a0_10 : Int) (a0_11 : Int) (a0_12 : Int) (a0_13 : Int) (l0_14 : List (S69)) (l0_15 : List Int) (a1 : Int) : Option (Int × List (S69) × List Int) := (laws_markExtS.f k l0_14 a1).bind fun bt1 => ((laws_markByteS.f k l0_15 bt1.1).bind fun bt2 => (some (bt2.1, bt1.2, bt2.2)))
theorem laws_markSix.mono : ∀ a0 a1 a2 a3 a4 a5 a6 a7 a8 a9 a10 a11 a12 a13 a14 a15 a16 k, LeO (laws_markSix.f k a0 a1 a2 a3 a4 a5 a6 a7 a8 a9 a10 a11 a12 a13 a14 a15 a16) (laws_markSix.f (k + 1) a0 a1 a2 a3 a4 a5 a6 a7 a8 a9 a10 a11 a12 a13 a14 a15 a16) := by
 intro a0 a1 a2 a3 a4 a5 a6 a7 a8 a9 a10 a11 a12 a13 a14 a15 a16 k
 unfold laws_markSix.f
 repeat' first
   | (with_reducible exact laws_markExtS.mono _ _ _)
   | (with_reducible exact laws_markByteS.mono _ _ _)
   | (with_reducible exact LeO.refl _)
   | (with_reducible exact LeO.none _)
   | (with_reducible refine LeO.ite ?_ ?_)
   | (with_reducible refine LeO.bind ?_ (fun _ => ?_))
   | exact laws_markExtS.mono _ _ _
   | exact laws_markByteS.mono _ _ _
   | exact LeO.none _
   | refine LeO.ite ?_ ?_
   | refine LeO.bind ?_ (fun _ => ?_)
set_option maxHeartbeats 8000000 in
set_option maxRecDepth 100000 in
theorem laws_markSix.calls (k : Nat) (a0_0 : Int) (a0_1 : Int) (a0_2 : Int) (a0_3 : Int) (a0_4 : Int) (a0_5 : Int) (a0_6 : Int) (a0_7 : Int) (a0_8 : Int) (a0_9 : Int) (a0_10 : Int) (a0_11 : Int) (a0_12 : Int) (a0_13 : Int) (P0_14_ : Nat → Prop) (u9000_ : Value) (l0_14 : List (S69)) (P0_15_ : Nat → Prop) (u9001_ : Value) (l0_15 : List Int) (a1 : Int) (r1 : Int) (r2 : List (S69)) (r3 : List Int) (w0 w : World) (hB : Below w0.heap.size w0 w) (ho0_14 : Kd.S k69 69 w w0.heap.size P0_14_ u9000_ l0_14) (hp0_14_0_15 : ∀ k_, P0_14_ k_ → ¬ P0_15_ k_) (ho0_15 : Kd.R (Kd.int .u8) 5 w w0.heap.size P0_15_ u9001_ l0_15) (hp0_15_0_14 : ∀ k_, P0_15_ k_ → ¬ P0_14_ k_) (h : laws_markSix.f k a0_0 a0_1 a0_2 a0_3 a0_4 a0_5 a0_6 a0_7 a0_8 a0_9 a0_10 a0_11 a0_12 a0_13 l0_14 l0_15 a1 = some (r1, r2, r3)) :
  Calls Try.prog 14 #[.agg #[.int .i64 a0_0, .int .i64 a0_1, .int .i64 a0_2, .int .i64 a0_3, .int .i64 a0_4, .int .i64 a0_5, .int .i64 a0_6, .int .i64 a0_7, .int .i64 a0_8, .int .i64 a0_9, .int .i64 a0_10, .int .i64 a0_11, .int .i64 a0_12, .int .i64 a0_13, u9000_, u9001_], .int .i64 a1] w fun e w' => e = .returned (.int .i64 r1) ∧ Kd.S k69 69 w' w0.heap.size (fun k_ => ((P0_14_ k_ ∨ P0_15_ k_) ∨ w.heap.size ≤ k_)) u9000_ r2 ∧ Kd.R (Kd.int .u8) 5 w' w0.heap.size (fun k_ => ((P0_14_ k_ ∨ P0_15_ k_) ∨ w.heap.size ≤ k_)) u9001_ r3 ∧ Below w0.heap.size w0 w' ∧ Kept w w' (fun k_ => P0_14_ k_ ∨ P0_15_ k_) := by
 obtain ⟨A14_, c14_, rfl⟩ := Kd.S_slice ho0_14
 obtain ⟨A15_, c15_, rfl⟩ := Kd.R_slice ho0_15
 have hu27 := Try.underlying27
 have O22_ : IsOne Try.prog 22 := ⟨⟨_, Try.underlying22, rfl⟩, by kernel_rfl⟩
 have O25_ : IsOne Try.prog 25 := ⟨⟨_, Try.underlying25, rfl⟩, by kernel_rfl⟩
 unfold laws_markSix.f at h
 obtain ⟨⟨_, _⟩, A1_, h⟩ := Option.bind_eq_some_iff.mp h
 obtain ⟨⟨_, _⟩, A2_, h⟩ := Option.bind_eq_some_iff.mp h
 simp only [Option.some.injEq, Prod.mk.injEq] at h
 obtain ⟨rfl, rfl, rfl⟩ := h
 have HF := Fr.start [27] w
 go_enter Try.func14, Try.ntmps14
 repeat' (first
   | (((with_reducible refine gate_region (id := 0) ?_); apply plain_region) <;>
    (((with_reducible apply Fr.lbox HF rfl rfl rfl); (go_simp; rfl); decide; clear HF; intro g_ w_ HF); (refine lnorm (a' := ?_) ?_ ?_; rotate_left; (simp only [Act.put, List.setIfInBounds_toArray, List.set_cons_zero, List.set_cons_succ, i64_w, i32_w, tmod_nat]; rfl))) <;>
    (apply lpure rfl rfl; (go_simp; with_reducible rfl); (simp only [Act.put, List.setIfInBounds_toArray, List.set_cons_zero, List.set_cons_succ, i64_w, i32_w, tmod_nat]; rfl)) <;>
    (apply lend))
   | (((with_reducible refine gate_region (id := 1) ?_); apply plain_region) <;>
    (apply lpure rfl rfl; (go_simp; with_reducible rfl); (simp only [Act.put, List.setIfInBounds_toArray, List.set_cons_zero, List.set_cons_succ, i64_w, i32_w, tmod_nat]; rfl)) <;>
    (apply HF.lone rfl rfl rfl O25_ rfl; (repeat (first | exact At.head | apply At.tail)); rfl; (simp only [Act.put, List.setIfInBounds_toArray, List.set_cons_zero, List.set_cons_succ, i64_w, i32_w, tmod_nat]; rfl)) <;>
    (apply lpure rfl rfl; (go_simp; with_reducible rfl); (simp only [Act.put, List.setIfInBounds_toArray, List.set_cons_zero, List.set_cons_succ, i64_w, i32_w, tmod_nat]; rfl)) <;>
    (have HB0 := HF.below; have HFb := HF.rebase hB; have r14_ := S_told_ (S_moved ho0_14 (T := [27]) (.below HB0) (by decide)); have r15_ := R_moved ho0_15 (T := [27]) (.below HB0) (by decide); apply lcall rfl rfl rfl Try.func46 (by kernel_rfl) rfl; (with_reducible apply Calls.mono); apply laws_markExtS.calls (w0 := w0) (hB := HFb.below) (ho0 := r14_) (h := A1_); rintro e W1_ ⟨rfl, q1_, b1_, k1_⟩; refine ⟨_, rfl, ?_⟩; have q1t_ := S_told_ q1_; have q2_ := Kd.R_kept r15_ k1_ (fun k_ h15_ h14_ => hp0_14_0_15 k_ h14_.1 h15_); have K1_ := Kept.then_ (Kept.of_below HB0 (fun k_ => P0_14_ k_ ∨ P0_15_ k_)) k1_ (fun k_ h_ => .inl (.inl h_.1)); replace HFb := HFb.keptS b1_ k1_ (fun k_ h_ => Told.type (T := [27]) h_ (by decide)); clear HF; have HF := HFb; clear HFb; rotate_left; (first | rfl | (simp only [List.map_toArray, List.map_cons, List.map_nil]; first | done | rfl)); (refine lnorm (a' := ?_) ?_ ?_; rotate_left; (simp only [Act.put, List.setIfInBounds_toArray, List.set_cons_zero, List.set_cons_succ, i64_w, i32_w, tmod_nat]; rfl))) <;>
    (apply lpure rfl rfl; (go_simp; with_reducible rfl); (simp only [Act.put, List.setIfInBounds_toArray, List.set_cons_zero, List.set_cons_succ, i64_w, i32_w, tmod_nat]; rfl)) <;>
    (apply lend))
   | (((with_reducible refine gate_region (id := 2) ?_); apply plain_region) <;>
    (apply lpure rfl rfl; (go_simp; with_reducible rfl); (simp only [Act.put, List.setIfInBounds_toArray, List.set_cons_zero, List.set_cons_succ, i64_w, i32_w, tmod_nat]; rfl)) <;>
    (apply HF.lone rfl rfl rfl O22_ rfl; (repeat (first | exact At.head | apply At.tail)); rfl; (simp only [Act.put, List.setIfInBounds_toArray, List.set_cons_zero, List.set_cons_succ, i64_w, i32_w, tmod_nat]; rfl)) <;>
    (apply lpure rfl rfl; (go_simp; with_reducible rfl); (simp only [Act.put, List.setIfInBounds_toArray, List.set_cons_zero, List.set_cons_succ, i64_w, i32_w, tmod_nat]; rfl)) <;>
    (have r15t_ := R_tight q2_; apply lcall rfl rfl rfl Try.func13 (by kernel_rfl) rfl; (with_reducible apply Calls.mono); apply laws_markByteS.calls (w0 := w0) (hB := HF.below) (ho0 := r15t_) (h := A2_); rintro e W2_ ⟨rfl, q3_, b2_, k2_⟩; refine ⟨_, rfl, ?_⟩; have q4_ := Kd.S_kept q1_ k2_ (fun k_ h14_ h15_ => h14_.elim (fun h14_ => hp0_14_0_15 k_ h14_.1 (ho0_15.1 k_ h15_)) (fun h14_ => by have h16_ := (Kd.R_bound r15_).1 k_ h15_; have h17_ := h16_.2.2.1; omega)); have K2_ := Kept.then_ K1_ k2_ (fun k_ h_ => .inl (.inr (ho0_15.1 k_ h_))); replace HF := HF.kept b2_ k2_ (R_type r15t_) (by decide); rotate_left; (first | rfl | (simp only [List.map_toArray, List.map_cons, List.map_nil]; first | done | rfl)); (refine lnorm (a' := ?_) ?_ ?_; rotate_left; (simp only [Act.put, List.setIfInBounds_toArray, List.set_cons_zero, List.set_cons_succ, i64_w, i32_w, tmod_nat]; rfl))) <;>
    (apply lpure rfl rfl; (go_simp; with_reducible rfl); (simp only [Act.put, List.setIfInBounds_toArray, List.set_cons_zero, List.set_cons_succ, i64_w, i32_w, tmod_nat]; rfl)) <;>
    (apply lend))
   | (((with_reducible refine gate_region (id := 3) ?_); apply plain_region) <;>
    (apply lpure rfl rfl; (go_simp; with_reducible rfl); (simp only [Act.put, List.setIfInBounds_toArray, List.set_cons_zero, List.set_cons_succ, i64_w, i32_w, tmod_nat]; rfl)) <;>
    (apply lpure rfl rfl; (go_simp; with_reducible rfl); (simp only [Act.put, List.setIfInBounds_toArray, List.set_cons_zero, List.set_cons_succ, i64_w, i32_w, tmod_nat]; rfl)) <;>
    (apply lend))
   | go_step | fail)
 go_ret
 exact ⟨rfl, Kd.S_mono q4_ (fun k_ h_ => h_.elim (fun h_ => .inl (.inl h_.1)) (fun h_ => .inr (Nat.le_trans HB0.size h_))), Kd.R_mono (R_tight q3_) (fun k_ h_ => .inl (.inr (ho0_15.1 k_ h_))), b2_, K2_⟩


/-! ### laws_heldByteS: function 16 -/
def laws_heldByteS.l0 : Nat → List Int → Int → Int → Option (Int)
 | 0, _, _, _ => none
 | k + 1, x0, x1, x5 => if x5 < (x0.length : Int) then (if 0 ≤ x5 then (if (rd x0 x5) = ((x1) % 256) then (laws_heldByteS.l0 k x0 (wrap64 (x1 + 1)) (wrap64 (x5 + 1))) else (some (-1))) else (none)) else (some x1)
def laws_heldByteS.f (k : Nat) (l0 : List Int) (a1 : Int) : Option (Int) := laws_heldByteS.l0 k l0 a1 0
theorem laws_heldByteS.mono_l : ∀ k, (∀ y0 y1 y2, LeO (laws_heldByteS.l0 k y0 y1 y2) (laws_heldByteS.l0 (k + 1) y0 y1 y2))
 | 0 => fun _ _ _ r h => by simp [laws_heldByteS.l0] at h
 | k + 1 => by
  have ih0 := laws_heldByteS.mono_l k
  ·intro y0 y1 y2
   unfold laws_heldByteS.l0
   repeat' first
   | (with_reducible exact ih0 _ _ _)
   | (with_reducible exact LeO.refl _)
   | (with_reducible exact LeO.none _)
   | (with_reducible refine LeO.ite ?_ ?_)
   | (with_reducible refine LeO.bind ?_ (fun _ => ?_))
   | exact ih0 _ _ _
   | exact LeO.none _
   | refine LeO.ite ?_ ?_
   | refine LeO.bind ?_ (fun _ => ?_)
theorem laws_heldByteS.mono : ∀ a0 a1 k, LeO (laws_heldByteS.f k a0 a1) (laws_heldByteS.f (k + 1) a0 a1) := by
 intro a0 a1 k
 have ih0 := laws_heldByteS.mono_l k
 unfold laws_heldByteS.f
 repeat' first
   | (with_reducible exact ih0 _ _ _)
   | (with_reducible exact LeO.refl _)
   | (with_reducible exact LeO.none _)
   | (with_reducible refine LeO.ite ?_ ?_)
   | (with_reducible refine LeO.bind ?_ (fun _ => ?_))
   | exact ih0 _ _ _
   | exact LeO.none _
   | refine LeO.ite ?_ ?_
   | refine LeO.bind ?_ (fun _ => ?_)
set_option maxHeartbeats 8000000 in
set_option maxRecDepth 100000 in
theorem laws_heldByteS.calls (k : Nat) (A0 : Option Addr) (c0 : Nat) (l0 : List Int) (a1 : Int) (r : Int) (w : World) (hr0 : Kd.C (Kd.int .u8) w A0 l0.length l0) (hc0 : l0.length ≤ c0) (h : laws_heldByteS.f k l0 a1 = some r) :
  Calls Try.prog 16 #[.slice A0 l0.length c0, .int .i64 a1] w fun e w' => e = .returned (.int .i64 r) ∧ Drawn0 w w' := by
 have HR0 := Aside0.mk hr0
 have HC0 := Aside0.mk hc0
 clear hr0 hc0
 have H : (laws_heldByteS.l0 k l0 a1 0) = some r := h
 clear h
 have H' := Aside0.mk H
 clear H
 go_enter Try.func16, Try.ntmps16
 go_wp2
 go_loopg [1, 5] k (fun kq v1 v5 w' => ∃ (x1_1 : Int) (x5_1 : Int), v1 = .int .i64 x1_1 ∧ v5 = .int .i64 x5_1 ∧ Aside0 (laws_heldByteS.l0 kq l0 x1_1 x5_1 = some r) ∧ Aside0 (kq ≤ k) ∧ Drawn0 w w')
 case atStart => exact ⟨(a1), (0), (by first | rfl | (simp; done) | (simp [*]; done)), (by first | rfl | (simp; done) | (simp [*]; done)), H', ⟨Nat.le_refl _⟩, by repeat (first | exact Drawn0.refl _ | apply Drawn0.step)⟩
 case round =>
  clear H'
  try clear c1
  try clear p2
  obtain ⟨x1_1, x5_1, rfl, rfl, HA, HK1, ⟨m1, rfl⟩⟩ := hrel
  cases gk with
  | zero => exact absurd HA.out (by simp [laws_heldByteS.l0])
  | succ k1 =>
   have H := HA.out
   clear HA
   simp only [laws_heldByteS.l0] at H
   by_cases c3 : x5_1 < (l0.length : Int)
   ·rw [if_pos c3] at H
    have c3b0 : decide (x5_1 < (l0.length : Int)) = true := decide_eq_true c3
    clear c3
    by_cases c4 : 0 ≤ x5_1
    ·rw [if_pos c4] at H
     have c4b0 : decide (0 ≤ x5_1) = true := decide_eq_true c4
     clear c4
     by_cases c5 : (rd l0 x5_1) = ((x1_1) % 256)
     ·rw [if_pos c5] at H
      have c5b0 : ((rd l0 x5_1) == ((x1_1) % 256)) = true := beq_iff_eq.mpr c5
      have c5b1 : ((rd l0 x5_1) != ((x1_1) % 256)) = false := bne_eq_false_iff_eq.mpr c5
      clear c5
      have H' := Aside0.mk H
      clear H
      have p118 : 0 ≤ (x5_1 : Int) := of_decide_eq_true (by first | (with_reducible assumption) | assumption)
      have q118 : x5_1 < (l0.length : Int) := of_decide_eq_true (by first | (with_reducible assumption) | assumption)
      obtain ⟨ad118, e118, hx118_0⟩ := Kd.at_int HR0.out x5_1 p118 q118
      cases e118
      replace p118 := eq_true p118
      replace q118 := eq_true q118
      go_wp2
      go_roundg k1
      case measure => have := HK1.out; omega
      case rel => exact ⟨(wrap64 (x1_1 + 1)), (wrap64 (x5_1 + 1)), (by first | rfl | (simp; done) | (simp [*]; done)), (by first | rfl | (simp; done) | (simp [*]; done)), H', ⟨by have := HK1.out; omega⟩, by repeat (first | exact Drawn0.refl _ | apply Drawn0.step)⟩
     ·rw [if_neg c5] at H
      have c5b0 : ((rd l0 x5_1) == ((x1_1) % 256)) = false := beq_eq_false_iff_ne.mpr c5
      have c5b1 : ((rd l0 x5_1) != ((x1_1) % 256)) = true := bne_iff_ne.mpr c5
      obtain rfl := Option.some.inj H
      have p118 : 0 ≤ (x5_1 : Int) := of_decide_eq_true (by first | (with_reducible assumption) | assumption)
      have q118 : x5_1 < (l0.length : Int) := of_decide_eq_true (by first | (with_reducible assumption) | assumption)
      obtain ⟨ad118, e118, hx118_0⟩ := Kd.at_int HR0.out x5_1 p118 q118
      cases e118
      replace p118 := eq_true p118
      replace q118 := eq_true q118
      go_wp2
      go_ret
      exact ⟨by first | rfl | (simp; done) | (simp [*]; done), by repeat (first | exact Drawn0.refl _ | apply Drawn0.step)⟩
    ·rw [if_neg c4] at H
     exact absurd H (by simp)
   ·rw [if_neg c3] at H
    have c3b0 : decide (x5_1 < (l0.length : Int)) = false := decide_eq_false c3
    clear c3
    obtain rfl := Option.some.inj H
    go_wp2
    go_ret
    exact ⟨by first | rfl | (simp; done) | (simp [*]; done), by repeat (first | exact Drawn0.refl _ | apply Drawn0.step)⟩

/-! ### laws_szByteS: function 49 -/
def laws_szByteS.f (l0 : List Int) (a1 : Int) : Option (Int) := if (wrap64 (a1 - (l0.length : Int))) < 0 then (some (-1)) else (some (wrap64 (a1 - (l0.length : Int))))
set_option maxHeartbeats 8000000 in
set_option maxRecDepth 100000 in
theorem laws_szByteS.calls (A0 : Option Addr) (c0 : Nat) (l0 : List Int) (a1 : Int) (r : Int) (w : World) (hr0 : Kd.C (Kd.int .u8) w A0 l0.length l0) (hc0 : l0.length ≤ c0) (h : laws_szByteS.f l0 a1 = some r) :
  Calls Try.prog 49 #[.slice A0 l0.length c0, .int .i64 a1] w fun e w' => e = .returned (.int .i64 r) ∧ Drawn0 w w' := by
 have HR0 := Aside0.mk hr0
 have HC0 := Aside0.mk hc0
 clear hr0 hc0
 have H : (if (wrap64 (a1 - (l0.length : Int))) < 0 then (some (-1)) else (some (wrap64 (a1 - (l0.length : Int))))) = some r := h
 clear h
 by_cases c3 : (wrap64 (a1 - (l0.length : Int))) < 0
 ·rw [if_pos c3] at H
  have c3b0 : decide ((wrap64 (a1 - (l0.length : Int))) < 0) = true := decide_eq_true c3
  clear c3
  obtain rfl := Option.some.inj H
  go_enter Try.func49, Try.ntmps49
  go_wp2
  go_ret
  exact ⟨by first | rfl | (simp; done) | (simp [*]; done), by repeat (first | exact Drawn0.refl _ | apply Drawn0.step)⟩
 ·rw [if_neg c3] at H
  have c3b0 : decide ((wrap64 (a1 - (l0.length : Int))) < 0) = false := decide_eq_false c3
  clear c3
  obtain rfl := Option.some.inj H
  go_enter Try.func49, Try.ntmps49
  go_wp2
  go_ret
  exact ⟨by first | rfl | (simp; done) | (simp [*]; done), by repeat (first | exact Drawn0.refl _ | apply Drawn0.step)⟩

/-! ### laws_szExt: function 81 -/
def laws_szExt.f (a0_0 : Int) (l0_1 : List Int) (a1 : Int) : Option (Int) := (laws_szByteS.f l0_1 a1).bind fun t120 => (if t120 < 0 then (some (-1)) else (some t120))
set_option maxHeartbeats 8000000 in
set_option maxRecDepth 100000 in
theorem laws_szExt.calls (a0_0 : Int) (A0_1 : Option Addr) (c0_1 : Nat) (l0_1 : List Int) (a1 : Int) (r : Int) (w : World) (hr0_1 : Kd.C (Kd.int .u8) w A0_1 l0_1.length l0_1) (hc0_1 : l0_1.length ≤ c0_1) (h : laws_szExt.f a0_0 l0_1 a1 = some r) :
  Calls Try.prog 81 #[.agg #[.int .i64 a0_0, .slice A0_1 l0_1.length c0_1], .int .i64 a1] w fun e w' => e = .returned (.int .i64 r) ∧ Below w.heap.size w w' := by
 have hu97 := Try.underlying97
 have O22_ : IsOne Try.prog 22 := ⟨⟨_, Try.underlying22, rfl⟩, by kernel_rfl⟩
 have HR0_1 := Aside0.mk hr0_1
 have HC0_1 := Aside0.mk hc0_1
 clear hr0_1 hc0_1
 have HF := Fr.start [97] w
 unfold laws_szExt.f at h
 have HH := Aside0.mk h
 clear h
 repeat' (first | (have h_ := HH.out; (with_reducible replace h_ := ite_ways h_); clear HH; rcases h_ with ⟨c_, h_⟩ | ⟨c_, h_⟩ <;> (have HH := Aside0.mk h_; clear h_; first | (replace c_ := (show (_ : Bool) = true from c_); subst c_) | (replace c_ := Bool.eq_false_iff.mpr c_; subst c_) | (replace c_ := bne_eq_false_iff_eq.mp (Bool.eq_false_iff.mpr c_); subst c_) | (replace c_ := (show (_ : Bool) = true from c_); try have := beq_eq_false_iff_ne.mpr (bne_iff_ne.mp c_)) | (replace c_ := Bool.eq_false_iff.mpr c_) | (have := beq_iff_eq.mpr c_; have := bne_eq_false_iff_eq.mpr c_; clear c_) | (have := beq_eq_false_iff_ne.mpr c_; have := bne_iff_ne.mpr c_; clear c_) | (have := decide_eq_true (show _ ≤ _ from c_); clear c_) | (have := decide_eq_true (show _ < _ from c_); clear c_) | (have := decide_eq_false (show ¬ (_ ≤ _) from c_); clear c_) | (have := decide_eq_false (show ¬ (_ < _) from c_); clear c_))) | (with_reducible exact (none_ne HH.out).elim) | (with_reducible exact (ft_ne HH.out).elim) | fail)
 all_goals go_enter Try.func81, Try.ntmps81
 all_goals (repeat' (first
    | (((with_reducible refine gate_region (id := 0) ?_); apply plain_region) <;>
    (((with_reducible apply Fr.lbox HF rfl rfl rfl); (go_simp; rfl); decide; clear HF; intro g_ w_ HF); (refine lnorm (a' := ?_) ?_ ?_; rotate_left; (simp only [Act.put, List.setIfInBounds_toArray, List.set_cons_zero, List.set_cons_succ, i64_w, i32_w, tmod_nat]; rfl))) <;>
    (apply lpure rfl rfl; (go_simp; with_reducible rfl); (simp only [Act.put, List.setIfInBounds_toArray, List.set_cons_zero, List.set_cons_succ, i64_w, i32_w, tmod_nat]; rfl)) <;>
    (apply lend))
    | (((with_reducible refine gate_region (id := 1) ?_); apply plain_region) <;>
    (apply lpure rfl rfl; (go_simp; with_reducible rfl); (simp only [Act.put, List.setIfInBounds_toArray, List.set_cons_zero, List.set_cons_succ, i64_w, i32_w, tmod_nat]; rfl)) <;>
    (apply HF.lone rfl rfl rfl O22_ rfl; (repeat (first | exact At.head | apply At.tail)); rfl; (simp only [Act.put, List.setIfInBounds_toArray, List.set_cons_zero, List.set_cons_succ, i64_w, i32_w, tmod_nat]; rfl)) <;>
    (apply lpure rfl rfl; (go_simp; with_reducible rfl); (simp only [Act.put, List.setIfInBounds_toArray, List.set_cons_zero, List.set_cons_succ, i64_w, i32_w, tmod_nat]; rfl)) <;>
    (have h_ := HH.out; (with_reducible replace h_ := Option.bind_eq_some_iff.mp h_); clear HH; obtain ⟨_, A_, h_⟩ := h_; have HH := Aside0.mk h_; clear h_; replace A_ := Aside0.mk A_; apply lcall rfl rfl rfl Try.func49 (by kernel_rfl) rfl; (with_reducible apply Calls.mono); (with_reducible apply laws_szByteS.calls (h := A_.out)); (first | exact Kd.C_below HR0_1.out HF.below); (first | exact HC0_1.out); rintro e w_ ⟨rfl, hb_⟩; refine ⟨_, rfl, ?_⟩; replace HF := HF.drawn hb_; clear hb_; rotate_left; (first | rfl | (simp only [List.map_toArray, List.map_cons, List.map_nil]; first | done | rfl)); clear A_; (refine lnorm (a' := ?_) ?_ ?_; rotate_left; (simp only [Act.put, List.setIfInBounds_toArray, List.set_cons_zero, List.set_cons_succ, i64_w, i32_w, tmod_nat]; rfl))) <;>
    (repeat' (first | (have h_ := HH.out; (with_reducible replace h_ := ite_ways h_); clear HH; rcases h_ with ⟨c_, h_⟩ | ⟨c_, h_⟩ <;> (have HH := Aside0.mk h_; clear h_; first | (replace c_ := (show (_ : Bool) = true from c_); subst c_) | (replace c_ := Bool.eq_false_iff.mpr c_; subst c_) | (replace c_ := bne_eq_false_iff_eq.mp (Bool.eq_false_iff.mpr c_); subst c_) | (replace c_ := (show (_ : Bool) = true from c_); try have := beq_eq_false_iff_ne.mpr (bne_iff_ne.mp c_)) | (replace c_ := Bool.eq_false_iff.mpr c_) | (have := beq_iff_eq.mpr c_; have := bne_eq_false_iff_eq.mpr c_; clear c_) | (have := beq_eq_false_iff_ne.mpr c_; have := bne_iff_ne.mpr c_; clear c_) | (have := decide_eq_true (show _ ≤ _ from c_); clear c_) | (have := decide_eq_true (show _ < _ from c_); clear c_) | (have := decide_eq_false (show ¬ (_ ≤ _) from c_); clear c_) | (have := decide_eq_false (show ¬ (_ < _) from c_); clear c_))) | (with_reducible exact (none_ne HH.out).elim) | (with_reducible exact (ft_ne HH.out).elim) | fail)) <;>
    (apply lpure rfl rfl; (go_simp; with_reducible rfl); (simp only [Act.put, List.setIfInBounds_toArray, List.set_cons_zero, List.set_cons_succ, i64_w, i32_w, tmod_nat]; rfl)) <;>
    (apply lend))
    | (((with_reducible refine gate_region (id := 2) ?_); apply plain_region) <;>
    (apply lpure rfl rfl; (go_simp; with_reducible rfl); (simp only [Act.put, List.setIfInBounds_toArray, List.set_cons_zero, List.set_cons_succ, i64_w, i32_w, tmod_nat]; rfl)) <;>
    (apply lpure rfl rfl; (go_simp; with_reducible rfl); (simp only [Act.put, List.setIfInBounds_toArray, List.set_cons_zero, List.set_cons_succ, i64_w, i32_w, tmod_nat]; rfl)) <;>
    (apply lend))
    | (((with_reducible refine gate_region (id := 3) ?_); apply plain_region) <;>
    (apply lpure rfl rfl; (go_simp; with_reducible rfl); (simp only [Act.put, List.setIfInBounds_toArray, List.set_cons_zero, List.set_cons_succ, i64_w, i32_w, tmod_nat]; rfl)) <;>
    (apply lend))
    | (((with_reducible refine gate_region (id := 4) ?_); apply plain_region) <;>
    (apply lpure rfl rfl; (go_simp; with_reducible rfl); (simp only [Act.put, List.setIfInBounds_toArray, List.set_cons_zero, List.set_cons_succ, i64_w, i32_w, tmod_nat]; rfl)) <;>
    (apply lpure rfl rfl; (go_simp; with_reducible rfl); (simp only [Act.put, List.setIfInBounds_toArray, List.set_cons_zero, List.set_cons_succ, i64_w, i32_w, tmod_nat]; rfl)) <;>
    (apply lend))
    | go_step | fail))
 all_goals (have h_ := HH.out; clear HH; cases h_ <;> (go_ret; exact ⟨by first | rfl | (simp [errW_none, errW_some] <;> rfl) | (simp [*, errW_none, errW_some] <;> rfl), HF.below⟩))

/-! ### laws_szExtS: function 48 -/
def laws_szExtS.l0 : Nat → List (S97) → Int → Int → Option (Int)
 | 0, _, _, _ => none
 | k + 1, x0, x1, x5 => if x5 < (x0.length : Int) then (if 0 ≤ x5 then ((laws_szExt.f ((rd_T97 x0 x5).f0) ((rd_T97 x0 x5).f1) x1).bind fun t122 => (if t122 < 0 then (some (-1)) else (laws_szExtS.l0 k x0 t122 (wrap64 (x5 + 1))))) else (none)) else (some x1)
def laws_szExtS.f (k : Nat) (l0 : List (S97)) (a1 : Int) : Option (Int) := if (wrap64 (a1 - (l0.length : Int))) < 0 then (some (-1)) else (laws_szExtS.l0 k l0 (wrap64 (a1 - (l0.length : Int))) 0)
theorem laws_szExtS.mono_l : ∀ k, (∀ y0 y1 y2, LeO (laws_szExtS.l0 k y0 y1 y2) (laws_szExtS.l0 (k + 1) y0 y1 y2))
 | 0 => fun _ _ _ r h => by simp [laws_szExtS.l0] at h
 | k + 1 => by
  have ih0 := laws_szExtS.mono_l k
  ·intro y0 y1 y2
   unfold laws_szExtS.l0
   repeat' first
   | (with_reducible exact ih0 _ _ _)
   | (with_reducible exact LeO.refl _)
   | (with_reducible exact LeO.none _)
   | (with_reducible refine LeO.ite ?_ ?_)
   | (with_reducible refine LeO.bind ?_ (fun _ => ?_))
   | exact ih0 _ _ _
   | exact LeO.none _
   | refine LeO.ite ?_ ?_
   | refine LeO.bind ?_ (fun _ => ?_)
theorem laws_szExtS.mono : ∀ a0 a1 k, LeO (laws_szExtS.f k a0 a1) (laws_szExtS.f (k + 1) a0 a1) := by
 intro a0 a1 k
 have ih0 := laws_szExtS.mono_l k
 unfold laws_szExtS.f
 repeat' first
   | (with_reducible exact ih0 _ _ _)
   | (with_reducible exact LeO.refl _)
   | (with_reducible exact LeO.none _)
   | (with_reducible refine LeO.ite ?_ ?_)
   | (with_reducible refine LeO.bind ?_ (fun _ => ?_))
   | exact ih0 _ _ _
   | exact LeO.none _
   | refine LeO.ite ?_ ?_
   | refine LeO.bind ?_ (fun _ => ?_)
set_option maxHeartbeats 8000000 in
set_option maxRecDepth 100000 in
theorem laws_szExtS.calls (k : Nat) (A0 : Option Addr) (c0 : Nat) (l0 : List (S97)) (a1 : Int) (r : Int) (w : World) (hr0 : Kd.C k97 w A0 l0.length l0) (hc0 : l0.length ≤ c0) (h : laws_szExtS.f k l0 a1 = some r) :
  Calls Try.prog 48 #[.slice A0 l0.length c0, .int .i64 a1] w fun e w' => e = .returned (.int .i64 r) ∧ Below w.heap.size w w' := by
 have hu97 := Try.underlying97
 have HR0 := Aside0.mk hr0
 have HC0 := Aside0.mk hc0
 clear hr0 hc0
 have HB := Aside0.mk (Below.refl w.heap.size w)
 have H : (if (wrap64 (a1 - (l0.length : Int))) < 0 then (some (-1)) else (laws_szExtS.l0 k l0 (wrap64 (a1 - (l0.length : Int))) 0)) = some r := h
 clear h
 by_cases c3 : (wrap64 (a1 - (l0.length : Int))) < 0
 ·rw [if_pos c3] at H
  have c3b0 : decide ((wrap64 (a1 - (l0.length : Int))) < 0) = true := decide_eq_true c3
  clear c3
  obtain rfl := Option.some.inj H
  go_enter Try.func48, Try.ntmps48
  go_wp2
  go_ret
  exact ⟨by first | rfl | (simp [errW_none, errW_some] <;> rfl) | (simp [*, errW_none, errW_some] <;> rfl), by repeat (first | (with_reducible first | exact HB.out | apply below_alloc | apply pw_below_drewN | apply below_drew1) | exact HB.out)⟩
 ·rw [if_neg c3] at H
  have c3b0 : decide ((wrap64 (a1 - (l0.length : Int))) < 0) = false := decide_eq_false c3
  clear c3
  have H' := Aside0.mk H
  clear H
  go_enter Try.func48, Try.ntmps48
  go_wp2
  go_loopg [1, 5] k (fun kq v1 v5 w' => ∃ (x1_1 : Int) (x5_1 : Int), v1 = .int .i64 x1_1 ∧ v5 = .int .i64 x5_1 ∧ Aside0 (laws_szExtS.l0 kq l0 x1_1 x5_1 = some r) ∧ Aside0 (kq ≤ k) ∧ Aside0 (Below w.heap.size w w'))
  case atStart => exact ⟨(wrap64 (a1 - (l0.length : Int))), (0), (by first | rfl | (simp; done) | (simp [*]; done)), (by first | rfl | (simp; done) | (simp [*]; done)), H', ⟨Nat.le_refl _⟩, ⟨by repeat (first | (with_reducible first | exact HB.out | apply below_alloc | apply pw_below_drewN | apply below_drew1) | exact HB.out)⟩⟩
  case round =>
   clear H'
   try clear p2
   try clear c3
   try clear c3b0
   obtain ⟨x1_1, x5_1, rfl, rfl, HA, HK1, HB⟩ := hrel
   cases gk with
   | zero => exact absurd HA.out (by simp [laws_szExtS.l0])
   | succ k1 =>
    have H := HA.out
    clear HA
    simp only [laws_szExtS.l0] at H
    by_cases c4 : x5_1 < (l0.length : Int)
    ·rw [if_pos c4] at H
     have c4b0 : decide (x5_1 < (l0.length : Int)) = true := decide_eq_true c4
     clear c4
     by_cases c5 : 0 ≤ x5_1
     ·rw [if_pos c5] at H
      have c5b0 : decide (0 ≤ x5_1) = true := decide_eq_true c5
      clear c5
      replace H := Option.bind_eq_some_iff.mp H
      obtain ⟨t122, A60, H⟩ := H
      replace H : (if t122 < 0 then (some (-1)) else (laws_szExtS.l0 k1 l0 t122 (wrap64 (x5_1 + 1)))) = some r := H
      have A6 := Aside0.mk A60
      clear A60
      by_cases c7 : t122 < 0
      ·rw [if_pos c7] at H
       have c7b0 : decide (t122 < 0) = true := decide_eq_true c7
       clear c7
       obtain rfl := Option.some.inj H
       have p121 : 0 ≤ (x5_1 : Int) := of_decide_eq_true (by first | (with_reducible assumption) | assumption)
       have q121 : x5_1 < (l0.length : Int) := of_decide_eq_true (by first | (with_reducible assumption) | assumption)
       obtain ⟨ad121, A121_1, c121_1, e121, hx121_0, hx121_1, hl121_1, hi121_1⟩ := at_T97 HR0.out x5_1 p121 q121
       cases e121
       replace hx121_0 := (HB.out.cell (World.block_lt_of_cell? w _ hx121_0)).trans hx121_0
       replace hx121_1 := (HB.out.cell (World.block_lt_of_cell? w _ hx121_1)).trans hx121_1
       have HR121_1 := Aside0.mk hi121_1
       have HC121_1 := Aside0.mk hl121_1
       clear hi121_1 hl121_1
       replace p121 := eq_true p121
       replace q121 := eq_true q121
       go_wp2_with (first | ((with_reducible refine gate_callee (f := 81) rfl ?_); refine goesL_ (some 23) rfl rfl Try.func81 (by kernel_rfl) rfl #[.agg #[.int .i64 ((rd_T97 l0 x5_1).f0), .slice A121_1 ((rd_T97 l0 x5_1).f1).length c121_1], .int .i64 x1_1] rfl (by (try simp only [List.map_toArray, List.map_cons, List.map_nil]); first | done | rfl | (simp only [List.length_drop, List.length_take]; rfl)) ?_; (with_reducible refine (laws_szExt.calls ((rd_T97 l0 x5_1).f0) _ _ ((rd_T97 l0 x5_1).f1) x1_1 t122 _ ?side1 ?side2 A6.out).mono ?_); (case side1 => repeat (first | exact (Kd.C_below HR121_1.out HB.out) | (with_reducible refine Kd.C_alloc ?_ _) | (with_reducible refine Kd.C_drewN ?_ _) | (with_reducible refine Kd.C_drew ?_))); (case side2 => exact HC121_1.out); rintro e w8 ⟨rfl, hb⟩; refine ⟨_, rfl, ?_⟩; have n0_ := Aside0.mk (below_step (by repeat (first | (with_reducible first | exact HB.out | apply below_alloc | apply pw_below_drewN | apply below_drew1) | exact HB.out)) hb); clear HB; have HB := n0_; clear n0_; (try clear hb); (try clear hb2); (try clear hk); (try clear hi)))
       go_ret
       exact ⟨by first | rfl | (simp [errW_none, errW_some] <;> rfl) | (simp [*, errW_none, errW_some] <;> rfl), by repeat (first | (with_reducible first | exact HB.out | apply below_alloc | apply pw_below_drewN | apply below_drew1) | exact HB.out)⟩
      ·rw [if_neg c7] at H
       have c7b0 : decide (t122 < 0) = false := decide_eq_false c7
       clear c7
       have H' := Aside0.mk H
       clear H
       have p121 : 0 ≤ (x5_1 : Int) := of_decide_eq_true (by first | (with_reducible assumption) | assumption)
       have q121 : x5_1 < (l0.length : Int) := of_decide_eq_true (by first | (with_reducible assumption) | assumption)
       obtain ⟨ad121, A121_1, c121_1, e121, hx121_0, hx121_1, hl121_1, hi121_1⟩ := at_T97 HR0.out x5_1 p121 q121
       cases e121
       replace hx121_0 := (HB.out.cell (World.block_lt_of_cell? w _ hx121_0)).trans hx121_0
       replace hx121_1 := (HB.out.cell (World.block_lt_of_cell? w _ hx121_1)).trans hx121_1
       have HR121_1 := Aside0.mk hi121_1
       have HC121_1 := Aside0.mk hl121_1
       clear hi121_1 hl121_1
       replace p121 := eq_true p121
       replace q121 := eq_true q121
       go_wp2_with (first | ((with_reducible refine gate_callee (f := 81) rfl ?_); refine goesL_ (some 23) rfl rfl Try.func81 (by kernel_rfl) rfl #[.agg #[.int .i64 ((rd_T97 l0 x5_1).f0), .slice A121_1 ((rd_T97 l0 x5_1).f1).length c121_1], .int .i64 x1_1] rfl (by (try simp only [List.map_toArray, List.map_cons, List.map_nil]); first | done | rfl | (simp only [List.length_drop, List.length_take]; rfl)) ?_; (with_reducible refine (laws_szExt.calls ((rd_T97 l0 x5_1).f0) _ _ ((rd_T97 l0 x5_1).f1) x1_1 t122 _ ?side1 ?side2 A6.out).mono ?_); (case side1 => repeat (first | exact (Kd.C_below HR121_1.out HB.out) | (with_reducible refine Kd.C_alloc ?_ _) | (with_reducible refine Kd.C_drewN ?_ _) | (with_reducible refine Kd.C_drew ?_))); (case side2 => exact HC121_1.out); rintro e w9 ⟨rfl, hb⟩; refine ⟨_, rfl, ?_⟩; have n0_ := Aside0.mk (below_step (by repeat (first | (with_reducible first | exact HB.out | apply below_alloc | apply pw_below_drewN | apply below_drew1) | exact HB.out)) hb); clear HB; have HB := n0_; clear n0_; (try clear hb); (try clear hb2); (try clear hk); (try clear hi)))
       go_roundg k1
       case measure => have := HK1.out; omega
       case rel => exact ⟨(t122), (wrap64 (x5_1 + 1)), (by first | rfl | (simp; done) | (simp [*]; done)), (by first | rfl | (simp; done) | (simp [*]; done)), H', ⟨by have := HK1.out; omega⟩, ⟨by repeat (first | (with_reducible first | exact HB.out | apply below_alloc | apply pw_below_drewN | apply below_drew1) | exact HB.out)⟩⟩
     ·rw [if_neg c5] at H
      exact absurd H (by simp)
    ·rw [if_neg c4] at H
     have c4b0 : decide (x5_1 < (l0.length : Int)) = false := decide_eq_false c4
     clear c4
     obtain rfl := Option.some.inj H
     go_wp2
     go_ret
     exact ⟨by first | rfl | (simp [errW_none, errW_some] <;> rfl) | (simp [*, errW_none, errW_some] <;> rfl), by repeat (first | (with_reducible first | exact HB.out | apply below_alloc | apply pw_below_drewN | apply below_drew1) | exact HB.out)⟩

/-! ### laws_szSix: function 17 -/
def laws_szSix.f (k : Nat) (a0_0 : Int) (a0_1 : Int) (a0_2 : Int) (a0_3 : Int) (a0_4 : Int) (a0_5 : Int) (a0_6 : Int) (a0_7 : Int) (a0_8 : Int) (a0_9 : Int) (a0_10 : Int) (a0_11 : Int) (a0_12 : Int) (a0_13 : Int) (l0_14 : List (S97)) (l0_15 : List Int) (a1 : Int) : Option (Int) := (laws_szExtS.f k l0_14 a1).bind fun t124 => (if t124 < 0 then (some (-1)) else ((laws_szByteS.f l0_15 t124).bind fun t125 => (if t125 < 0 then (some (-1)) else (some t125))))
theorem laws_szSix.mono : ∀ a0 a1 a2 a3 a4 a5 a6 a7 a8 a9 a10 a11 a12 a13 a14 a15 a16 k, LeO (laws_szSix.f k a0 a1 a2 a3 a4 a5 a6 a7 a8 a9 a10 a11 a12 a13 a14 a15 a16) (laws_szSix.f (k + 1) a0 a1 a2 a3 a4 a5 a6 a7 a8 a9 a10 a11 a12 a13 a14 a15 a16) := by
 intro a0 a1 a2 a3 a4 a5 a6 a7 a8 a9 a10 a11 a12 a13 a14 a15 a16 k
 unfold laws_szSix.f
 repeat' first
   | (with_reducible exact laws_szExtS.mono _ _ _)
   | (with_reducible exact LeO.refl _)
   | (with_reducible exact LeO.none _)
   | (with_reducible refine LeO.ite ?_ ?_)
   | (with_reducible refine LeO.bind ?_ (fun _ => ?_))
   | exact laws_szExtS.mono _ _ _
   | exact LeO.none _
   | refine LeO.ite ?_ ?_
   | refine LeO.bind ?_ (fun _ => ?_)
set_option maxHeartbeats 8000000 in
set_option maxRecDepth 100000 in
theorem laws_szSix.calls (k : Nat) (a0_0 : Int) (a0_1 : Int) (a0_2 : Int) (a0_3 : Int) (a0_4 : Int) (a0_5 : Int) (a0_6 : Int) (a0_7 : Int) (a0_8 : Int) (a0_9 : Int) (a0_10 : Int) (a0_11 : Int) (a0_12 : Int) (a0_13 : Int) (A0_14 : Option Addr) (c0_14 : Nat) (l0_14 : List (S97)) (A0_15 : Option Addr) (c0_15 : Nat) (l0_15 : List Int) (a1 : Int) (r : Int) (w : World) (hr0_14 : Kd.C k97 w A0_14 l0_14.length l0_14) (hc0_14 : l0_14.length ≤ c0_14) (hr0_15 : Kd.C (Kd.int .u8) w A0_15 l0_15.length l0_15) (hc0_15 : l0_15.length ≤ c0_15) (h : laws_szSix.f k a0_0 a0_1 a0_2 a0_3 a0_4 a0_5 a0_6 a0_7 a0_8 a0_9 a0_10 a0_11 a0_12 a0_13 l0_14 l0_15 a1 = some r) :
  Calls Try.prog 17 #[.agg #[.int .i64 a0_0, .int .i64 a0_1, .int .i64 a0_2, .int .i64 a0_3, .int .i64 a0_4, .int .i64 a0_5, .int .i64 a0_6, .int .i64 a0_7, .int .i64 a0_8, .int .i64 a0_9, .int .i64 a0_10, .int .i64 a0_11, .int .i64 a0_12, .int .i64 a0_13, .slice A0_14 l0_14.length c0_14, .slice A0_15 l0_15.length c0_15], .int .i64 a1] w fun e w' => e = .returned (.int .i64 r) ∧ Below w.heap.size w w' := by
 have hu39 := Try.underlying39
 have O22_ : IsOne Try.prog 22 := ⟨⟨_, Try.underlying22, rfl⟩, by kernel_rfl⟩
 have O37_ : IsOne Try.prog 37 := ⟨⟨_, Try.underlying37, rfl⟩, by kernel_rfl⟩
 have HR0_14 := Aside0.mk hr0_14
 have HC0_14 := Aside0.mk hc0_14
 have HR0_15 := Aside0.mk hr0_15
 have HC0_15 := Aside0.mk hc0_15
 clear hr0_14 hc0_14 hr0_15 hc0_15
 have HF := Fr.start [39] w
 unfold laws_szSix.f at h
 have HH := Aside0.mk h
 clear h
 repeat' (first | (have h_ := HH.out; (with_reducible replace h_ := ite_ways h_); clear HH; rcases h_ with ⟨c_, h_⟩ | ⟨c_, h_⟩ <;> (have HH := Aside0.mk h_; clear h_; first | (replace c_ := (show (_ : Bool) = true from c_); subst c_) | (replace c_ := Bool.eq_false_iff.mpr c_; subst c_) | (replace c_ := bne_eq_false_iff_eq.mp (Bool.eq_false_iff.mpr c_); subst c_) | (replace c_ := (show (_ : Bool) = true from c_); try have := beq_eq_false_iff_ne.mpr (bne_iff_ne.mp c_)) | (replace c_ := Bool.eq_false_iff.mpr c_) | (have := beq_iff_eq.mpr c_; have := bne_eq_false_iff_eq.mpr c_; clear c_) | (have := beq_eq_false_iff_ne.mpr c_; have := bne_iff_ne.mpr c_; clear c_) | (have := decide_eq_true (show _ ≤ _ from c_); clear c_) | (have := decide_eq_true (show _ < _ from c_); clear c_) | (have := decide_eq_false (show ¬ (_ ≤ _) from c_); clear c_) | (have := decide_eq_false (show ¬ (_ < _) from c_); clear c_))) | (with_reducible exact (none_ne HH.out).elim) | (with_reducible exact (ft_ne HH.out).elim) | fail)
 all_goals go_enter Try.func17, Try.ntmps17
 all_goals (repeat' (first
    | (((with_reducible refine gate_region (id := 0) ?_); apply plain_region) <;>
    (((with_reducible apply Fr.lbox HF rfl rfl rfl); (go_simp; rfl); decide; clear HF; intro g_ w_ HF); (refine lnorm (a' := ?_) ?_ ?_; rotate_left; (simp only [Act.put, List.setIfInBounds_toArray, List.set_cons_zero, List.set_cons_succ, i64_w, i32_w, tmod_nat]; rfl))) <;>
    (apply lpure rfl rfl; (go_simp; with_reducible rfl); (simp only [Act.put, List.setIfInBounds_toArray, List.set_cons_zero, List.set_cons_succ, i64_w, i32_w, tmod_nat]; rfl)) <;>
    (apply lend))
    | (((with_reducible refine gate_region (id := 1) ?_); apply plain_region) <;>
    (apply lpure rfl rfl; (go_simp; with_reducible rfl); (simp only [Act.put, List.setIfInBounds_toArray, List.set_cons_zero, List.set_cons_succ, i64_w, i32_w, tmod_nat]; rfl)) <;>
    (apply HF.lone rfl rfl rfl O37_ rfl; (repeat (first | exact At.head | apply At.tail)); rfl; (simp only [Act.put, List.setIfInBounds_toArray, List.set_cons_zero, List.set_cons_succ, i64_w, i32_w, tmod_nat]; rfl)) <;>
    (apply lpure rfl rfl; (go_simp; with_reducible rfl); (simp only [Act.put, List.setIfInBounds_toArray, List.set_cons_zero, List.set_cons_succ, i64_w, i32_w, tmod_nat]; rfl)) <;>
    (have h_ := HH.out; (with_reducible replace h_ := Option.bind_eq_some_iff.mp h_); clear HH; obtain ⟨_, A_, h_⟩ := h_; have HH := Aside0.mk h_; clear h_; replace A_ := Aside0.mk A_; apply lcall rfl rfl rfl Try.func48 (by kernel_rfl) rfl; (with_reducible apply Calls.mono); (with_reducible apply laws_szExtS.calls (h := A_.out)); (first | exact Kd.C_below HR0_14.out HF.below | exact Kd.C_below HR0_15.out HF.below); (first | exact HC0_14.out | exact HC0_15.out); rintro e w_ ⟨rfl, hb_⟩; refine ⟨_, rfl, ?_⟩; replace HF := HF.call hb_; clear hb_; rotate_left; (first | rfl | (simp only [List.map_toArray, List.map_cons, List.map_nil]; first | done | rfl)); clear A_; (refine lnorm (a' := ?_) ?_ ?_; rotate_left; (simp only [Act.put, List.setIfInBounds_toArray, List.set_cons_zero, List.set_cons_succ, i64_w, i32_w, tmod_nat]; rfl))) <;>
    (repeat' (first | (have h_ := HH.out; (with_reducible replace h_ := ite_ways h_); clear HH; rcases h_ with ⟨c_, h_⟩ | ⟨c_, h_⟩ <;> (have HH := Aside0.mk h_; clear h_; first | (replace c_ := (show (_ : Bool) = true from c_); subst c_) | (replace c_ := Bool.eq_false_iff.mpr c_; subst c_) | (replace c_ := bne_eq_false_iff_eq.mp (Bool.eq_false_iff.mpr c_); subst c_) | (replace c_ := (show (_ : Bool) = true from c_); try have := beq_eq_false_iff_ne.mpr (bne_iff_ne.mp c_)) | (replace c_ := Bool.eq_false_iff.mpr c_) | (have := beq_iff_eq.mpr c_; have := bne_eq_false_iff_eq.mpr c_; clear c_) | (have := beq_eq_false_iff_ne.mpr c_; have := bne_iff_ne.mpr c_; clear c_) | (have := decide_eq_true (show _ ≤ _ from c_); clear c_) | (have := decide_eq_true (show _ < _ from c_); clear c_) | (have := decide_eq_false (show ¬ (_ ≤ _) from c_); clear c_) | (have := decide_eq_false (show ¬ (_ < _) from c_); clear c_))) | (with_reducible exact (none_ne HH.out).elim) | (with_reducible exact (ft_ne HH.out).elim) | fail)) <;>
    (apply lpure rfl rfl; (go_simp; with_reducible rfl); (simp only [Act.put, List.setIfInBounds_toArray, List.set_cons_zero, List.set_cons_succ, i64_w, i32_w, tmod_nat]; rfl)) <;>
    (apply lend))
    | (((with_reducible refine gate_region (id := 2) ?_); apply plain_region) <;>
    (apply lpure rfl rfl; (go_simp; with_reducible rfl); (simp only [Act.put, List.setIfInBounds_toArray, List.set_cons_zero, List.set_cons_succ, i64_w, i32_w, tmod_nat]; rfl)) <;>
    (apply lpure rfl rfl; (go_simp; with_reducible rfl); (simp only [Act.put, List.setIfInBounds_toArray, List.set_cons_zero, List.set_cons_succ, i64_w, i32_w, tmod_nat]; rfl)) <;>
    (apply lend))
    | (((with_reducible refine gate_region (id := 3) ?_); apply plain_region) <;>
    (apply lpure rfl rfl; (go_simp; with_reducible rfl); (simp only [Act.put, List.setIfInBounds_toArray, List.set_cons_zero, List.set_cons_succ, i64_w, i32_w, tmod_nat]; rfl)) <;>
    (apply lend))
    | (((with_reducible refine gate_region (id := 4) ?_); apply plain_region) <;>
    (apply lpure rfl rfl; (go_simp; with_reducible rfl); (simp only [Act.put, List.setIfInBounds_toArray, List.set_cons_zero, List.set_cons_succ, i64_w, i32_w, tmod_nat]; rfl)) <;>
    (apply HF.lone rfl rfl rfl O22_ rfl; (repeat (first | exact At.head | apply At.tail)); rfl; (simp only [Act.put, List.setIfInBounds_toArray, List.set_cons_zero, List.set_cons_succ, i64_w, i32_w, tmod_nat]; rfl)) <;>
    (apply lpure rfl rfl; (go_simp; with_reducible rfl); (simp only [Act.put, List.setIfInBounds_toArray, List.set_cons_zero, List.set_cons_succ, i64_w, i32_w, tmod_nat]; rfl)) <;>
    (have h_ := HH.out; (with_reducible replace h_ := Option.bind_eq_some_iff.mp h_); clear HH; obtain ⟨_, A_, h_⟩ := h_; have HH := Aside0.mk h_; clear h_; replace A_ := Aside0.mk A_; apply lcall rfl rfl rfl Try.func49 (by kernel_rfl) rfl; (with_reducible apply Calls.mono); (with_reducible apply laws_szByteS.calls (h := A_.out)); (first | exact Kd.C_below HR0_14.out HF.below | exact Kd.C_below HR0_15.out HF.below); (first | exact HC0_14.out | exact HC0_15.out); rintro e w_ ⟨rfl, hb_⟩; refine ⟨_, rfl, ?_⟩; replace HF := HF.drawn hb_; clear hb_; rotate_left; (first | rfl | (simp only [List.map_toArray, List.map_cons, List.map_nil]; first | done | rfl)); clear A_; (refine lnorm (a' := ?_) ?_ ?_; rotate_left; (simp only [Act.put, List.setIfInBounds_toArray, List.set_cons_zero, List.set_cons_succ, i64_w, i32_w, tmod_nat]; rfl))) <;>
    (repeat' (first | (have h_ := HH.out; (with_reducible replace h_ := ite_ways h_); clear HH; rcases h_ with ⟨c_, h_⟩ | ⟨c_, h_⟩ <;> (have HH := Aside0.mk h_; clear h_; first | (replace c_ := (show (_ : Bool) = true from c_); subst c_) | (replace c_ := Bool.eq_false_iff.mpr c_; subst c_) | (replace c_ := bne_eq_false_iff_eq.mp (Bool.eq_false_iff.mpr c_); subst c_) | (replace c_ := (show (_ : Bool) = true from c_); try have := beq_eq_false_iff_ne.mpr (bne_iff_ne.mp c_)) | (replace c_ := Bool.eq_false_iff.mpr c_) | (have := beq_iff_eq.mpr c_; have := bne_eq_false_iff_eq.mpr c_; clear c_) | (have := beq_eq_false_iff_ne.mpr c_; have := bne_iff_ne.mpr c_; clear c_) | (have := decide_eq_true (show _ ≤ _ from c_); clear c_) | (have := decide_eq_true (show _ < _ from c_); clear c_) | (have := decide_eq_false (show ¬ (_ ≤ _) from c_); clear c_) | (have := decide_eq_false (show ¬ (_ < _) from c_); clear c_))) | (with_reducible exact (none_ne HH.out).elim) | (with_reducible exact (ft_ne HH.out).elim) | fail)) <;>
    (apply lpure rfl rfl; (go_simp; with_reducible rfl); (simp only [Act.put, List.setIfInBounds_toArray, List.set_cons_zero, List.set_cons_succ, i64_w, i32_w, tmod_nat]; rfl)) <;>
    (apply lend))
    | (((with_reducible refine gate_region (id := 5) ?_); apply plain_region) <;>
    (apply lpure rfl rfl; (go_simp; with_reducible rfl); (simp only [Act.put, List.setIfInBounds_toArray, List.set_cons_zero, List.set_cons_succ, i64_w, i32_w, tmod_nat]; rfl)) <;>
    (apply lpure rfl rfl; (go_simp; with_reducible rfl); (simp only [Act.put, List.setIfInBounds_toArray, List.set_cons_zero, List.set_cons_succ, i64_w, i32_w, tmod_nat]; rfl)) <;>
    (apply lend))
    | (((with_reducible refine gate_region (id := 6) ?_); apply plain_region) <;>
    (apply lpure rfl rfl; (go_simp; with_reducible rfl); (simp only [Act.put, List.setIfInBounds_toArray, List.set_cons_zero, List.set_cons_succ, i64_w, i32_w, tmod_nat]; rfl)) <;>
    (apply lend))
    | (((with_reducible refine gate_region (id := 7) ?_); apply plain_region) <;>
    (apply lpure rfl rfl; (go_simp; with_reducible rfl); (simp only [Act.put, List.setIfInBounds_toArray, List.set_cons_zero, List.set_cons_succ, i64_w, i32_w, tmod_nat]; rfl)) <;>
    (apply lpure rfl rfl; (go_simp; with_reducible rfl); (simp only [Act.put, List.setIfInBounds_toArray, List.set_cons_zero, List.set_cons_succ, i64_w, i32_w, tmod_nat]; rfl)) <;>
    (apply lend))
    | go_step | fail))
 all_goals (have h_ := HH.out; clear HH; cases h_ <;> (go_ret; exact ⟨by first | rfl | (simp [errW_none, errW_some] <;> rfl) | (simp [*, errW_none, errW_some] <;> rfl), HF.below⟩))

/-! ### spec_l06Inner: function 39 -/
def spec_l06Inner.f (a0 : Int) : Option (Bool) := if a0 = 0 then (some true) else (if a0 = 43 then (some true) else (some (a0 == 60)))
set_option maxHeartbeats 8000000 in
set_option maxRecDepth 100000 in
theorem spec_l06Inner.calls (a0 : Int) (r : Bool) (w : World) (h : spec_l06Inner.f a0 = some r) :
  Calls Try.prog 39 #[.int .i64 a0] w fun e w' => e = .returned (.bool r) ∧ Drawn0 w w' := by
 have H : (if a0 = 0 then (some true) else (if a0 = 43 then (some true) else (some (a0 == 60)))) = some r := h
 clear h
 by_cases c2 : a0 = 0
 ·rw [if_pos c2] at H
  have c2b0 : (a0 == 0) = true := beq_iff_eq.mpr c2
  have c2b1 : (a0 != 0) = false := bne_eq_false_iff_eq.mpr c2
  clear c2
  obtain rfl := Option.some.inj H
  go_enter Try.func39, Try.ntmps39
  go_wp2
  go_ret
  exact ⟨by first | rfl | (simp; done) | (simp [*]; done), by repeat (first | exact Drawn0.refl _ | apply Drawn0.step)⟩
 ·rw [if_neg c2] at H
  have c2b0 : (a0 == 0) = false := beq_eq_false_iff_ne.mpr c2
  have c2b1 : (a0 != 0) = true := bne_iff_ne.mpr c2
  by_cases c3 : a0 = 43
  ·rw [if_pos c3] at H
   have c3b0 : (a0 == 43) = true := beq_iff_eq.mpr c3
   have c3b1 : (a0 != 43) = false := bne_eq_false_iff_eq.mpr c3
   clear c3
   obtain rfl := Option.some.inj H
   go_enter Try.func39, Try.ntmps39
   go_wp2
   go_ret
   exact ⟨by first | rfl | (simp; done) | (simp [*]; done), by repeat (first | exact Drawn0.refl _ | apply Drawn0.step)⟩
  ·rw [if_neg c3] at H
   have c3b0 : (a0 == 43) = false := beq_eq_false_iff_ne.mpr c3
   have c3b1 : (a0 != 43) = true := bne_iff_ne.mpr c3
   obtain rfl := Option.some.inj H
   go_enter Try.func39, Try.ntmps39
   go_wp2
   go_ret
   exact ⟨by first | rfl | (simp; done) | (simp [*]; done), by repeat (first | exact Drawn0.refl _ | apply Drawn0.step)⟩

/-! ### spec_l05In: function 72 -/
def spec_l05In.f (a0 : Int) (a1 : Int) : Option (Bool) := if a0 ≥ 0 then (some (decide (a0 ≤ a1))) else (some false)
set_option maxHeartbeats 8000000 in
set_option maxRecDepth 100000 in
theorem spec_l05In.calls (a0 : Int) (a1 : Int) (r : Bool) (w : World) (h : spec_l05In.f a0 a1 = some r) :
  Calls Try.prog 72 #[.int .i64 a0, .int .i64 a1] w fun e w' => e = .returned (.bool r) ∧ Drawn0 w w' := by
 have H : (if a0 ≥ 0 then (some (decide (a0 ≤ a1))) else (some false)) = some r := h
 clear h
 by_cases c3 : a0 ≥ 0
 ·rw [if_pos c3] at H
  have c3b0 : decide (0 ≤ a0) = true := decide_eq_true c3
  clear c3
  obtain rfl := Option.some.inj H
  go_enter Try.func72, Try.ntmps72
  go_wp2
  go_ret
  exact ⟨by first | rfl | (simp; done) | (simp [*]; done), by repeat (first | exact Drawn0.refl _ | apply Drawn0.step)⟩
 ·rw [if_neg c3] at H
  have c3b0 : decide (0 ≤ a0) = false := decide_eq_false c3
  clear c3
  obtain rfl := Option.some.inj H
  go_enter Try.func72, Try.ntmps72
  go_wp2
  go_ret
  exact ⟨by first | rfl | (simp; done) | (simp [*]; done), by repeat (first | exact Drawn0.refl _ | apply Drawn0.step)⟩

/-! ### spec_l03Half: function 107 -/
def spec_l03Half.f (a0 : Int) : Option (Bool) := if a0 ≥ 0 then (some (decide (a0 ≤ 4294967295))) else (some false)
set_option maxHeartbeats 8000000 in
set_option maxRecDepth 100000 in
theorem spec_l03Half.calls (a0 : Int) (r : Bool) (w : World) (h : spec_l03Half.f a0 = some r) :
  Calls Try.prog 107 #[.int .i64 a0] w fun e w' => e = .returned (.bool r) ∧ Drawn0 w w' := by
 have H : (if a0 ≥ 0 then (some (decide (a0 ≤ 4294967295))) else (some false)) = some r := h
 clear h
 by_cases c2 : a0 ≥ 0
 ·rw [if_pos c2] at H
  have c2b0 : decide (0 ≤ a0) = true := decide_eq_true c2
  clear c2
  obtain rfl := Option.some.inj H
  go_enter Try.func107, Try.ntmps107
  go_wp2
  go_ret
  exact ⟨by first | rfl | (simp; done) | (simp [*]; done), by repeat (first | exact Drawn0.refl _ | apply Drawn0.step)⟩
 ·rw [if_neg c2] at H
  have c2b0 : decide (0 ≤ a0) = false := decide_eq_false c2
  clear c2
  obtain rfl := Option.some.inj H
  go_enter Try.func107, Try.ntmps107
  go_wp2
  go_ret
  exact ⟨by first | rfl | (simp; done) | (simp [*]; done), by repeat (first | exact Drawn0.refl _ | apply Drawn0.step)⟩

/-! ### spec_AddrOk: function 82 -/
def spec_AddrOk.f (a0_0 : Int) (a0_1 : Int) (a0_2 : Int) (a0_3 : Int) (a0_4 : Int) : Option (Bool) := if a0_0 = 4 then (if a0_1 = 0 then (if a0_2 = 0 then (if a0_3 = 0 then ((spec_l03Half.f a0_4).bind fun t127 => (some t127)) else (some false)) else (some false)) else (some false)) else (if a0_0 = 6 then ((spec_l03Half.f a0_1).bind fun t128 => (if t128 = true then ((spec_l03Half.f a0_2).bind fun t129 => (if t129 = true then ((spec_l03Half.f a0_3).bind fun t130 => (if t130 = true then ((spec_l03Half.f a0_4).bind fun t131 => (some t131)) else (some false))) else (some false))) else (some false))) else (some false))
set_option maxHeartbeats 8000000 in
set_option maxRecDepth 100000 in
theorem spec_AddrOk.calls (a0_0 : Int) (a0_1 : Int) (a0_2 : Int) (a0_3 : Int) (a0_4 : Int) (r : Bool) (w : World) (h : spec_AddrOk.f a0_0 a0_1 a0_2 a0_3 a0_4 = some r) :
  Calls Try.prog 82 #[.agg #[.int .i64 a0_0, .int .i64 a0_1, .int .i64 a0_2, .int .i64 a0_3, .int .i64 a0_4]] w fun e w' => e = .returned (.bool r) ∧ Below w.heap.size w w' := by
 have hu24 := Try.underlying24
 have O3_ : IsOne Try.prog 3 := ⟨⟨_, Try.underlying3, rfl⟩, by kernel_rfl⟩
 have HF := Fr.start [24] w
 unfold spec_AddrOk.f at h
 have HH := Aside0.mk h
 clear h
 repeat' (first | (have h_ := HH.out; (with_reducible replace h_ := ite_ways h_); clear HH; rcases h_ with ⟨c_, h_⟩ | ⟨c_, h_⟩ <;> (have HH := Aside0.mk h_; clear h_; first | (replace c_ := (show (_ : Bool) = true from c_); subst c_) | (replace c_ := Bool.eq_false_iff.mpr c_; subst c_) | (replace c_ := bne_eq_false_iff_eq.mp (Bool.eq_false_iff.mpr c_); subst c_) | (replace c_ := (show (_ : Bool) = true from c_); try have := beq_eq_false_iff_ne.mpr (bne_iff_ne.mp c_)) | (replace c_ := Bool.eq_false_iff.mpr c_) | (have := beq_iff_eq.mpr c_; have := bne_eq_false_iff_eq.mpr c_; clear c_) | (have := beq_eq_false_iff_ne.mpr c_; have := bne_iff_ne.mpr c_; clear c_) | (have := decide_eq_true (show _ ≤ _ from c_); clear c_) | (have := decide_eq_true (show _ < _ from c_); clear c_) | (have := decide_eq_false (show ¬ (_ ≤ _) from c_); clear c_) | (have := decide_eq_false (show ¬ (_ < _) from c_); clear c_))) | (with_reducible exact (none_ne HH.out).elim) | (with_reducible exact (ft_ne HH.out).elim) | fail)
 all_goals go_enter Try.func82, Try.ntmps82
 all_goals (repeat' (first
    | (((with_reducible refine gate_region (id := 0) ?_); apply plain_region) <;>
    (((with_reducible apply Fr.lbox HF rfl rfl rfl); (go_simp; rfl); decide; clear HF; intro g_ w_ HF); (refine lnorm (a' := ?_) ?_ ?_; rotate_left; (simp only [Act.put, List.setIfInBounds_toArray, List.set_cons_zero, List.set_cons_succ, i64_w, i32_w, tmod_nat]; rfl))) <;>
    (apply lpure rfl rfl; (go_simp; with_reducible rfl); (simp only [Act.put, List.setIfInBounds_toArray, List.set_cons_zero, List.set_cons_succ, i64_w, i32_w, tmod_nat]; rfl)) <;>
    (apply lend))
    | (((with_reducible refine gate_region (id := 1) ?_); apply plain_region) <;>
    (apply lpure rfl rfl; (go_simp; with_reducible rfl); (simp only [Act.put, List.setIfInBounds_toArray, List.set_cons_zero, List.set_cons_succ, i64_w, i32_w, tmod_nat]; rfl)) <;>
    (apply HF.lone rfl rfl rfl O3_ rfl; (repeat (first | exact At.head | apply At.tail)); rfl; (simp only [Act.put, List.setIfInBounds_toArray, List.set_cons_zero, List.set_cons_succ, i64_w, i32_w, tmod_nat]; rfl)) <;>
    (apply lpure rfl rfl; (go_simp; with_reducible rfl); (simp only [Act.put, List.setIfInBounds_toArray, List.set_cons_zero, List.set_cons_succ, i64_w, i32_w, tmod_nat]; rfl)) <;>
    (apply lend))
    | (((with_reducible refine gate_region (id := 2) ?_); apply plain_region) <;>
    (apply lpure rfl rfl; (go_simp; with_reducible rfl); (simp only [Act.put, List.setIfInBounds_toArray, List.set_cons_zero, List.set_cons_succ, i64_w, i32_w, tmod_nat]; rfl)) <;>
    (apply HF.lone rfl rfl rfl O3_ rfl; (repeat (first | exact At.head | apply At.tail)); rfl; (simp only [Act.put, List.setIfInBounds_toArray, List.set_cons_zero, List.set_cons_succ, i64_w, i32_w, tmod_nat]; rfl)) <;>
    (apply lpure rfl rfl; (go_simp; with_reducible rfl); (simp only [Act.put, List.setIfInBounds_toArray, List.set_cons_zero, List.set_cons_succ, i64_w, i32_w, tmod_nat]; rfl)) <;>
    (apply lpure rfl rfl; (go_simp; with_reducible rfl); (simp only [Act.put, List.setIfInBounds_toArray, List.set_cons_zero, List.set_cons_succ, i64_w, i32_w, tmod_nat]; rfl)) <;>
    (first | (apply lpure rfl rfl; (go_simp; with_reducible rfl); (simp only [Act.put, List.setIfInBounds_toArray, List.set_cons_zero, List.set_cons_succ, i64_w, i32_w, tmod_nat]; rfl)) | (apply loff rfl rfl; (simp only [Act.put, List.setIfInBounds_toArray, List.set_cons_zero, List.set_cons_succ, i64_w, i32_w, tmod_nat]; rfl))) <;>
    (first | (apply HF.lone rfl rfl rfl O3_ rfl; (repeat (first | exact At.head | apply At.tail)); rfl; (simp only [Act.put, List.setIfInBounds_toArray, List.set_cons_zero, List.set_cons_succ, i64_w, i32_w, tmod_nat]; rfl)) | (apply loff rfl rfl; (simp only [Act.put, List.setIfInBounds_toArray, List.set_cons_zero, List.set_cons_succ, i64_w, i32_w, tmod_nat]; rfl))) <;>
    (first | (apply lpure rfl rfl; (go_simp; with_reducible rfl); (simp only [Act.put, List.setIfInBounds_toArray, List.set_cons_zero, List.set_cons_succ, i64_w, i32_w, tmod_nat]; rfl)) | (apply loff rfl rfl; (simp only [Act.put, List.setIfInBounds_toArray, List.set_cons_zero, List.set_cons_succ, i64_w, i32_w, tmod_nat]; rfl))) <;>
    (apply lpure rfl rfl; (go_simp; with_reducible rfl); (simp only [Act.put, List.setIfInBounds_toArray, List.set_cons_zero, List.set_cons_succ, i64_w, i32_w, tmod_nat]; rfl)) <;>
    (apply lpure rfl rfl; (go_simp; with_reducible rfl); (simp only [Act.put, List.setIfInBounds_toArray, List.set_cons_zero, List.set_cons_succ, i64_w, i32_w, tmod_nat]; rfl)) <;>
    (first | (apply lpure rfl rfl; (go_simp; with_reducible rfl); (simp only [Act.put, List.setIfInBounds_toArray, List.set_cons_zero, List.set_cons_succ, i64_w, i32_w, tmod_nat]; rfl)) | (apply loff rfl rfl; (simp only [Act.put, List.setIfInBounds_toArray, List.set_cons_zero, List.set_cons_succ, i64_w, i32_w, tmod_nat]; rfl))) <;>
    (first | (apply HF.lone rfl rfl rfl O3_ rfl; (repeat (first | exact At.head | apply At.tail)); rfl; (simp only [Act.put, List.setIfInBounds_toArray, List.set_cons_zero, List.set_cons_succ, i64_w, i32_w, tmod_nat]; rfl)) | (apply loff rfl rfl; (simp only [Act.put, List.setIfInBounds_toArray, List.set_cons_zero, List.set_cons_succ, i64_w, i32_w, tmod_nat]; rfl))) <;>
    (first | (apply lpure rfl rfl; (go_simp; with_reducible rfl); (simp only [Act.put, List.setIfInBounds_toArray, List.set_cons_zero, List.set_cons_succ, i64_w, i32_w, tmod_nat]; rfl)) | (apply loff rfl rfl; (simp only [Act.put, List.setIfInBounds_toArray, List.set_cons_zero, List.set_cons_succ, i64_w, i32_w, tmod_nat]; rfl))) <;>
    (apply lpure rfl rfl; (go_simp; with_reducible rfl); (simp only [Act.put, List.setIfInBounds_toArray, List.set_cons_zero, List.set_cons_succ, i64_w, i32_w, tmod_nat]; rfl)) <;>
    (apply lpure rfl rfl; (go_simp; with_reducible rfl); (simp only [Act.put, List.setIfInBounds_toArray, List.set_cons_zero, List.set_cons_succ, i64_w, i32_w, tmod_nat]; rfl)) <;>
    (first | (apply lpure rfl rfl; (go_simp; with_reducible rfl); (simp only [Act.put, List.setIfInBounds_toArray, List.set_cons_zero, List.set_cons_succ, i64_w, i32_w, tmod_nat]; rfl)) | (apply loff rfl rfl; (simp only [Act.put, List.setIfInBounds_toArray, List.set_cons_zero, List.set_cons_succ, i64_w, i32_w, tmod_nat]; rfl))) <;>
    (first | (apply HF.lone rfl rfl rfl O3_ rfl; (repeat (first | exact At.head | apply At.tail)); rfl; (simp only [Act.put, List.setIfInBounds_toArray, List.set_cons_zero, List.set_cons_succ, i64_w, i32_w, tmod_nat]; rfl)) | (apply loff rfl rfl; (simp only [Act.put, List.setIfInBounds_toArray, List.set_cons_zero, List.set_cons_succ, i64_w, i32_w, tmod_nat]; rfl))) <;>
    (first | (have h_ := HH.out; (with_reducible replace h_ := Option.bind_eq_some_iff.mp h_); clear HH; obtain ⟨_, A_, h_⟩ := h_; have HH := Aside0.mk h_; clear h_; replace A_ := Aside0.mk A_; apply lcall rfl rfl rfl Try.func107 (by kernel_rfl) rfl; (with_reducible apply Calls.mono); (with_reducible apply spec_l03Half.calls (h := A_.out)); rintro e w_ ⟨rfl, hb_⟩; refine ⟨_, rfl, ?_⟩; replace HF := HF.drawn hb_; clear hb_; rotate_left; (first | rfl | (simp only [List.map_toArray, List.map_cons, List.map_nil]; first | done | rfl)); clear A_; (refine lnorm (a' := ?_) ?_ ?_; rotate_left; (simp only [Act.put, List.setIfInBounds_toArray, List.set_cons_zero, List.set_cons_succ, i64_w, i32_w, tmod_nat]; rfl))) | (apply loff rfl rfl; (simp only [Act.put, List.setIfInBounds_toArray, List.set_cons_zero, List.set_cons_succ, i64_w, i32_w, tmod_nat]; rfl))) <;>
    (repeat' (first | (have h_ := HH.out; (with_reducible replace h_ := ite_ways h_); clear HH; rcases h_ with ⟨c_, h_⟩ | ⟨c_, h_⟩ <;> (have HH := Aside0.mk h_; clear h_; first | (replace c_ := (show (_ : Bool) = true from c_); subst c_) | (replace c_ := Bool.eq_false_iff.mpr c_; subst c_) | (replace c_ := bne_eq_false_iff_eq.mp (Bool.eq_false_iff.mpr c_); subst c_) | (replace c_ := (show (_ : Bool) = true from c_); try have := beq_eq_false_iff_ne.mpr (bne_iff_ne.mp c_)) | (replace c_ := Bool.eq_false_iff.mpr c_) | (have := beq_iff_eq.mpr c_; have := bne_eq_false_iff_eq.mpr c_; clear c_) | (have := beq_eq_false_iff_ne.mpr c_; have := bne_iff_ne.mpr c_; clear c_) | (have := decide_eq_true (show _ ≤ _ from c_); clear c_) | (have := decide_eq_true (show _ < _ from c_); clear c_) | (have := decide_eq_false (show ¬ (_ ≤ _) from c_); clear c_) | (have := decide_eq_false (show ¬ (_ < _) from c_); clear c_))) | (with_reducible exact (none_ne HH.out).elim) | (with_reducible exact (ft_ne HH.out).elim) | fail)) <;>
    (apply lpure rfl rfl; (go_simp; with_reducible rfl); (simp only [Act.put, List.setIfInBounds_toArray, List.set_cons_zero, List.set_cons_succ, i64_w, i32_w, tmod_nat]; rfl)) <;>
    (apply lpure rfl rfl; (go_simp; with_reducible rfl); (simp only [Act.put, List.setIfInBounds_toArray, List.set_cons_zero, List.set_cons_succ, i64_w, i32_w, tmod_nat]; rfl)) <;>
    (apply lend))
    | (((with_reducible refine gate_region (id := 3) ?_); apply plain_region) <;>
    (apply lpure rfl rfl; (go_simp; with_reducible rfl); (simp only [Act.put, List.setIfInBounds_toArray, List.set_cons_zero, List.set_cons_succ, i64_w, i32_w, tmod_nat]; rfl)) <;>
    (apply HF.lone rfl rfl rfl O3_ rfl; (repeat (first | exact At.head | apply At.tail)); rfl; (simp only [Act.put, List.setIfInBounds_toArray, List.set_cons_zero, List.set_cons_succ, i64_w, i32_w, tmod_nat]; rfl)) <;>
    (apply lpure rfl rfl; (go_simp; with_reducible rfl); (simp only [Act.put, List.setIfInBounds_toArray, List.set_cons_zero, List.set_cons_succ, i64_w, i32_w, tmod_nat]; rfl)) <;>
    (apply lpure rfl rfl; (go_simp; with_reducible rfl); (simp only [Act.put, List.setIfInBounds_toArray, List.set_cons_zero, List.set_cons_succ, i64_w, i32_w, tmod_nat]; rfl)) <;>
    (first | (apply lpure rfl rfl; (go_simp; with_reducible rfl); (simp only [Act.put, List.setIfInBounds_toArray, List.set_cons_zero, List.set_cons_succ, i64_w, i32_w, tmod_nat]; rfl)) | (apply loff rfl rfl; (simp only [Act.put, List.setIfInBounds_toArray, List.set_cons_zero, List.set_cons_succ, i64_w, i32_w, tmod_nat]; rfl))) <;>
    (first | (apply HF.lone rfl rfl rfl O3_ rfl; (repeat (first | exact At.head | apply At.tail)); rfl; (simp only [Act.put, List.setIfInBounds_toArray, List.set_cons_zero, List.set_cons_succ, i64_w, i32_w, tmod_nat]; rfl)) | (apply loff rfl rfl; (simp only [Act.put, List.setIfInBounds_toArray, List.set_cons_zero, List.set_cons_succ, i64_w, i32_w, tmod_nat]; rfl))) <;>
    (first | (have h_ := HH.out; (with_reducible replace h_ := Option.bind_eq_some_iff.mp h_); clear HH; obtain ⟨_, A_, h_⟩ := h_; have HH := Aside0.mk h_; clear h_; replace A_ := Aside0.mk A_; apply lcall rfl rfl rfl Try.func107 (by kernel_rfl) rfl; (with_reducible apply Calls.mono); (with_reducible apply spec_l03Half.calls (h := A_.out)); rintro e w_ ⟨rfl, hb_⟩; refine ⟨_, rfl, ?_⟩; replace HF := HF.drawn hb_; clear hb_; rotate_left; (first | rfl | (simp only [List.map_toArray, List.map_cons, List.map_nil]; first | done | rfl)); clear A_; (refine lnorm (a' := ?_) ?_ ?_; rotate_left; (simp only [Act.put, List.setIfInBounds_toArray, List.set_cons_zero, List.set_cons_succ, i64_w, i32_w, tmod_nat]; rfl))) | (apply loff rfl rfl; (simp only [Act.put, List.setIfInBounds_toArray, List.set_cons_zero, List.set_cons_succ, i64_w, i32_w, tmod_nat]; rfl))) <;>
    (repeat' (first | (have h_ := HH.out; (with_reducible replace h_ := ite_ways h_); clear HH; rcases h_ with ⟨c_, h_⟩ | ⟨c_, h_⟩ <;> (have HH := Aside0.mk h_; clear h_; first | (replace c_ := (show (_ : Bool) = true from c_); subst c_) | (replace c_ := Bool.eq_false_iff.mpr c_; subst c_) | (replace c_ := bne_eq_false_iff_eq.mp (Bool.eq_false_iff.mpr c_); subst c_) | (replace c_ := (show (_ : Bool) = true from c_); try have := beq_eq_false_iff_ne.mpr (bne_iff_ne.mp c_)) | (replace c_ := Bool.eq_false_iff.mpr c_) | (have := beq_iff_eq.mpr c_; have := bne_eq_false_iff_eq.mpr c_; clear c_) | (have := beq_eq_false_iff_ne.mpr c_; have := bne_iff_ne.mpr c_; clear c_) | (have := decide_eq_true (show _ ≤ _ from c_); clear c_) | (have := decide_eq_true (show _ < _ from c_); clear c_) | (have := decide_eq_false (show ¬ (_ ≤ _) from c_); clear c_) | (have := decide_eq_false (show ¬ (_ < _) from c_); clear c_))) | (with_reducible exact (none_ne HH.out).elim) | (with_reducible exact (ft_ne HH.out).elim) | fail)) <;>
    (apply lpure rfl rfl; (go_simp; with_reducible rfl); (simp only [Act.put, List.setIfInBounds_toArray, List.set_cons_zero, List.set_cons_succ, i64_w, i32_w, tmod_nat]; rfl)) <;>
    (apply lpure rfl rfl; (go_simp; with_reducible rfl); (simp only [Act.put, List.setIfInBounds_toArray, List.set_cons_zero, List.set_cons_succ, i64_w, i32_w, tmod_nat]; rfl)) <;>
    (first | (apply lpure rfl rfl; (go_simp; with_reducible rfl); (simp only [Act.put, List.setIfInBounds_toArray, List.set_cons_zero, List.set_cons_succ, i64_w, i32_w, tmod_nat]; rfl)) | (apply loff rfl rfl; (simp only [Act.put, List.setIfInBounds_toArray, List.set_cons_zero, List.set_cons_succ, i64_w, i32_w, tmod_nat]; rfl))) <;>
    (first | (apply HF.lone rfl rfl rfl O3_ rfl; (repeat (first | exact At.head | apply At.tail)); rfl; (simp only [Act.put, List.setIfInBounds_toArray, List.set_cons_zero, List.set_cons_succ, i64_w, i32_w, tmod_nat]; rfl)) | (apply loff rfl rfl; (simp only [Act.put, List.setIfInBounds_toArray, List.set_cons_zero, List.set_cons_succ, i64_w, i32_w, tmod_nat]; rfl))) <;>
    (first | (have h_ := HH.out; (with_reducible replace h_ := Option.bind_eq_some_iff.mp h_); clear HH; obtain ⟨_, A_, h_⟩ := h_; have HH := Aside0.mk h_; clear h_; replace A_ := Aside0.mk A_; apply lcall rfl rfl rfl Try.func107 (by kernel_rfl) rfl; (with_reducible apply Calls.mono); (with_reducible apply spec_l03Half.calls (h := A_.out)); rintro e w_ ⟨rfl, hb_⟩; refine ⟨_, rfl, ?_⟩; replace HF := HF.drawn hb_; clear hb_; rotate_left; (first | rfl | (simp only [List.map_toArray, List.map_cons, List.map_nil]; first | done | rfl)); clear A_; (refine lnorm (a' := ?_) ?_ ?_; rotate_left; (simp only [Act.put, List.setIfInBounds_toArray, List.set_cons_zero, List.set_cons_succ, i64_w, i32_w, tmod_nat]; rfl))) | (apply loff rfl rfl; (simp only [Act.put, List.setIfInBounds_toArray, List.set_cons_zero, List.set_cons_succ, i64_w, i32_w, tmod_nat]; rfl))) <;>
    (repeat' (first | (have h_ := HH.out; (with_reducible replace h_ := ite_ways h_); clear HH; rcases h_ with ⟨c_, h_⟩ | ⟨c_, h_⟩ <;> (have HH := Aside0.mk h_; clear h_; first | (replace c_ := (show (_ : Bool) = true from c_); subst c_) | (replace c_ := Bool.eq_false_iff.mpr c_; subst c_) | (replace c_ := bne_eq_false_iff_eq.mp (Bool.eq_false_iff.mpr c_); subst c_) | (replace c_ := (show (_ : Bool) = true from c_); try have := beq_eq_false_iff_ne.mpr (bne_iff_ne.mp c_)) | (replace c_ := Bool.eq_false_iff.mpr c_) | (have := beq_iff_eq.mpr c_; have := bne_eq_false_iff_eq.mpr c_; clear c_) | (have := beq_eq_false_iff_ne.mpr c_; have := bne_iff_ne.mpr c_; clear c_) | (have := decide_eq_true (show _ ≤ _ from c_); clear c_) | (have := decide_eq_true (show _ < _ from c_); clear c_) | (have := decide_eq_false (show ¬ (_ ≤ _) from c_); clear c_) | (have := decide_eq_false (show ¬ (_ < _) from c_); clear c_))) | (with_reducible exact (none_ne HH.out).elim) | (with_reducible exact (ft_ne HH.out).elim) | fail)) <;>
    (apply lpure rfl rfl; (go_simp; with_reducible rfl); (simp only [Act.put, List.setIfInBounds_toArray, List.set_cons_zero, List.set_cons_succ, i64_w, i32_w, tmod_nat]; rfl)) <;>
    (apply lpure rfl rfl; (go_simp; with_reducible rfl); (simp only [Act.put, List.setIfInBounds_toArray, List.set_cons_zero, List.set_cons_succ, i64_w, i32_w, tmod_nat]; rfl)) <;>
    (first | (apply lpure rfl rfl; (go_simp; with_reducible rfl); (simp only [Act.put, List.setIfInBounds_toArray, List.set_cons_zero, List.set_cons_succ, i64_w, i32_w, tmod_nat]; rfl)) | (apply loff rfl rfl; (simp only [Act.put, List.setIfInBounds_toArray, List.set_cons_zero, List.set_cons_succ, i64_w, i32_w, tmod_nat]; rfl))) <;>
    (first | (apply HF.lone rfl rfl rfl O3_ rfl; (repeat (first | exact At.head | apply At.tail)); rfl; (simp only [Act.put, List.setIfInBounds_toArray, List.set_cons_zero, List.set_cons_succ, i64_w, i32_w, tmod_nat]; rfl)) | (apply loff rfl rfl; (simp only [Act.put, List.setIfInBounds_toArray, List.set_cons_zero, List.set_cons_succ, i64_w, i32_w, tmod_nat]; rfl))) <;>
    (first | (have h_ := HH.out; (with_reducible replace h_ := Option.bind_eq_some_iff.mp h_); clear HH; obtain ⟨_, A_, h_⟩ := h_; have HH := Aside0.mk h_; clear h_; replace A_ := Aside0.mk A_; apply lcall rfl rfl rfl Try.func107 (by kernel_rfl) rfl; (with_reducible apply Calls.mono); (with_reducible apply spec_l03Half.calls (h := A_.out)); rintro e w_ ⟨rfl, hb_⟩; refine ⟨_, rfl, ?_⟩; replace HF := HF.drawn hb_; clear hb_; rotate_left; (first | rfl | (simp only [List.map_toArray, List.map_cons, List.map_nil]; first | done | rfl)); clear A_; (refine lnorm (a' := ?_) ?_ ?_; rotate_left; (simp only [Act.put, List.setIfInBounds_toArray, List.set_cons_zero, List.set_cons_succ, i64_w, i32_w, tmod_nat]; rfl))) | (apply loff rfl rfl; (simp only [Act.put, List.setIfInBounds_toArray, List.set_cons_zero, List.set_cons_succ, i64_w, i32_w, tmod_nat]; rfl))) <;>
    (repeat' (first | (have h_ := HH.out; (with_reducible replace h_ := ite_ways h_); clear HH; rcases h_ with ⟨c_, h_⟩ | ⟨c_, h_⟩ <;> (have HH := Aside0.mk h_; clear h_; first | (replace c_ := (show (_ : Bool) = true from c_); subst c_) | (replace c_ := Bool.eq_false_iff.mpr c_; subst c_) | (replace c_ := bne_eq_false_iff_eq.mp (Bool.eq_false_iff.mpr c_); subst c_) | (replace c_ := (show (_ : Bool) = true from c_); try have := beq_eq_false_iff_ne.mpr (bne_iff_ne.mp c_)) | (replace c_ := Bool.eq_false_iff.mpr c_) | (have := beq_iff_eq.mpr c_; have := bne_eq_false_iff_eq.mpr c_; clear c_) | (have := beq_eq_false_iff_ne.mpr c_; have := bne_iff_ne.mpr c_; clear c_) | (have := decide_eq_true (show _ ≤ _ from c_); clear c_) | (have := decide_eq_true (show _ < _ from c_); clear c_) | (have := decide_eq_false (show ¬ (_ ≤ _) from c_); clear c_) | (have := decide_eq_false (show ¬ (_ < _) from c_); clear c_))) | (with_reducible exact (none_ne HH.out).elim) | (with_reducible exact (ft_ne HH.out).elim) | fail)) <;>
    (apply lpure rfl rfl; (go_simp; with_reducible rfl); (simp only [Act.put, List.setIfInBounds_toArray, List.set_cons_zero, List.set_cons_succ, i64_w, i32_w, tmod_nat]; rfl)) <;>
    (apply lpure rfl rfl; (go_simp; with_reducible rfl); (simp only [Act.put, List.setIfInBounds_toArray, List.set_cons_zero, List.set_cons_succ, i64_w, i32_w, tmod_nat]; rfl)) <;>
    (first | (apply lpure rfl rfl; (go_simp; with_reducible rfl); (simp only [Act.put, List.setIfInBounds_toArray, List.set_cons_zero, List.set_cons_succ, i64_w, i32_w, tmod_nat]; rfl)) | (apply loff rfl rfl; (simp only [Act.put, List.setIfInBounds_toArray, List.set_cons_zero, List.set_cons_succ, i64_w, i32_w, tmod_nat]; rfl))) <;>
    (first | (apply HF.lone rfl rfl rfl O3_ rfl; (repeat (first | exact At.head | apply At.tail)); rfl; (simp only [Act.put, List.setIfInBounds_toArray, List.set_cons_zero, List.set_cons_succ, i64_w, i32_w, tmod_nat]; rfl)) | (apply loff rfl rfl; (simp only [Act.put, List.setIfInBounds_toArray, List.set_cons_zero, List.set_cons_succ, i64_w, i32_w, tmod_nat]; rfl))) <;>
    (first | (have h_ := HH.out; (with_reducible replace h_ := Option.bind_eq_some_iff.mp h_); clear HH; obtain ⟨_, A_, h_⟩ := h_; have HH := Aside0.mk h_; clear h_; replace A_ := Aside0.mk A_; apply lcall rfl rfl rfl Try.func107 (by kernel_rfl) rfl; (with_reducible apply Calls.mono); (with_reducible apply spec_l03Half.calls (h := A_.out)); rintro e w_ ⟨rfl, hb_⟩; refine ⟨_, rfl, ?_⟩; replace HF := HF.drawn hb_; clear hb_; rotate_left; (first | rfl | (simp only [List.map_toArray, List.map_cons, List.map_nil]; first | done | rfl)); clear A_; (refine lnorm (a' := ?_) ?_ ?_; rotate_left; (simp only [Act.put, List.setIfInBounds_toArray, List.set_cons_zero, List.set_cons_succ, i64_w, i32_w, tmod_nat]; rfl))) | (apply loff rfl rfl; (simp only [Act.put, List.setIfInBounds_toArray, List.set_cons_zero, List.set_cons_succ, i64_w, i32_w, tmod_nat]; rfl))) <;>
    (repeat' (first | (have h_ := HH.out; (with_reducible replace h_ := ite_ways h_); clear HH; rcases h_ with ⟨c_, h_⟩ | ⟨c_, h_⟩ <;> (have HH := Aside0.mk h_; clear h_; first | (replace c_ := (show (_ : Bool) = true from c_); subst c_) | (replace c_ := Bool.eq_false_iff.mpr c_; subst c_) | (replace c_ := bne_eq_false_iff_eq.mp (Bool.eq_false_iff.mpr c_); subst c_) | (replace c_ := (show (_ : Bool) = true from c_); try have := beq_eq_false_iff_ne.mpr (bne_iff_ne.mp c_)) | (replace c_ := Bool.eq_false_iff.mpr c_) | (have := beq_iff_eq.mpr c_; have := bne_eq_false_iff_eq.mpr c_; clear c_) | (have := beq_eq_false_iff_ne.mpr c_; have := bne_iff_ne.mpr c_; clear c_) | (have := decide_eq_true (show _ ≤ _ from c_); clear c_) | (have := decide_eq_true (show _ < _ from c_); clear c_) | (have := decide_eq_false (show ¬ (_ ≤ _) from c_); clear c_) | (have := decide_eq_false (show ¬ (_ < _) from c_); clear c_))) | (with_reducible exact (none_ne HH.out).elim) | (with_reducible exact (ft_ne HH.out).elim) | fail)) <;>
    (apply lpure rfl rfl; (go_simp; with_reducible rfl); (simp only [Act.put, List.setIfInBounds_toArray, List.set_cons_zero, List.set_cons_succ, i64_w, i32_w, tmod_nat]; rfl)) <;>
    (apply lpure rfl rfl; (go_simp; with_reducible rfl); (simp only [Act.put, List.setIfInBounds_toArray, List.set_cons_zero, List.set_cons_succ, i64_w, i32_w, tmod_nat]; rfl)) <;>
    (apply lend))
    | go_step | fail))
 all_goals (have h_ := HH.out; clear HH; cases h_ <;> (go_ret; exact ⟨by first | rfl | (simp [errW_none, errW_some] <;> rfl) | (simp [*, errW_none, errW_some] <;> rfl), HF.below⟩))

end Go.Proofs.Ytdbiejkaplndgaa.FFnExactSixBytes
