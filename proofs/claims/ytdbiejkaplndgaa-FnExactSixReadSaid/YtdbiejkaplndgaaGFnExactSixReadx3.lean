-- Functions and their contracts, written by a program of this claim (wip/tools/oprint.py) out of the translation.
import Derived.Test.YtdbiejkaplndgaaGFnExactSixReadx0
import Derived.Test.YtdbiejkaplndgaaVFnExactSixRead
namespace Go.Proofs.Ytdbiejkaplndgaa.FFnExactSixRead
open Go.RowKit Go.Proofs.YtdbiejkaplndgaaW.PrintWords Go.Proofs.YtdbiejkaplndgaaW.PrintLast Go.Proofs.YtdbiejkaplndgaaW.PrintMore Go.Proofs.Ytdbiejkaplndgaa.Frame
attribute [local go_sem] max2_int min2_int max_two min_two max_three min_three max_four min_four   -- for this text's walks alone
set_option linter.unusedVariables false
set_option linter.unusedSimpArgs false

/-! ### laws_toByteS: function 9 -/
def laws_toByteS.l0 : Nat → List Int → List Int → Int → Option (List Int)
 | 0, _, _, _ => none
 | k + 1, x0, x3, x4 => if x4 < (x0.length : Int) then (if 0 ≤ x4 then (if x4 < (x3.length : Int) then (laws_toByteS.l0 k x0 (x3.set (x4 : Int).toNat (rd x0 x4)) (wrap64 (x4 + 1))) else (none)) else (none)) else (some x3)
def laws_toByteS.f (k : Nat) (l0 : List Int) : Option (List Int) := if 0 ≤ (l0.length : Int) then (if ((l0.length : Int) : Int).toNat ≤ 281474976710656 then (laws_toByteS.l0 k l0 (List.replicate ((l0.length : Int) : Int).toNat 0) 0) else (none)) else (none)
theorem laws_toByteS.mono_l : ∀ k, (∀ y0 y1 y2, LeO (laws_toByteS.l0 k y0 y1 y2) (laws_toByteS.l0 (k + 1) y0 y1 y2))
 | 0 => fun _ _ _ r h => by simp [laws_toByteS.l0] at h
 | k + 1 => by
  have ih0 := laws_toByteS.mono_l k
  ·intro y0 y1 y2
   unfold laws_toByteS.l0
   repeat' first
   | (with_reducible exact ih0 _ _ _)
   | (with_reducible exact LeO.refl _)
   | (with_reducible exact LeO.none _)
   | (with_reducible refine LeO.ite ?_ ?_)
   | (with_reducible refine LeO.bind ?_ (fun _ => ?_))
   | exact ih0 _ _ _
   | exact LeO.none _
   | refine LeO.ite ?_ ?_
   | refine LeO.bind ?_ (fun _ => ?_)
theorem laws_toByteS.mono : ∀ a0 k, LeO (laws_toByteS.f k a0) (laws_toByteS.f (k + 1) a0) := by
 intro a0 k
 have ih0 := laws_toByteS.mono_l k
 unfold laws_toByteS.f
 repeat' first
   | (with_reducible exact ih0 _ _ _)
   | (with_reducible exact LeO.refl _)
   | (with_reducible exact LeO.none _)
   | (with_reducible refine LeO.ite ?_ ?_)
   | (with_reducible refine LeO.bind ?_ (fun _ => ?_))
   | exact ih0 _ _ _
   | exact LeO.none _
   | refine LeO.ite ?_ ?_
   | refine LeO.bind ?_ (fun _ => ?_)
set_option maxHeartbeats 8000000 in
set_option maxRecDepth 100000 in
theorem laws_toByteS.calls (k : Nat) (A0 : Option Addr) (c0 : Nat) (l0 : List Int) (r : List Int) (w : World) (hr0 : Kd.C (Kd.int .u8) w A0 l0.length l0) (hc0 : l0.length ≤ c0) (h : laws_toByteS.f k l0 = some r) :
  Calls Try.prog 9 #[.slice A0 l0.length c0] w fun e w' => ∃ v0_ : Value, e = .returned (v0_) ∧ Kd.R (Kd.int .u8) 5 w' w.heap.size (fun _ => True) v0_ r ∧ Below w.heap.size w w' := by
 have HR0 := Aside0.mk hr0
 have HC0 := Aside0.mk hc0
 clear hr0 hc0
 have HB := Aside0.mk (Below.refl w.heap.size w)
 have H : (if 0 ≤ (l0.length : Int) then (if ((l0.length : Int) : Int).toNat ≤ 281474976710656 then (laws_toByteS.l0 k l0 (List.replicate ((l0.length : Int) : Int).toNat 0) 0) else (none)) else (none)) = some r := h
 clear h
 by_cases c2 : 0 ≤ (l0.length : Int)
 ·rw [if_pos c2] at H
  have c2b0 := eq_true c2
  have c2b1 : decide (0 ≤ (l0.length : Int)) = true := decide_eq_true c2
  clear c2
  by_cases c3 : ((l0.length : Int) : Int).toNat ≤ 281474976710656
  ·rw [if_pos c3] at H
   have c3b0 := eq_true c3
   have c3b1 : decide (((l0.length : Int) : Int).toNat ≤ 281474976710656) = true := decide_eq_true c3
   clear c3
   obtain ⟨y181, hy181⟩ : ∃ y_ : List Int, y_ = (List.replicate ((l0.length : Int) : Int).toNat 0) := ⟨_, rfl⟩
   replace H : (laws_toByteS.l0 k l0 y181 0) = some r := by first | (rw [hy181]; with_reducible exact H) | (have H2_ := (Option.bind_some _ _).symm.trans H; rw [hy181]; with_reducible exact H2_) | (have H2_ := (Option.bind_some _ _).symm.trans H; with_reducible exact H2_) | with_reducible exact H | (rw [hy181]; exact H) | exact H
   have Ny181 := Aside0.mk hy181
   clear hy181
   have H' := Aside0.mk H
   clear H
   go_enter Try.func9, Try.ntmps9
   go_wp2_with (first | ((with_reducible refine gate_dst (N := 7) rfl ?_); refine Kd.R_make (Kd.int .u8) _ 5 rfl (N := 7) rfl 22 _ _ rfl (l0.length : Int) rfl rfl Try.underlying22 (.int .u8 0) 1 info5 rfl (by decide) (by omega) 0 (ok := fun _ => True) (okp := fun _ => True) rfl (fun _ hk => hk) trivial (of_decide_eq_true (by first | (with_reducible assumption) | assumption)) (Nat.le_trans (Nat.mul_le_mul_right _ (of_decide_eq_true (by first | (with_reducible assumption) | assumption) : (l0.length : Int).toNat ≤ 281474976710656)) (by omega)) (Below.refl _ _) (Nat.le_refl _) ?_; intro v182 w4 ho5 hb hg_ hnew_; clear hg_ hnew_; (first | rw [← Ny181.out] at ho5 | (simp only [Int.reduceToNat] at ho5; rw [← Ny181.out] at ho5)); have n0_ := Aside0.mk (Kd.R_lower ho5 (below_size (by repeat (first | (with_reducible first | exact HB.out | apply below_alloc | apply pw_below_drewN | apply below_drew1) | exact HB.out)))); have n1_ := Aside0.mk (below_step (by repeat (first | (with_reducible first | exact HB.out | apply below_alloc | apply pw_below_drewN | apply below_drew1) | exact HB.out)) hb); clear HB; have HO183 := n0_; have HB := n1_; clear n0_ n1_; clear hb ho5))
   go_loopg [4] k (fun kq v4 w' => ∃ (x3_1 : List Int) (x4_1 : Int), v4 = .int .i64 x4_1 ∧ Aside0 (laws_toByteS.l0 kq l0 x3_1 x4_1 = some r) ∧ Aside0 (kq ≤ k) ∧ Aside0 (Kd.R (Kd.int .u8) 5 w' w.heap.size (fun _ => True) v182 x3_1) ∧ Aside0 (Below w.heap.size w w'))
   case atStart => exact ⟨(y181), (0), (by first | rfl | (simp; done) | (simp [*]; done)), H', ⟨Nat.le_refl _⟩, ⟨by (with_reducible repeat (first | apply Kd.R_alloc | apply Kd.R_drewN | apply Kd.R_drew)); exact HO183.out⟩, ⟨by repeat (first | (with_reducible first | exact HB.out | apply below_alloc | apply pw_below_drewN | apply below_drew1) | exact HB.out)⟩⟩
   case round =>
    clear H'
    try clear c2
    try clear c2b0
    try clear c2b1
    try clear p2
    try clear c3
    try clear c3b0
    try clear c3b1
    obtain ⟨x3_1, x4_1, rfl, HA, HK1, HO_3, HB⟩ := hrel
    cases gk with
    | zero => exact absurd HA.out (by simp [laws_toByteS.l0])
    | succ k1 =>
     have H := HA.out
     clear HA
     simp only [laws_toByteS.l0] at H
     by_cases c6 : x4_1 < (l0.length : Int)
     ·rw [if_pos c6] at H
      have c6b0 : decide (x4_1 < (l0.length : Int)) = true := decide_eq_true c6
      clear c6
      by_cases c7 : 0 ≤ x4_1
      ·rw [if_pos c7] at H
       have c7b0 : decide (0 ≤ x4_1) = true := decide_eq_true c7
       clear c7
       by_cases c8 : x4_1 < (x3_1.length : Int)
       ·rw [if_pos c8] at H
        have c8b0 : decide (x4_1 < (x3_1.length : Int)) = true := decide_eq_true c8
        clear c8
        obtain ⟨y185, hy185⟩ : ∃ y_ : List Int, y_ = (x3_1.set (x4_1 : Int).toNat (rd l0 x4_1)) := ⟨_, rfl⟩
        replace H : (laws_toByteS.l0 k1 l0 y185 (wrap64 (x4_1 + 1))) = some r := by first | (rw [hy185]; with_reducible exact H) | (have H2_ := (Option.bind_some _ _).symm.trans H; rw [hy185]; with_reducible exact H2_) | (have H2_ := (Option.bind_some _ _).symm.trans H; with_reducible exact H2_) | with_reducible exact H | (rw [hy185]; exact H) | exact H
        have Ny185 := Aside0.mk hy185
        clear hy185
        have H' := Aside0.mk H
        clear H
        have p184 : 0 ≤ (x4_1 : Int) := of_decide_eq_true (by first | (with_reducible assumption) | assumption)
        have q184 : x4_1 < (l0.length : Int) := of_decide_eq_true (by first | (with_reducible assumption) | assumption)
        obtain ⟨ad184, e184, hx184_0⟩ := Kd.at_int HR0.out x4_1 p184 q184
        cases e184
        replace hx184_0 := (HB.out.cell (World.block_lt_of_cell? w _ hx184_0)).trans hx184_0
        replace p184 := eq_true p184
        replace q184 := eq_true q184
        have p9 : 0 ≤ (x4_1 : Int) := of_decide_eq_true (by first | (with_reducible assumption) | assumption)
        have q9 : (x4_1 : Int) < ((x3_1.length : Int) : Int) := of_decide_eq_true (by first | (with_reducible assumption) | assumption)
        obtain ⟨go9, co9, eo9, gb9, gl9, cl9, HG9⟩ := Kd.R_form HO_3.out (by omega)
        (first | cases eo9 | (injection eo9 with ea_ en_ ec_; (first | subst ea_ | (injection ea_ with ea_; subst ea_)); subst ec_; clear en_))
        have GB9 := Aside0.mk gb9
        have GG9 := Aside0.mk HG9
        clear gb9 gl9 HG9
        obtain ⟨hx9_0, hf9_0⟩ := Kd.R_celln 0 HO_3.out (x4_1 : Int) p9 q9
        replace p9 := eq_true p9
        replace q9 := eq_true q9
        have HP10 := Kd.R_putg HO_3.out (x4_1 : Int) (rd l0 x4_1)
        go_wp2_with (first | ((with_reducible refine gate_store (t := 5) (p := 20) rfl ?_); refine store_event (t := 5) (p := 20) (v := ?vo_w11) (w1 := (wr.setCell ⟨go9, (x4_1 : Int).toNat, none⟩ (.int .u8 (rd l0 x4_1)))) ?hg ?ho ?hn ?hr ?_; (case ho => rfl); (case hg => rfl); (case hn => rfl); (case hr => first | (go_simp; done) | (go_simp; rfl)); intro w11 hw; have hg : wr.grownBy w11 (some go9) := (by rw [hw]; exact HP10.2); have hp_ : Kd.R (Kd.int .u8) 5 w11 w.heap.size (fun _ => True) (.slice (some ⟨go9, 0, none⟩) x3_1.length co9) y185 := (by rw [hw, Ny185.out]; exact HP10.1); clear HP10; have n0_ := Aside0.mk (hp_); have n1_ := Aside0.mk ((by rw [hw]; exact below_set (HB.out) GB9.out : Below w.heap.size w w11)); clear HO_3; clear HB; have HO_3 := n0_; have HB := n1_; clear n0_ n1_; clear hg hw hp_))
        go_roundg k1
        case measure => have := HK1.out; omega
        case rel => exact ⟨(y185), (wrap64 (x4_1 + 1)), (by first | rfl | (simp; done) | (simp [*]; done)), H', ⟨by have := HK1.out; omega⟩, ⟨by (with_reducible repeat (first | apply Kd.R_alloc | apply Kd.R_drewN | apply Kd.R_drew)); exact HO_3.out⟩, ⟨by repeat (first | (with_reducible first | exact HB.out | apply below_alloc | apply pw_below_drewN | apply below_drew1) | exact HB.out)⟩⟩
       ·rw [if_neg c8] at H
        exact absurd H (by simp)
      ·rw [if_neg c7] at H
       exact absurd H (by simp)
     ·rw [if_neg c6] at H
      have c6b0 : decide (x4_1 < (l0.length : Int)) = false := decide_eq_false c6
      clear c6
      obtain rfl := Option.some.inj H
      go_wp2
      go_ret
      exact ⟨_, by first | rfl | (simp [errW_none, errW_some] <;> rfl) | (simp [*, errW_none, errW_some] <;> rfl), by (with_reducible repeat (first | apply Kd.R_alloc | apply Kd.R_drewN | apply Kd.R_drew)); exact HO_3.out, by repeat (first | (with_reducible first | exact HB.out | apply below_alloc | apply pw_below_drewN | apply below_drew1) | exact HB.out)⟩
  ·rw [if_neg c3] at H
   exact absurd H (by simp)
 ·rw [if_neg c2] at H
  exact absurd H (by simp)

/-! ### impl_beOf: function 40 -/
def impl_beOf.l0 : Nat → Int → List Int → Int → Int → Option (Int)
 | 0, _, _, _, _ => none
 | k + 1, x3, x6, x7, x8 => if x8 < x7 then (if 0 ≤ x8 then (if x8 < (x6.length : Int) then (impl_beOf.l0 k (Go.bits .or .i64 (wrap64 (x3 * 256)) (wrap64 (rd x6 x8))) x6 x7 (wrap64 (x8 + 1))) else (none)) else (none)) else (some x3)
def impl_beOf.f (k : Nat) (l0 : List Int) : Option (Int) := impl_beOf.l0 k 0 l0 (l0.length : Int) 0
theorem impl_beOf.mono_l : ∀ k, (∀ y0 y1 y2 y3, LeO (impl_beOf.l0 k y0 y1 y2 y3) (impl_beOf.l0 (k + 1) y0 y1 y2 y3))
 | 0 => fun _ _ _ _ r h => by simp [impl_beOf.l0] at h
 | k + 1 => by
  have ih0 := impl_beOf.mono_l k
  ·intro y0 y1 y2 y3
   unfold impl_beOf.l0
   repeat' first
   | (with_reducible exact ih0 _ _ _ _)
   | (with_reducible exact LeO.refl _)
   | (with_reducible exact LeO.none _)
   | (with_reducible refine LeO.ite ?_ ?_)
   | (with_reducible refine LeO.bind ?_ (fun _ => ?_))
   | exact ih0 _ _ _ _
   | exact LeO.none _
   | refine LeO.ite ?_ ?_
   | refine LeO.bind ?_ (fun _ => ?_)
theorem impl_beOf.mono : ∀ a0 k, LeO (impl_beOf.f k a0) (impl_beOf.f (k + 1) a0) := by
 intro a0 k
 have ih0 := impl_beOf.mono_l k
 unfold impl_beOf.f
 repeat' first
   | (with_reducible exact ih0 _ _ _ _)
   | (with_reducible exact LeO.refl _)
   | (with_reducible exact LeO.none _)
   | (with_reducible refine LeO.ite ?_ ?_)
   | (with_reducible refine LeO.bind ?_ (fun _ => ?_))
   | exact ih0 _ _ _ _
   | exact LeO.none _
   | refine LeO.ite ?_ ?_
   | refine LeO.bind ?_ (fun _ => ?_)
set_option maxHeartbeats 8000000 in
set_option maxRecDepth 100000 in
theorem impl_beOf.calls (k : Nat) (A0 : Option Addr) (c0 : Nat) (l0 : List Int) (r : Int) (w : World) (hr0 : Kd.C (Kd.int .u8) w A0 l0.length l0) (hc0 : l0.length ≤ c0) (h : impl_beOf.f k l0 = some r) :
  Calls Try.prog 40 #[.slice A0 l0.length c0] w fun e w' => e = .returned (.int .i64 r) ∧ Drawn0 w w' := by
 have HR0 := Aside0.mk hr0
 have HC0 := Aside0.mk hc0
 clear hr0 hc0
 have H : (impl_beOf.l0 k 0 l0 (l0.length : Int) 0) = some r := h
 clear h
 have H' := Aside0.mk H
 clear H
 go_enter Try.func40, Try.ntmps40
 go_wp2
 go_loopg [3, 8] k (fun kq v3 v8 w' => ∃ (x3_1 : Int) (x8_1 : Int), v3 = .int .i64 x3_1 ∧ v8 = .int .i64 x8_1 ∧ Aside0 (impl_beOf.l0 kq x3_1 l0 (l0.length : Int) x8_1 = some r) ∧ Aside0 (kq ≤ k) ∧ Drawn0 w w')
 case atStart => exact ⟨(0), (0), (by first | rfl | (simp; done) | (simp [*]; done)), (by first | rfl | (simp; done) | (simp [*]; done)), H', ⟨Nat.le_refl _⟩, by repeat (first | exact Drawn0.refl _ | apply Drawn0.step)⟩
 case round =>
  clear H'
  obtain ⟨x3_1, x8_1, rfl, rfl, HA, HK1, ⟨m1, rfl⟩⟩ := hrel
  cases gk with
  | zero => exact absurd HA.out (by simp [impl_beOf.l0])
  | succ k1 =>
   have H := HA.out
   clear HA
   simp only [impl_beOf.l0] at H
   by_cases c2 : x8_1 < (l0.length : Int)
   ·rw [if_pos c2] at H
    have c2b0 : decide (x8_1 < (l0.length : Int)) = true := decide_eq_true c2
    clear c2
    by_cases c3 : 0 ≤ x8_1
    ·rw [if_pos c3] at H
     have c3b0 : decide (0 ≤ x8_1) = true := decide_eq_true c3
     clear c3
     by_cases c4 : x8_1 < (l0.length : Int)
     ·rw [if_pos c4] at H
      have c4b0 : decide (x8_1 < (l0.length : Int)) = true := decide_eq_true c4
      clear c4
      have H' := Aside0.mk H
      clear H
      have p186 : 0 ≤ (x8_1 : Int) := of_decide_eq_true (by first | (with_reducible assumption) | assumption)
      have q186 : x8_1 < (l0.length : Int) := of_decide_eq_true (by first | (with_reducible assumption) | assumption)
      obtain ⟨ad186, e186, hx186_0⟩ := Kd.at_int HR0.out x8_1 p186 q186
      cases e186
      replace p186 := eq_true p186
      replace q186 := eq_true q186
      go_wp2
      go_roundg k1
      case measure => have := HK1.out; omega
      case rel => exact ⟨(Go.bits .or .i64 (wrap64 (x3_1 * 256)) (wrap64 (rd l0 x8_1))), (wrap64 (x8_1 + 1)), (by first | rfl | (simp; done) | (simp [*]; done)), (by first | rfl | (simp; done) | (simp [*]; done)), H', ⟨by have := HK1.out; omega⟩, by repeat (first | exact Drawn0.refl _ | apply Drawn0.step)⟩
     ·rw [if_neg c4] at H
      exact absurd H (by simp)
    ·rw [if_neg c3] at H
     exact absurd H (by simp)
   ·rw [if_neg c2] at H
    have c2b0 : decide (x8_1 < (l0.length : Int)) = false := decide_eq_false c2
    clear c2
    obtain rfl := Option.some.inj H
    go_wp2
    go_ret
    exact ⟨by first | rfl | (simp; done) | (simp [*]; done), by repeat (first | exact Drawn0.refl _ | apply Drawn0.step)⟩

/-! ### slices_Clone_byte_byte: function 42 -/
def slices_Clone_byte_byte.f (l0 : List Int) : Option (List Int) := if l0.length ≤ 140737488355328 then some l0 else none
set_option maxHeartbeats 4000000 in
set_option maxRecDepth 100000 in
theorem slices_Clone_byte_byte.calls (A0 : Option Addr) (c0 : Nat) (l0 : List Int) (r : List Int) (w : World) (hr0 : Kd.C (Kd.int .u8) w A0 l0.length l0) (_hc0 : l0.length ≤ c0) (h : slices_Clone_byte_byte.f l0 = some r) :
  Calls Try.prog 42 #[.slice A0 l0.length c0] w fun e w' => ∃ v0_ : Value, e = .returned (v0_) ∧ Kd.R (Kd.int .u8) 5 w' w.heap.size (fun _ => True) v0_ r ∧ Below w.heap.size w w' := by
 unfold slices_Clone_byte_byte.f at h
 by_cases hl : l0.length ≤ 140737488355328
 ·rw [if_pos hl] at h
  obtain rfl := Option.some.inj h
  clear h
  have infoC : (Try.prog.info? 5).map (fun i => (i.zero, i.size, i.bytes)) = some (some (.int .u8 0), 1, 1) := by kernel_rfl
  have q22 : ∀ (w : World) (a : Option Addr) (n c n' c' : Nat), (binOp .eql 22 (.slice a n c) (.slice none n' c')).run Try.prog w = .ok (.bool a.isNone) w := fun w a n c n' c' => Lib.run_eql_slice_nil w _ _ a n c n' c' Try.underlying22
  have HR0 := Aside0.mk hr0
  have HL := Aside0.mk hl
  clear hr0 hl _hc0
  cases A0 with
  | none =>
   have h0 : l0 = [] := by
    cases hh : l0 with
    | nil => rfl
    | cons a t =>
     obtain ⟨ad, he, _⟩ := HR0.out.2.2 (by rw [hh]; simp)
     cases he
   subst h0
   go_enter Try.func42, Try.ntmps42
   go_wp2
   go_ret
   exact ⟨_, rfl, Kd.R_nil _ _ _ _ _, Below.refl _ _⟩
  | some ad =>
   go_enter Try.func42, Try.ntmps42
   go_wp2_with ((with_reducible refine gate_builtin (b := .append) (xs := #[.tmp 5, .tmp 6]) rfl ?_); at_builtin; refine Kd.R_append_rows (Kd.int .u8) (w0 := w) w.heap.size rfl (.tmp 5) (.tmp 6) 22 5 (.int .u8 0) 1 rfl Try.underlying22 infoC rfl (by decide) (by omega) _ [] l0 _ _ _ (fun _ => True) (fun _ => False) rfl rfl ?aO ?aR (fun _ _ h => h) (fun _ h => h.elim) ?aF ?aB ?aS ?aL ?_; (case aR => exact Kd.C_alloc HR0.out _); (case aB => exact below_alloc (Below.refl _ _) _); (case aF => exact (fun _ _ => trivial)); (case aO => exact ⟨fun _ _ => trivial, [], World.ownsRow_made w #[] 0 (Nat.le_refl _) (Nat.zero_le _) (by simp), Reps.none _ _⟩); (case aS => exact below_size (below_alloc (Below.refl _ _) _)); (case aL => have := HL.out; simp; omega); intro v1 w1 ho hb hg hat; rw [List.nil_append] at ho; have HO1 := Aside0.mk ho; have HB1 := Aside0.mk hb; clear ho hb hg hat)
   go_ret
   exact ⟨_, rfl, HO1.out, HB1.out⟩
 ·rw [if_neg hl] at h
  exact absurd h (by simp)


/-! ### impl_isExtKind: function 79 -/
def impl_isExtKind.f (a0 : Int) : Option (Bool) := if a0 = 0 then (some true) else (if a0 = 43 then (some true) else (some (a0 == 60)))
set_option maxHeartbeats 8000000 in
set_option maxRecDepth 100000 in
theorem impl_isExtKind.calls (a0 : Int) (r : Bool) (w : World) (h : impl_isExtKind.f a0 = some r) :
  Calls Try.prog 79 #[.int .i64 a0] w fun e w' => e = .returned (.bool r) ∧ Drawn0 w w' := by
 have H : (if a0 = 0 then (some true) else (if a0 = 43 then (some true) else (some (a0 == 60)))) = some r := h
 clear h
 by_cases c2 : a0 = 0
 ·rw [if_pos c2] at H
  have c2b0 : (a0 == 0) = true := beq_iff_eq.mpr c2
  have c2b1 : (a0 != 0) = false := bne_eq_false_iff_eq.mpr c2
  clear c2
  obtain rfl := Option.some.inj H
  go_enter Try.func79, Try.ntmps79
  go_wp2
  go_ret
  exact ⟨by first | rfl | (simp; done) | (simp [*]; done), by repeat (first | exact Drawn0.refl _ | apply Drawn0.step)⟩
 ·rw [if_neg c2] at H
  have c2b0 : (a0 == 0) = false := beq_eq_false_iff_ne.mpr c2
  have c2b1 : (a0 != 0) = true := bne_iff_ne.mpr c2
  by_cases c3 : a0 = 43
  ·rw [if_pos c3] at H
   have c3b0 : (a0 == 43) = true := beq_iff_eq.mpr c3
   have c3b1 : (a0 != 43) = false := bne_eq_false_iff_eq.mpr c3
   clear c3
   obtain rfl := Option.some.inj H
   go_enter Try.func79, Try.ntmps79
   go_wp2
   go_ret
   exact ⟨by first | rfl | (simp; done) | (simp [*]; done), by repeat (first | exact Drawn0.refl _ | apply Drawn0.step)⟩
  ·rw [if_neg c3] at H
   have c3b0 : (a0 == 43) = false := beq_eq_false_iff_ne.mpr c3
   have c3b1 : (a0 != 43) = true := bne_iff_ne.mpr c3
   obtain rfl := Option.some.inj H
   go_enter Try.func79, Try.ntmps79
   go_wp2
   go_ret
   exact ⟨by first | rfl | (simp; done) | (simp [*]; done), by repeat (first | exact Drawn0.refl _ | apply Drawn0.step)⟩

/-! ### impl_extsRead: function 41 -/
def impl_extsRead.l0 : Nat → Int → List Int → List (S69) → Option ((List (S69)) × Int × List Int × Bool)
 | 0, _, _, _ => none
 | k + 1, x0, x1, x8 => (impl_isExtKind.f x0).bind fun t190 => (if t190 = true then (if (x8.length : Int) = 3 then (some (([] : List (S69)), 0, ([] : List Int), false)) else (if x0 = 0 then (if (x8.length : Int) > 0 then (some (([] : List (S69)), 0, ([] : List Int), false)) else (if (x1.length : Int) < 2 then (some (([] : List (S69)), 0, ([] : List Int), false)) else (if 1 < (x1.length : Int) then (if (rd x1 1) > 7 then (some (([] : List (S69)), 0, ([] : List Int), false)) else (if (wrap64 (8 * (wrap64 ((wrap64 (rd x1 1)) + 1)))) > (x1.length : Int) then (some (([] : List (S69)), 0, ([] : List Int), false)) else (if 2 ≤ (wrap64 (8 * (wrap64 ((wrap64 (rd x1 1)) + 1)))) then (if (wrap64 (8 * (wrap64 ((wrap64 (rd x1 1)) + 1)))) ≤ (x1.length : Int) then ((slices_Clone_byte_byte.f ((x1.take ((wrap64 (8 * (wrap64 ((wrap64 (rd x1 1)) + 1)))) : Int).toNat).drop 2)).bind fun t198 => (if x8.length < 4398046511104 then (if 0 < (x1.length : Int) then (if 0 ≤ (wrap64 (8 * (wrap64 ((wrap64 (rd x1 1)) + 1)))) then (impl_extsRead.l0 k (wrap64 (rd x1 0)) (x1.drop ((wrap64 (8 * (wrap64 ((wrap64 (rd x1 1)) + 1)))) : Int).toNat) (x8 ++ [(⟨x0, t198⟩ : S69)])) else (none)) else (none)) else (none))) else (none)) else (none)))) else (none)))) else (if (x1.length : Int) < 2 then (some (([] : List (S69)), 0, ([] : List Int), false)) else (if 1 < (x1.length : Int) then (if (rd x1 1) > 7 then (some (([] : List (S69)), 0, ([] : List Int), false)) else (if (wrap64 (8 * (wrap64 ((wrap64 (rd x1 1)) + 1)))) > (x1.length : Int) then (some (([] : List (S69)), 0, ([] : List Int), false)) else (if 2 ≤ (wrap64 (8 * (wrap64 ((wrap64 (rd x1 1)) + 1)))) then (if (wrap64 (8 * (wrap64 ((wrap64 (rd x1 1)) + 1)))) ≤ (x1.length : Int) then ((slices_Clone_byte_byte.f ((x1.take ((wrap64 (8 * (wrap64 ((wrap64 (rd x1 1)) + 1)))) : Int).toNat).drop 2)).bind fun t217 => (if x8.length < 4398046511104 then (if 0 < (x1.length : Int) then (if 0 ≤ (wrap64 (8 * (wrap64 ((wrap64 (rd x1 1)) + 1)))) then (impl_extsRead.l0 k (wrap64 (rd x1 0)) (x1.drop ((wrap64 (8 * (wrap64 ((wrap64 (rd x1 1)) + 1)))) : Int).toNat) (x8 ++ [(⟨x0, t217⟩ : S69)])) else (none)) else (none)) else (none))) else (none)) else (none)))) else (none))))) else (some (x8, x0, x1, true)))
def impl_extsRead.f (k : Nat) (a0 : Int) (l1 : List Int) : Option ((List (S69)) × Int × List Int × Bool) := impl_extsRead.l0 k a0 l1 (([] : List (S69)))
theorem impl_extsRead.mono_l : ∀ k, (∀ y0 y1 y2, LeO (impl_extsRead.l0 k y0 y1 y2) (impl_extsRead.l0 (k + 1) y0 y1 y2))
 | 0 => fun _ _ _ r h => by simp [impl_extsRead.l0] at h
 | k + 1 => by
  have ih0 := impl_extsRead.mono_l k
  ·intro y0 y1 y2
   unfold impl_extsRead.l0
   repeat' first
   | (with_reducible exact ih0 _ _ _)
   | (with_reducible exact LeO.refl _)
   | (with_reducible exact LeO.none _)
   | (with_reducible refine LeO.ite ?_ ?_)
   | (with_reducible refine LeO.bind ?_ (fun _ => ?_))
   | exact ih0 _ _ _
   | exact LeO.none _
   | refine LeO.ite ?_ ?_
   | refine LeO.bind ?_ (fun _ => ?_)
theorem impl_extsRead.mono : ∀ a0 a1 k, LeO (impl_extsRead.f k a0 a1) (impl_extsRead.f (k + 1) a0 a1) := by
 intro a0 a1 k
 have ih0 := impl_extsRead.mono_l k
 unfold impl_extsRead.f
 repeat' first
   | (with_reducible exact ih0 _ _ _)
   | (with_reducible exact LeO.refl _)
   | (with_reducible exact LeO.none _)
   | (with_reducible refine LeO.ite ?_ ?_)
   | (with_reducible refine LeO.bind ?_ (fun _ => ?_))
   | exact ih0 _ _ _
   | exact LeO.none _
   | refine LeO.ite ?_ ?_
   | refine LeO.bind ?_ (fun _ => ?_)
set_option maxHeartbeats 8000000 in
set_option maxRecDepth 100000 in
theorem impl_extsRead.calls (k : Nat) (a0 : Int) (A1 : Option Addr) (c1 : Nat) (l1 : List Int) (r1 : List (S69)) (r2 : Int) (r3 : List Int) (r4 : Bool) (w : World) (hr1 : Kd.C (Kd.int .u8) w A1 l1.length l1) (hc1 : l1.length ≤ c1) (h : impl_extsRead.f k a0 l1 = some (r1, r2, r3, r4)) :
  Calls Try.prog 41 #[.int .i64 a0, .slice A1 l1.length c1] w fun e w' => ∃ v0_ : Value, ∃ (A2_ : Option Addr) (c2_ : Nat), e = .returned (.tuple #[v0_, .int .i64 r2, .slice A2_ r3.length c2_, .bool r4]) ∧ Kd.S k69 69 w' w.heap.size (fun _ => True) v0_ r1 ∧ (Cuts A1 l1 A2_ r3 ∧ r3.length ≤ c2_) ∧ Below w.heap.size w w' := by
 have hu22 := Try.underlying22
 have hu25 := Try.underlying25
 have hu69 := Try.underlying69
 have z5_ : (Try.prog.info? 5).map (·.size) = some 1 := by kernel_rfl
 have O5_ : IsOne Try.prog 5 := ⟨⟨_, Try.underlying5, rfl⟩, by kernel_rfl⟩
 have HR1 := Aside0.mk hr1
 have HC1 := Aside0.mk hc1
 clear hr1 hc1
 have HF := Fr.start [] w
 have HP := Aside0.mk True.intro
 unfold impl_extsRead.f at h
 have HH := Aside0.mk h
 clear h
 go_enter Try.func41, Try.ntmps41
 repeat' (first | (have h_ := HH.out; (with_reducible replace h_ := ite_ways h_); clear HH; rcases h_ with ⟨c_, h_⟩ | ⟨c_, h_⟩ <;> (have HH := Aside0.mk h_; clear h_; first | (with_reducible exact (none_ne HH.out).elim) | (replace HP := Aside0.mk (And.intro c_ HP.out); first | (have := natpos c_; have := decide_eq_true (show _ < _ from c_); clear c_) | (have e_ := natnil c_; subst e_; clear c_) | (replace c_ := (show (_ : Bool) = true from c_); subst c_) | (replace c_ := Bool.eq_false_iff.mpr c_; subst c_) | (replace c_ := bne_eq_false_iff_eq.mp (Bool.eq_false_iff.mpr c_); subst c_) | (replace c_ := (show (_ : Bool) = true from c_); try have := beq_eq_false_iff_ne.mpr (bne_iff_ne.mp c_)) | (replace c_ := Bool.eq_false_iff.mpr c_) | (have := beq_iff_eq.mpr c_; have := bne_eq_false_iff_eq.mpr c_; clear c_) | (have := beq_eq_false_iff_ne.mpr c_; have := bne_iff_ne.mpr c_; clear c_) | (have := decide_eq_true (show _ ≤ _ from c_); clear c_) | (have := decide_eq_true (show _ < _ from c_); clear c_) | (have := decide_eq_false (show ¬ (_ ≤ _) from c_); clear c_) | (have := decide_eq_false (show ¬ (_ < _) from c_); clear c_)))) | (with_reducible exact (none_ne HH.out).elim) | (with_reducible exact (ft_ne HH.out).elim) | fail)
 all_goals (repeat' (first
    | (((with_reducible refine gate_region (id := 0) ?_); apply plain_region) <;>
    (apply lpure rfl rfl; (go_simp; with_reducible rfl); (simp only [Act.put, List.setIfInBounds_toArray, List.set_cons_zero, List.set_cons_succ, i64_w, i32_w, u8_wr, tmod_nat, Int.reduceToNat]; rfl)) <;>
    (apply lpure rfl rfl; (go_simp; with_reducible rfl); (simp only [Act.put, List.setIfInBounds_toArray, List.set_cons_zero, List.set_cons_succ, i64_w, i32_w, u8_wr, tmod_nat, Int.reduceToNat]; rfl)) <;>
    (apply lpure rfl rfl; (go_simp; with_reducible rfl); (simp only [Act.put, List.setIfInBounds_toArray, List.set_cons_zero, List.set_cons_succ, i64_w, i32_w, u8_wr, tmod_nat, Int.reduceToNat]; rfl)) <;>
    (apply lpure rfl rfl; (go_simp; with_reducible rfl); (simp only [Act.put, List.setIfInBounds_toArray, List.set_cons_zero, List.set_cons_succ, i64_w, i32_w, u8_wr, tmod_nat, Int.reduceToNat]; rfl)) <;>
    (apply lend))
    | (((with_reducible refine gate_region (id := 1) ?_); apply plain_region) <;>
    (have HF0 := HF; apply HF.lempty rfl rfl; (go_simp; first | rfl | exact ⟨rfl, rfl⟩); clear HF; intro g_ w_ hg_ hb_ hh_ HF; replace HF := HF.mark; have HO10_0 := emptyS_row (d := k69) HF0 hg_ hh_; clear hg_ hb_ hh_ HF0; (refine lnorm (a' := ?_) ?_ ?_; rotate_left; (simp only [Act.put, List.setIfInBounds_toArray, List.set_cons_zero, List.set_cons_succ, i64_w, i32_w, u8_wr, tmod_nat, Int.reduceToNat]; rfl))) <;>
    ((apply lpure rfl rfl; (go_simp; with_reducible rfl); (simp only [Act.put, List.setIfInBounds_toArray, List.set_cons_zero, List.set_cons_succ, i64_w, i32_w, u8_wr, tmod_nat, Int.reduceToNat]; rfl)); (try clear HO8_0); have HO8_0 := HO10_0) <;>
    (apply lend))
    | (((with_reducible refine gate_region (id := 2) ?_); have k_ := HO8_0; clear k_; apply plain_region) <;>
    (apply lpure rfl rfl; (go_simp; with_reducible rfl); (simp only [Act.put, List.setIfInBounds_toArray, List.set_cons_zero, List.set_cons_succ, i64_w, i32_w, u8_wr, tmod_nat, Int.reduceToNat]; rfl)) <;>
    (have h_ := HH.out; (with_reducible replace h_ := Option.bind_eq_some_iff.mp h_); clear HH; obtain ⟨_, A_, h_⟩ := h_; (try dsimp only at h_); have HH := Aside0.mk h_; clear h_; have A12_ := Aside0.mk A_; clear A_) <;>
    (repeat' (first | (have h_ := HH.out; (with_reducible replace h_ := ite_ways h_); clear HH; rcases h_ with ⟨c_, h_⟩ | ⟨c_, h_⟩ <;> (have HH := Aside0.mk h_; clear h_; first | (with_reducible exact (none_ne HH.out).elim) | (replace HP := Aside0.mk (And.intro c_ HP.out); first | (have := natpos c_; have := decide_eq_true (show _ < _ from c_); clear c_) | (have e_ := natnil c_; subst e_; clear c_) | (replace c_ := (show (_ : Bool) = true from c_); subst c_) | (replace c_ := Bool.eq_false_iff.mpr c_; subst c_) | (replace c_ := bne_eq_false_iff_eq.mp (Bool.eq_false_iff.mpr c_); subst c_) | (replace c_ := (show (_ : Bool) = true from c_); try have := beq_eq_false_iff_ne.mpr (bne_iff_ne.mp c_)) | (replace c_ := Bool.eq_false_iff.mpr c_) | (have := beq_iff_eq.mpr c_; have := bne_eq_false_iff_eq.mpr c_; clear c_) | (have := beq_eq_false_iff_ne.mpr c_; have := bne_iff_ne.mpr c_; clear c_) | (have := decide_eq_true (show _ ≤ _ from c_); clear c_) | (have := decide_eq_true (show _ < _ from c_); clear c_) | (have := decide_eq_false (show ¬ (_ ≤ _) from c_); clear c_) | (have := decide_eq_false (show ¬ (_ < _) from c_); clear c_)))) | (with_reducible exact (none_ne HH.out).elim) | (with_reducible exact (ft_ne HH.out).elim) | fail)) <;>
    (apply lcall rfl rfl rfl Try.func79 (by kernel_rfl) rfl; (with_reducible apply Calls.mono); (with_reducible apply impl_isExtKind.calls (h := A12_.out)); rintro e w_ ⟨rfl, hb_⟩; refine ⟨_, rfl, ?_⟩; replace HF := HF.drawn hb_; clear hb_; rotate_left; (first | rfl | (simp only [List.map_toArray, List.map_cons, List.map_nil]; first | done | rfl)); clear A12_; (refine lnorm (a' := ?_) ?_ ?_; rotate_left; (simp only [Act.put, List.setIfInBounds_toArray, List.set_cons_zero, List.set_cons_succ, i64_w, i32_w, u8_wr, tmod_nat, Int.reduceToNat]; rfl))) <;>
    (apply lend))
    | (((with_reducible refine gate_region (id := 3) ?_); have k_ := HO8_0; clear k_; apply plain_region) <;>
    (apply lpure rfl rfl; (go_simp; with_reducible rfl); (simp only [Act.put, List.setIfInBounds_toArray, List.set_cons_zero, List.set_cons_succ, i64_w, i32_w, u8_wr, tmod_nat, Int.reduceToNat]; rfl)) <;>
    (apply lpure rfl rfl; (go_simp; with_reducible rfl); (simp only [Act.put, List.setIfInBounds_toArray, List.set_cons_zero, List.set_cons_succ, i64_w, i32_w, u8_wr, tmod_nat, Int.reduceToNat]; rfl)) <;>
    (apply lpure rfl rfl; (go_simp; with_reducible rfl); (simp only [Act.put, List.setIfInBounds_toArray, List.set_cons_zero, List.set_cons_succ, i64_w, i32_w, u8_wr, tmod_nat, Int.reduceToNat]; rfl)) <;>
    (apply lpure rfl rfl; (go_simp; with_reducible rfl); (simp only [Act.put, List.setIfInBounds_toArray, List.set_cons_zero, List.set_cons_succ, i64_w, i32_w, u8_wr, tmod_nat, Int.reduceToNat]; rfl)) <;>
    (first | ((apply lpure rfl rfl; (go_simp; with_reducible rfl); (simp only [Act.put, List.setIfInBounds_toArray, List.set_cons_zero, List.set_cons_succ, i64_w, i32_w, u8_wr, tmod_nat, Int.reduceToNat]; rfl))) | (apply loff rfl rfl; (simp only [Act.put, List.setIfInBounds_toArray, List.set_cons_zero, List.set_cons_succ, i64_w, i32_w, u8_wr, tmod_nat, Int.reduceToNat]; rfl))) <;>
    (first | ((apply lpure rfl rfl; (go_simp; with_reducible rfl); (simp only [Act.put, List.setIfInBounds_toArray, List.set_cons_zero, List.set_cons_succ, i64_w, i32_w, u8_wr, tmod_nat, Int.reduceToNat]; rfl))) | (apply loff rfl rfl; (simp only [Act.put, List.setIfInBounds_toArray, List.set_cons_zero, List.set_cons_succ, i64_w, i32_w, u8_wr, tmod_nat, Int.reduceToNat]; rfl))) <;>
    (first | ((apply lpure rfl rfl; (go_simp; with_reducible rfl); (simp only [Act.put, List.setIfInBounds_toArray, List.set_cons_zero, List.set_cons_succ, i64_w, i32_w, u8_wr, tmod_nat, Int.reduceToNat]; rfl))) | (apply loff rfl rfl; (simp only [Act.put, List.setIfInBounds_toArray, List.set_cons_zero, List.set_cons_succ, i64_w, i32_w, u8_wr, tmod_nat, Int.reduceToNat]; rfl))) <;>
    (first | ((apply lpure rfl rfl; (go_simp; with_reducible rfl); (simp only [Act.put, List.setIfInBounds_toArray, List.set_cons_zero, List.set_cons_succ, i64_w, i32_w, u8_wr, tmod_nat, Int.reduceToNat]; rfl))) | (apply loff rfl rfl; (simp only [Act.put, List.setIfInBounds_toArray, List.set_cons_zero, List.set_cons_succ, i64_w, i32_w, u8_wr, tmod_nat, Int.reduceToNat]; rfl))) <;>
    (first | ((apply lpure rfl rfl; (go_simp; with_reducible rfl); (simp only [Act.put, List.setIfInBounds_toArray, List.set_cons_zero, List.set_cons_succ, i64_w, i32_w, u8_wr, tmod_nat, Int.reduceToNat]; rfl))) | (apply loff rfl rfl; (simp only [Act.put, List.setIfInBounds_toArray, List.set_cons_zero, List.set_cons_succ, i64_w, i32_w, u8_wr, tmod_nat, Int.reduceToNat]; rfl))) <;>
    (first | ((apply lpure rfl rfl; (go_simp; with_reducible rfl); (simp only [Act.put, List.setIfInBounds_toArray, List.set_cons_zero, List.set_cons_succ, i64_w, i32_w, u8_wr, tmod_nat, Int.reduceToNat]; rfl))) | (apply loff rfl rfl; (simp only [Act.put, List.setIfInBounds_toArray, List.set_cons_zero, List.set_cons_succ, i64_w, i32_w, u8_wr, tmod_nat, Int.reduceToNat]; rfl))) <;>
    (first | ((apply lpure rfl rfl; (go_simp; with_reducible rfl); (simp only [Act.put, List.setIfInBounds_toArray, List.set_cons_zero, List.set_cons_succ, i64_w, i32_w, u8_wr, tmod_nat, Int.reduceToNat]; rfl))) | (apply loff rfl rfl; (simp only [Act.put, List.setIfInBounds_toArray, List.set_cons_zero, List.set_cons_succ, i64_w, i32_w, u8_wr, tmod_nat, Int.reduceToNat]; rfl))) <;>
    (apply lpure rfl rfl; (go_simp; with_reducible rfl); (simp only [Act.put, List.setIfInBounds_toArray, List.set_cons_zero, List.set_cons_succ, i64_w, i32_w, u8_wr, tmod_nat, Int.reduceToNat]; rfl)) <;>
    (apply lpure rfl rfl; (go_simp; with_reducible rfl); (simp only [Act.put, List.setIfInBounds_toArray, List.set_cons_zero, List.set_cons_succ, i64_w, i32_w, u8_wr, tmod_nat, Int.reduceToNat]; rfl)) <;>
    (first | ((apply lpure rfl rfl; (go_simp; with_reducible rfl); (simp only [Act.put, List.setIfInBounds_toArray, List.set_cons_zero, List.set_cons_succ, i64_w, i32_w, u8_wr, tmod_nat, Int.reduceToNat]; rfl))) | (apply loff rfl rfl; (simp only [Act.put, List.setIfInBounds_toArray, List.set_cons_zero, List.set_cons_succ, i64_w, i32_w, u8_wr, tmod_nat, Int.reduceToNat]; rfl))) <;>
    (first | ((apply lpure rfl rfl; (go_simp; with_reducible rfl); (simp only [Act.put, List.setIfInBounds_toArray, List.set_cons_zero, List.set_cons_succ, i64_w, i32_w, u8_wr, tmod_nat, Int.reduceToNat]; rfl))) | (apply loff rfl rfl; (simp only [Act.put, List.setIfInBounds_toArray, List.set_cons_zero, List.set_cons_succ, i64_w, i32_w, u8_wr, tmod_nat, Int.reduceToNat]; rfl))) <;>
    (first | ((apply lpure rfl rfl; (go_simp; with_reducible rfl); (simp only [Act.put, List.setIfInBounds_toArray, List.set_cons_zero, List.set_cons_succ, i64_w, i32_w, u8_wr, tmod_nat, Int.reduceToNat]; rfl))) | (apply loff rfl rfl; (simp only [Act.put, List.setIfInBounds_toArray, List.set_cons_zero, List.set_cons_succ, i64_w, i32_w, u8_wr, tmod_nat, Int.reduceToNat]; rfl))) <;>
    (apply lpure rfl rfl; (go_simp; with_reducible rfl); (simp only [Act.put, List.setIfInBounds_toArray, List.set_cons_zero, List.set_cons_succ, i64_w, i32_w, u8_wr, tmod_nat, Int.reduceToNat]; rfl)) <;>
    (apply lpure rfl rfl; (go_simp; with_reducible rfl); (simp only [Act.put, List.setIfInBounds_toArray, List.set_cons_zero, List.set_cons_succ, i64_w, i32_w, u8_wr, tmod_nat, Int.reduceToNat]; rfl)) <;>
    (first | ((apply lpure rfl rfl; (go_simp; with_reducible rfl); (simp only [Act.put, List.setIfInBounds_toArray, List.set_cons_zero, List.set_cons_succ, i64_w, i32_w, u8_wr, tmod_nat, Int.reduceToNat]; rfl))) | (apply loff rfl rfl; (simp only [Act.put, List.setIfInBounds_toArray, List.set_cons_zero, List.set_cons_succ, i64_w, i32_w, u8_wr, tmod_nat, Int.reduceToNat]; rfl))) <;>
    (first | ((apply lpure rfl rfl; (exact run_idx rfl rfl rfl hu22 z5_ (HQ1_0.out _ (Kd.C_below HR1.out HF.below)) (by first | omega | exact of_decide_eq_true (by assumption) | (have h_ := HP.out; omega)) (by first | omega | exact of_decide_eq_true (by assumption) | (have h_ := HP.out; omega))); (simp only [Act.put, List.setIfInBounds_toArray, List.set_cons_zero, List.set_cons_succ, i64_w, i32_w, u8_wr, tmod_nat, Int.reduceToNat]; rfl))) | (apply loff rfl rfl; (simp only [Act.put, List.setIfInBounds_toArray, List.set_cons_zero, List.set_cons_succ, i64_w, i32_w, u8_wr, tmod_nat, Int.reduceToNat]; rfl))) <;>
    (first | ((apply lelt rfl rfl; exact run_elt (y := 1) rfl rfl O5_ (HQ1_0.out _ (Kd.C_below HR1.out HF.below)) (by first | omega | exact of_decide_eq_true (by assumption) | (have h_ := HP.out; omega)) (by first | omega | exact of_decide_eq_true (by assumption) | (have h_ := HP.out; omega)); (simp only [Act.put, List.setIfInBounds_toArray, List.set_cons_zero, List.set_cons_succ, i64_w, i32_w, u8_wr, tmod_nat, Int.reduceToNat]; rfl))) | (apply loff rfl rfl; (simp only [Act.put, List.setIfInBounds_toArray, List.set_cons_zero, List.set_cons_succ, i64_w, i32_w, u8_wr, tmod_nat, Int.reduceToNat]; rfl))) <;>
    (first | ((apply lpure rfl rfl; (go_simp; with_reducible rfl); (simp only [Act.put, List.setIfInBounds_toArray, List.set_cons_zero, List.set_cons_succ, i64_w, i32_w, u8_wr, tmod_nat, Int.reduceToNat]; rfl))) | (apply loff rfl rfl; (simp only [Act.put, List.setIfInBounds_toArray, List.set_cons_zero, List.set_cons_succ, i64_w, i32_w, u8_wr, tmod_nat, Int.reduceToNat]; rfl))) <;>
    (apply lpure rfl rfl; (go_simp; with_reducible rfl); (simp only [Act.put, List.setIfInBounds_toArray, List.set_cons_zero, List.set_cons_succ, i64_w, i32_w, u8_wr, tmod_nat, Int.reduceToNat]; rfl)) <;>
    (apply lend))
    | (((with_reducible refine gate_region (id := 4) ?_); have k_ := HO8_0; clear k_; apply plain_region) <;>
    (apply lpure rfl rfl; (go_simp; with_reducible rfl); (simp only [Act.put, List.setIfInBounds_toArray, List.set_cons_zero, List.set_cons_succ, i64_w, i32_w, u8_wr, tmod_nat, Int.reduceToNat]; rfl)) <;>
    (apply lpure rfl rfl; (go_simp; with_reducible rfl); (simp only [Act.put, List.setIfInBounds_toArray, List.set_cons_zero, List.set_cons_succ, i64_w, i32_w, u8_wr, tmod_nat, Int.reduceToNat]; rfl)) <;>
    (apply lpure rfl rfl; (go_simp; with_reducible rfl); (simp only [Act.put, List.setIfInBounds_toArray, List.set_cons_zero, List.set_cons_succ, i64_w, i32_w, u8_wr, tmod_nat, Int.reduceToNat]; rfl)) <;>
    (apply lpure rfl rfl; (go_simp; with_reducible rfl); (simp only [Act.put, List.setIfInBounds_toArray, List.set_cons_zero, List.set_cons_succ, i64_w, i32_w, u8_wr, tmod_nat, Int.reduceToNat]; rfl)) <;>
    (apply lend))
    | (((with_reducible refine gate_region (id := 5) ?_); have k_ := HO8_0; clear k_; apply plain_region) <;>
    (apply lpure rfl rfl; (go_simp; with_reducible rfl); (simp only [Act.put, List.setIfInBounds_toArray, List.set_cons_zero, List.set_cons_succ, i64_w, i32_w, u8_wr, tmod_nat, Int.reduceToNat]; rfl)) <;>
    (apply lpure rfl rfl; (exact run_idx rfl rfl rfl hu22 z5_ (HQ1_0.out _ (Kd.C_below HR1.out HF.below)) (by first | omega | exact of_decide_eq_true (by assumption) | (have h_ := HP.out; omega)) (by first | omega | exact of_decide_eq_true (by assumption) | (have h_ := HP.out; omega))); (simp only [Act.put, List.setIfInBounds_toArray, List.set_cons_zero, List.set_cons_succ, i64_w, i32_w, u8_wr, tmod_nat, Int.reduceToNat]; rfl)) <;>
    (apply lelt rfl rfl; exact run_elt (y := 1) rfl rfl O5_ (HQ1_0.out _ (Kd.C_below HR1.out HF.below)) (by first | omega | exact of_decide_eq_true (by assumption) | (have h_ := HP.out; omega)) (by first | omega | exact of_decide_eq_true (by assumption) | (have h_ := HP.out; omega)); (simp only [Act.put, List.setIfInBounds_toArray, List.set_cons_zero, List.set_cons_succ, i64_w, i32_w, u8_wr, tmod_nat, Int.reduceToNat]; rfl)) <;>
    (apply lpure rfl rfl; (go_simp; with_reducible rfl); (simp only [Act.put, List.setIfInBounds_toArray, List.set_cons_zero, List.set_cons_succ, i64_w, i32_w, u8_wr, tmod_nat, Int.reduceToNat]; rfl)) <;>
    (apply lpure rfl rfl; (go_simp; with_reducible rfl); (simp only [Act.put, List.setIfInBounds_toArray, List.set_cons_zero, List.set_cons_succ, i64_w, i32_w, u8_wr, tmod_nat, Int.reduceToNat]; rfl)) <;>
    (apply lpure rfl rfl; (go_simp; with_reducible rfl); (simp only [Act.put, List.setIfInBounds_toArray, List.set_cons_zero, List.set_cons_succ, i64_w, i32_w, u8_wr, tmod_nat, Int.reduceToNat]; rfl)) <;>
    (apply lpure rfl rfl; (go_simp; with_reducible rfl); (simp only [Act.put, List.setIfInBounds_toArray, List.set_cons_zero, List.set_cons_succ, i64_w, i32_w, u8_wr, tmod_nat, Int.reduceToNat]; rfl)) <;>
    (apply lend))
    | (((with_reducible refine gate_region (id := 6) ?_); have k_ := HO8_0; clear k_; apply plain_region) <;>
    (apply lpure rfl rfl; (go_simp; with_reducible rfl); (simp only [Act.put, List.setIfInBounds_toArray, List.set_cons_zero, List.set_cons_succ, i64_w, i32_w, u8_wr, tmod_nat, Int.reduceToNat]; rfl)) <;>
    (apply lpure rfl rfl; (go_simp; with_reducible rfl); (simp only [Act.put, List.setIfInBounds_toArray, List.set_cons_zero, List.set_cons_succ, i64_w, i32_w, u8_wr, tmod_nat, Int.reduceToNat]; rfl)) <;>
    (apply lpure rfl rfl; (go_simp; with_reducible rfl); (simp only [Act.put, List.setIfInBounds_toArray, List.set_cons_zero, List.set_cons_succ, i64_w, i32_w, u8_wr, tmod_nat, Int.reduceToNat]; rfl)) <;>
    (apply lpure rfl rfl; (go_simp; with_reducible rfl); (simp only [Act.put, List.setIfInBounds_toArray, List.set_cons_zero, List.set_cons_succ, i64_w, i32_w, u8_wr, tmod_nat, Int.reduceToNat]; rfl)) <;>
    (apply lend))
    | (((with_reducible refine gate_region (id := 7) ?_); have k_ := HO8_0; clear k_; apply plain_region) <;>
    (apply lpure rfl rfl; (go_simp; with_reducible rfl); (simp only [Act.put, List.setIfInBounds_toArray, List.set_cons_zero, List.set_cons_succ, i64_w, i32_w, u8_wr, tmod_nat, Int.reduceToNat]; rfl)) <;>
    (apply lpure rfl rfl; (go_simp; with_reducible rfl); (simp only [Act.put, List.setIfInBounds_toArray, List.set_cons_zero, List.set_cons_succ, i64_w, i32_w, u8_wr, tmod_nat, Int.reduceToNat]; rfl)) <;>
    (apply lpure rfl rfl; (go_simp; with_reducible rfl); (simp only [Act.put, List.setIfInBounds_toArray, List.set_cons_zero, List.set_cons_succ, i64_w, i32_w, u8_wr, tmod_nat, Int.reduceToNat]; rfl)) <;>
    (apply lpure rfl rfl; (go_simp; with_reducible rfl); (simp only [Act.put, List.setIfInBounds_toArray, List.set_cons_zero, List.set_cons_succ, i64_w, i32_w, u8_wr, tmod_nat, Int.reduceToNat]; rfl)) <;>
    (apply lend))
    | (((with_reducible refine gate_region (id := 8) ?_); have k_ := HO8_0; clear k_; apply plain_region) <;>
    (apply lpure rfl rfl; (go_simp; with_reducible rfl); (simp only [Act.put, List.setIfInBounds_toArray, List.set_cons_zero, List.set_cons_succ, i64_w, i32_w, u8_wr, tmod_nat, Int.reduceToNat]; rfl)) <;>
    (apply lpure rfl rfl; (go_simp; with_reducible rfl); (simp only [Act.put, List.setIfInBounds_toArray, List.set_cons_zero, List.set_cons_succ, i64_w, i32_w, u8_wr, tmod_nat, Int.reduceToNat]; rfl)) <;>
    (apply lpure rfl rfl; (go_simp; with_reducible rfl); (simp only [Act.put, List.setIfInBounds_toArray, List.set_cons_zero, List.set_cons_succ, i64_w, i32_w, u8_wr, tmod_nat, Int.reduceToNat]; rfl)) <;>
    (apply lpure rfl rfl; (go_simp; with_reducible rfl); (simp only [Act.put, List.setIfInBounds_toArray, List.set_cons_zero, List.set_cons_succ, i64_w, i32_w, u8_wr, tmod_nat, Int.reduceToNat]; rfl)) <;>
    (apply lpure rfl rfl; (exact run_mid rfl rfl rfl rfl hu22 z5_ HL1_0.out (by first | omega | exact of_decide_eq_true (by assumption) | (have h_ := HP.out; omega)) (by first | omega | exact of_decide_eq_true (by assumption) | (have h_ := HP.out; omega)) (by first | omega | exact of_decide_eq_true (by assumption) | (have h_ := HP.out; omega))); (simp only [Act.put, List.setIfInBounds_toArray, List.set_cons_zero, List.set_cons_succ, i64_w, i32_w, u8_wr, tmod_nat, Int.reduceToNat]; rfl)) <;>
    (have h_ := HH.out; (with_reducible replace h_ := Option.bind_eq_some_iff.mp h_); clear HH; obtain ⟨_, A_, h_⟩ := h_; (try dsimp only at h_); have HH := Aside0.mk h_; clear h_; have A51_ := Aside0.mk A_; clear A_) <;>
    (repeat' (first | (have h_ := HH.out; (with_reducible replace h_ := ite_ways h_); clear HH; rcases h_ with ⟨c_, h_⟩ | ⟨c_, h_⟩ <;> (have HH := Aside0.mk h_; clear h_; first | (with_reducible exact (none_ne HH.out).elim) | (replace HP := Aside0.mk (And.intro c_ HP.out); first | (have := natpos c_; have := decide_eq_true (show _ < _ from c_); clear c_) | (have e_ := natnil c_; subst e_; clear c_) | (replace c_ := (show (_ : Bool) = true from c_); subst c_) | (replace c_ := Bool.eq_false_iff.mpr c_; subst c_) | (replace c_ := bne_eq_false_iff_eq.mp (Bool.eq_false_iff.mpr c_); subst c_) | (replace c_ := (show (_ : Bool) = true from c_); try have := beq_eq_false_iff_ne.mpr (bne_iff_ne.mp c_)) | (replace c_ := Bool.eq_false_iff.mpr c_) | (have := beq_iff_eq.mpr c_; have := bne_eq_false_iff_eq.mpr c_; clear c_) | (have := beq_eq_false_iff_ne.mpr c_; have := bne_iff_ne.mpr c_; clear c_) | (have := decide_eq_true (show _ ≤ _ from c_); clear c_) | (have := decide_eq_true (show _ < _ from c_); clear c_) | (have := decide_eq_false (show ¬ (_ ≤ _) from c_); clear c_) | (have := decide_eq_false (show ¬ (_ < _) from c_); clear c_)))) | (with_reducible exact (none_ne HH.out).elim) | (with_reducible exact (ft_ne HH.out).elim) | fail)) <;>
    (apply lcall rfl rfl rfl Try.func42 (by kernel_rfl) rfl; (with_reducible apply Calls.mono); (with_reducible apply slices_Clone_byte_byte.calls (h := A51_.out)); exact (C_drop (C_take (HQ1_0.out _ (Kd.C_below HR1.out HF.below)) _) (L_take HL1_0.out _) _); exact (L_drop (L_take HL1_0.out _) _); have HS51 := HF.since; rintro e w_ ⟨v0_, rfl, hov0_, hb_⟩; obtain ⟨Av51_0, cv51_0, rfl⟩ := Kd.R_slice hov0_; have HO51_0 := HF.row2 hov0_; have HB51 := Aside0.mk hb_.size; clear hov0_; refine ⟨_, rfl, ?_⟩; replace HF := (HF.call hb_).mark; clear hb_; rotate_left; (first | rfl | (simp only [List.map_toArray, List.map_cons, List.map_nil]; first | done | rfl)); clear A51_; (refine lnorm (a' := ?_) ?_ ?_; rotate_left; (simp only [Act.put, List.setIfInBounds_toArray, List.set_cons_zero, List.set_cons_succ, i64_w, i32_w, u8_wr, tmod_nat, Int.reduceToNat]; rfl))) <;>
    (apply lpure rfl rfl; (go_simp; with_reducible rfl); (simp only [Act.put, List.setIfInBounds_toArray, List.set_cons_zero, List.set_cons_succ, i64_w, i32_w, u8_wr, tmod_nat, Int.reduceToNat]; rfl)) <;>
    (apply lappS (d := k69) HF rfl rfl ?_ rfl rfl rfl hu25 info69 rfl (by decide) (by decide) rfl rfl (k69_mkM _ _ _ ⟨_, _⟩ (Kd.R_mono (HF.row_now HO51_0.out (by simp) (by decide)) (fun k_ h_ => h_.2.1))) (Kd.S_mono (HF.row_nowS (Kd.S_bound HO8_0.out) (by simp) (by decide)) (fun k_ h_ => by have a_ := h_.2.2.1; (try have s8_ := HS8.out); (try have t8_ := HB8.out); (try have s51_ := HS51.out); (try have t51_ := HB51.out); (try have s10_ := HS10.out); (try have t10_ := HB10.out); omega)) (by decide) (by first | omega | (have h_ := HP.out; omega)) ?_; rotate_left; (go_simp; first | rfl | exact ⟨rfl, rfl⟩ | exact ⟨rfl, rfl, rfl⟩); intro v_ w_ ho_ HF1; clear HF; have HF := HF1; clear HF1; obtain ⟨Av54_0, cv54_0, rfl⟩ := Kd.S_slice ho_; have HO54_0 := Aside0.mk ho_; clear ho_; (refine lnorm (a' := ?_) ?_ ?_; rotate_left; (simp only [Act.put, List.setIfInBounds_toArray, List.set_cons_zero, List.set_cons_succ, i64_w, i32_w, u8_wr, tmod_nat, Int.reduceToNat]; rfl))) <;>
    ((apply lpure rfl rfl; (go_simp; with_reducible rfl); (simp only [Act.put, List.setIfInBounds_toArray, List.set_cons_zero, List.set_cons_succ, i64_w, i32_w, u8_wr, tmod_nat, Int.reduceToNat]; rfl)); (try clear HO8_0); have HO8_0 := HO54_0) <;>
    (apply lend))
    | (((with_reducible refine gate_region (id := 9) ?_); have k_ := HO8_0; clear k_; have k_ := HO51_0; clear k_; have k_ := HO54_0; clear k_; have HG := HF; refine HG.region2 HF (by kernel_rfl) rfl ?_; clear HF HG; intro w_ HF HG) <;>
    (repeat' (first | (have h_ := HH.out; (with_reducible replace h_ := ite_ways h_); clear HH; rcases h_ with ⟨c_, h_⟩ | ⟨c_, h_⟩ <;> (have HH := Aside0.mk h_; clear h_; first | (with_reducible exact (none_ne HH.out).elim) | (replace HP := Aside0.mk (And.intro c_ HP.out); first | (have := natpos c_; have := decide_eq_true (show _ < _ from c_); clear c_) | (have e_ := natnil c_; subst e_; clear c_) | (replace c_ := (show (_ : Bool) = true from c_); subst c_) | (replace c_ := Bool.eq_false_iff.mpr c_; subst c_) | (replace c_ := bne_eq_false_iff_eq.mp (Bool.eq_false_iff.mpr c_); subst c_) | (replace c_ := (show (_ : Bool) = true from c_); try have := beq_eq_false_iff_ne.mpr (bne_iff_ne.mp c_)) | (replace c_ := Bool.eq_false_iff.mpr c_) | (have := beq_iff_eq.mpr c_; have := bne_eq_false_iff_eq.mpr c_; clear c_) | (have := beq_eq_false_iff_ne.mpr c_; have := bne_iff_ne.mpr c_; clear c_) | (have := decide_eq_true (show _ ≤ _ from c_); clear c_) | (have := decide_eq_true (show _ < _ from c_); clear c_) | (have := decide_eq_false (show ¬ (_ ≤ _) from c_); clear c_) | (have := decide_eq_false (show ¬ (_ < _) from c_); clear c_)))) | (with_reducible exact (none_ne HH.out).elim) | (with_reducible exact (ft_ne HH.out).elim) | fail)) <;>
    (apply Fr.rpure 0 rfl rfl rfl (by kernel_rfl) (fun _ _ _ h => h); (intro w_; go_simp; with_reducible rfl); (simp only [Act.put, List.setIfInBounds_toArray, List.set_cons_zero, List.set_cons_succ, i64_w, i32_w, u8_wr, tmod_nat, Int.reduceToNat]; rfl)) <;>
    (apply Fr.rpure 1 rfl rfl rfl (by kernel_rfl) (fun _ _ _ h => h); (intro w_; exact run_idx rfl rfl rfl hu22 z5_ (HQ1_0.out _ (Kd.C_below HR1.out HG.below)) (by first | omega | exact of_decide_eq_true (by assumption) | (have h_ := HP.out; omega)) (by first | omega | exact of_decide_eq_true (by assumption) | (have h_ := HP.out; omega))); (simp only [Act.put, List.setIfInBounds_toArray, List.set_cons_zero, List.set_cons_succ, i64_w, i32_w, u8_wr, tmod_nat, Int.reduceToNat]; rfl)) <;>
    (apply relt HF 2 rfl rfl rfl (by kernel_rfl) (fun _ _ _ h => h); (intro w_ F_; exact run_elt (y := 0) rfl rfl O5_ (HQ1_0.out _ (Kd.C_below HR1.out F_.below)) (by first | omega | exact of_decide_eq_true (by assumption) | (have h_ := HP.out; omega)) (by first | omega | exact of_decide_eq_true (by assumption) | (have h_ := HP.out; omega))); (simp only [Act.put, List.setIfInBounds_toArray, List.set_cons_zero, List.set_cons_succ, i64_w, i32_w, u8_wr, tmod_nat, Int.reduceToNat]; rfl)) <;>
    (apply Fr.rpure 3 rfl rfl rfl (by kernel_rfl) (fun _ _ _ h => h); (intro w_; go_simp; with_reducible rfl); (simp only [Act.put, List.setIfInBounds_toArray, List.set_cons_zero, List.set_cons_succ, i64_w, i32_w, u8_wr, tmod_nat, Int.reduceToNat]; rfl)) <;>
    (apply Fr.rpure 4 rfl rfl rfl (by kernel_rfl) (fun _ _ _ h => h); (intro w_; go_simp; with_reducible rfl); (simp only [Act.put, List.setIfInBounds_toArray, List.set_cons_zero, List.set_cons_succ, i64_w, i32_w, u8_wr, tmod_nat, Int.reduceToNat]; rfl)) <;>
    (apply Fr.rpure 5 rfl rfl rfl (by kernel_rfl) (fun _ _ _ h => h); (intro w_; go_simp; with_reducible rfl); (simp only [Act.put, List.setIfInBounds_toArray, List.set_cons_zero, List.set_cons_succ, i64_w, i32_w, u8_wr, tmod_nat, Int.reduceToNat]; rfl)) <;>
    (apply Fr.rpure 6 rfl rfl rfl (by kernel_rfl) (fun _ _ _ h => h); (intro w_; exact run_drop rfl rfl rfl hu22 z5_ HL1_0.out (by first | omega | exact of_decide_eq_true (by assumption) | (have h_ := HP.out; omega)) (by first | omega | exact of_decide_eq_true (by assumption) | (have h_ := HP.out; omega))); (simp only [Act.put, List.setIfInBounds_toArray, List.set_cons_zero, List.set_cons_succ, i64_w, i32_w, u8_wr, tmod_nat, Int.reduceToNat]; rfl)) <;>
    (apply Fr.rpure 7 rfl rfl rfl (by kernel_rfl) (fun _ _ _ h => h); (intro w_; go_simp; with_reducible rfl); (simp only [Act.put, List.setIfInBounds_toArray, List.set_cons_zero, List.set_cons_succ, i64_w, i32_w, u8_wr, tmod_nat, Int.reduceToNat]; rfl)) <;>
    (apply Fr.rpure 8 rfl rfl rfl (by kernel_rfl) (fun _ _ _ h => h); (intro w_; go_simp; with_reducible rfl); (simp only [Act.put, List.setIfInBounds_toArray, List.set_cons_zero, List.set_cons_succ, i64_w, i32_w, u8_wr, tmod_nat, Int.reduceToNat]; rfl)) <;>
    (refine done_ (by kernel_rfl) ?_; clear HF; have HF := HG; clear HG))
    | (((with_reducible refine gate_region (id := 10) ?_); have k_ := HO8_0; clear k_; apply plain_region) <;>
    (apply lpure rfl rfl; (go_simp; with_reducible rfl); (simp only [Act.put, List.setIfInBounds_toArray, List.set_cons_zero, List.set_cons_succ, i64_w, i32_w, u8_wr, tmod_nat, Int.reduceToNat]; rfl)) <;>
    (apply lpure rfl rfl; (go_simp; with_reducible rfl); (simp only [Act.put, List.setIfInBounds_toArray, List.set_cons_zero, List.set_cons_succ, i64_w, i32_w, u8_wr, tmod_nat, Int.reduceToNat]; rfl)) <;>
    (apply lpure rfl rfl; (go_simp; with_reducible rfl); (simp only [Act.put, List.setIfInBounds_toArray, List.set_cons_zero, List.set_cons_succ, i64_w, i32_w, u8_wr, tmod_nat, Int.reduceToNat]; rfl)) <;>
    ((apply lpure rfl rfl; (go_simp; with_reducible rfl); (simp only [Act.put, List.setIfInBounds_toArray, List.set_cons_zero, List.set_cons_succ, i64_w, i32_w, u8_wr, tmod_nat, Int.reduceToNat]; rfl)); (try clear HO4_0); have HO4_0 := HO8_0) <;>
    (apply lpure rfl rfl; (go_simp; with_reducible rfl); (simp only [Act.put, List.setIfInBounds_toArray, List.set_cons_zero, List.set_cons_succ, i64_w, i32_w, u8_wr, tmod_nat, Int.reduceToNat]; rfl)) <;>
    (apply lpure rfl rfl; (go_simp; with_reducible rfl); (simp only [Act.put, List.setIfInBounds_toArray, List.set_cons_zero, List.set_cons_succ, i64_w, i32_w, u8_wr, tmod_nat, Int.reduceToNat]; rfl)) <;>
    (apply lpure rfl rfl; (go_simp; with_reducible rfl); (simp only [Act.put, List.setIfInBounds_toArray, List.set_cons_zero, List.set_cons_succ, i64_w, i32_w, u8_wr, tmod_nat, Int.reduceToNat]; rfl)) <;>
    (apply lend))
    | go_step | fail))
 all_goals (first
  | (have h_ := HH.out; clear HH; cases h_ <;> ((try simp only [Exit.inBlock, Exit.then]); refine bodyPost_ret (results_list (rs := [.tmp 4, .tmp 5, .tmp 6, .tmp 7]) rfl (by simp) (.tmp (.tmp (.tmp (.tmp .nil))))) rfl ?_; first
   | exact ⟨_, _, _, rfl, (by first | exact Kd.R_nil _ _ _ _ _ | exact Kd.S_nil _ _ _ _ _), ⟨Cuts_none, Nat.le_refl 0⟩, HF.below⟩
   | exact ⟨_, _, _, rfl, (Kd.S_mono (HF.row_nowS HO4_0.out (by simp) (by decide)) (fun k_ hk_ => True.intro)), ⟨fun W_ h_ => (HQ1_0.out _ h_), HL1_0.out⟩, HF.below⟩))
  | (obtain ⟨LV_, HF, EL_⟩ := Fr_name HF; go_loopg [0, 1, 8] k (fun kq_ v0_ v1_ v8_ w_ => ∃ (x0_ : Int) (x1_ : List Int) (Ac1_0 : Option Addr) (cc1_0 : Nat) (x8_ : List (S69)) (Av8_0 : Option Addr) (cv8_0 : Nat), v0_ = .int .i64 x0_ ∧ v1_ = .slice Ac1_0 x1_.length cc1_0 ∧ v8_ = .slice Av8_0 x8_.length cv8_0 ∧ Aside0 (impl_extsRead.l0 kq_ x0_ x1_ x8_ = some (r1, r2, r3, r4)) ∧ Aside0 (kq_ ≤ k) ∧ Aside0 (Cuts A1 l1 Ac1_0 x1_) ∧ Aside0 (x1_.length ≤ cc1_0) ∧ Aside0 (Kd.S k69 69 w_ w.heap.size (fun _ => True) (.slice Av8_0 x8_.length cv8_0) x8_) ∧ Fr [] w w_ LV_ [w_]) <;> first
   | (exact ⟨_, _, _, _, _, _, _, rfl, (by first | rfl | simp), (by first | rfl | simp), HH, ⟨Nat.le_refl _⟩, ⟨fun W_ h_ => h_⟩, ⟨HC1.out⟩, ⟨Kd.S_mono (HF.row_nowS HO8_0.out (by simp) (by decide)) (fun _ _ => True.intro)⟩, Fr_now HF⟩)
   | ((try clear HO10_0); (try clear HO8_0); (try clear HH); (try clear HF); obtain ⟨x0_, x1_, Ac1_0, cc1_0, x8_, Av8_0, cv8_0, rfl, rfl, rfl, HH, HK_, HQ1_0, HL1_0, HO8_0, HF⟩ := hrel; (rcases gk with _ | gk_); exact absurd HH.out (by simp [impl_extsRead.l0]); (rw [EL_.out] at HF); have h_ := HH.out; clear HH; simp only [impl_extsRead.l0] at h_; have HH := Aside0.mk h_; clear h_)))
 all_goals (repeat' (first | (have h_ := HH.out; (with_reducible replace h_ := ite_ways h_); clear HH; rcases h_ with ⟨c_, h_⟩ | ⟨c_, h_⟩ <;> (have HH := Aside0.mk h_; clear h_; first | (with_reducible exact (none_ne HH.out).elim) | (replace HP := Aside0.mk (And.intro c_ HP.out); first | (have := natpos c_; have := decide_eq_true (show _ < _ from c_); clear c_) | (have e_ := natnil c_; subst e_; clear c_) | (replace c_ := (show (_ : Bool) = true from c_); subst c_) | (replace c_ := Bool.eq_false_iff.mpr c_; subst c_) | (replace c_ := bne_eq_false_iff_eq.mp (Bool.eq_false_iff.mpr c_); subst c_) | (replace c_ := (show (_ : Bool) = true from c_); try have := beq_eq_false_iff_ne.mpr (bne_iff_ne.mp c_)) | (replace c_ := Bool.eq_false_iff.mpr c_) | (have := beq_iff_eq.mpr c_; have := bne_eq_false_iff_eq.mpr c_; clear c_) | (have := beq_eq_false_iff_ne.mpr c_; have := bne_iff_ne.mpr c_; clear c_) | (have := decide_eq_true (show _ ≤ _ from c_); clear c_) | (have := decide_eq_true (show _ < _ from c_); clear c_) | (have := decide_eq_false (show ¬ (_ ≤ _) from c_); clear c_) | (have := decide_eq_false (show ¬ (_ < _) from c_); clear c_)))) | (with_reducible exact (none_ne HH.out).elim) | (with_reducible exact (ft_ne HH.out).elim) | fail))
 all_goals (repeat' (first
    | (((with_reducible refine gate_region (id := 0) ?_); apply plain_region) <;>
    (apply lpure rfl rfl; (go_simp; with_reducible rfl); (simp only [Act.put, List.setIfInBounds_toArray, List.set_cons_zero, List.set_cons_succ, i64_w, i32_w, u8_wr, tmod_nat, Int.reduceToNat]; rfl)) <;>
    (apply lpure rfl rfl; (go_simp; with_reducible rfl); (simp only [Act.put, List.setIfInBounds_toArray, List.set_cons_zero, List.set_cons_succ, i64_w, i32_w, u8_wr, tmod_nat, Int.reduceToNat]; rfl)) <;>
    (apply lpure rfl rfl; (go_simp; with_reducible rfl); (simp only [Act.put, List.setIfInBounds_toArray, List.set_cons_zero, List.set_cons_succ, i64_w, i32_w, u8_wr, tmod_nat, Int.reduceToNat]; rfl)) <;>
    (apply lpure rfl rfl; (go_simp; with_reducible rfl); (simp only [Act.put, List.setIfInBounds_toArray, List.set_cons_zero, List.set_cons_succ, i64_w, i32_w, u8_wr, tmod_nat, Int.reduceToNat]; rfl)) <;>
    (apply lend))
    | (((with_reducible refine gate_region (id := 1) ?_); apply plain_region) <;>
    (have HF0 := HF; apply HF.lempty rfl rfl; (go_simp; first | rfl | exact ⟨rfl, rfl⟩); clear HF; intro g_ w_ hg_ hb_ hh_ HF; replace HF := HF.mark; have HO10_0 := emptyS_row (d := k69) HF0 hg_ hh_; clear hg_ hb_ hh_ HF0; (refine lnorm (a' := ?_) ?_ ?_; rotate_left; (simp only [Act.put, List.setIfInBounds_toArray, List.set_cons_zero, List.set_cons_succ, i64_w, i32_w, u8_wr, tmod_nat, Int.reduceToNat]; rfl))) <;>
    ((apply lpure rfl rfl; (go_simp; with_reducible rfl); (simp only [Act.put, List.setIfInBounds_toArray, List.set_cons_zero, List.set_cons_succ, i64_w, i32_w, u8_wr, tmod_nat, Int.reduceToNat]; rfl)); (try clear HO8_0); have HO8_0 := HO10_0) <;>
    (apply lend))
    | (((with_reducible refine gate_region (id := 2) ?_); have k_ := HO8_0; clear k_; apply plain_region) <;>
    (apply lpure rfl rfl; (go_simp; with_reducible rfl); (simp only [Act.put, List.setIfInBounds_toArray, List.set_cons_zero, List.set_cons_succ, i64_w, i32_w, u8_wr, tmod_nat, Int.reduceToNat]; rfl)) <;>
    (have h_ := HH.out; (with_reducible replace h_ := Option.bind_eq_some_iff.mp h_); clear HH; obtain ⟨_, A_, h_⟩ := h_; (try dsimp only at h_); have HH := Aside0.mk h_; clear h_; have A12_ := Aside0.mk A_; clear A_) <;>
    (repeat' (first | (have h_ := HH.out; (with_reducible replace h_ := ite_ways h_); clear HH; rcases h_ with ⟨c_, h_⟩ | ⟨c_, h_⟩ <;> (have HH := Aside0.mk h_; clear h_; first | (with_reducible exact (none_ne HH.out).elim) | (replace HP := Aside0.mk (And.intro c_ HP.out); first | (have := natpos c_; have := decide_eq_true (show _ < _ from c_); clear c_) | (have e_ := natnil c_; subst e_; clear c_) | (replace c_ := (show (_ : Bool) = true from c_); subst c_) | (replace c_ := Bool.eq_false_iff.mpr c_; subst c_) | (replace c_ := bne_eq_false_iff_eq.mp (Bool.eq_false_iff.mpr c_); subst c_) | (replace c_ := (show (_ : Bool) = true from c_); try have := beq_eq_false_iff_ne.mpr (bne_iff_ne.mp c_)) | (replace c_ := Bool.eq_false_iff.mpr c_) | (have := beq_iff_eq.mpr c_; have := bne_eq_false_iff_eq.mpr c_; clear c_) | (have := beq_eq_false_iff_ne.mpr c_; have := bne_iff_ne.mpr c_; clear c_) | (have := decide_eq_true (show _ ≤ _ from c_); clear c_) | (have := decide_eq_true (show _ < _ from c_); clear c_) | (have := decide_eq_false (show ¬ (_ ≤ _) from c_); clear c_) | (have := decide_eq_false (show ¬ (_ < _) from c_); clear c_)))) | (with_reducible exact (none_ne HH.out).elim) | (with_reducible exact (ft_ne HH.out).elim) | fail)) <;>
    (apply lcall rfl rfl rfl Try.func79 (by kernel_rfl) rfl; (with_reducible apply Calls.mono); (with_reducible apply impl_isExtKind.calls (h := A12_.out)); rintro e w_ ⟨rfl, hb_⟩; refine ⟨_, rfl, ?_⟩; replace HF := HF.drawn hb_; clear hb_; rotate_left; (first | rfl | (simp only [List.map_toArray, List.map_cons, List.map_nil]; first | done | rfl)); clear A12_; (refine lnorm (a' := ?_) ?_ ?_; rotate_left; (simp only [Act.put, List.setIfInBounds_toArray, List.set_cons_zero, List.set_cons_succ, i64_w, i32_w, u8_wr, tmod_nat, Int.reduceToNat]; rfl))) <;>
    (apply lend))
    | (((with_reducible refine gate_region (id := 3) ?_); have k_ := HO8_0; clear k_; apply plain_region) <;>
    (apply lpure rfl rfl; (go_simp; with_reducible rfl); (simp only [Act.put, List.setIfInBounds_toArray, List.set_cons_zero, List.set_cons_succ, i64_w, i32_w, u8_wr, tmod_nat, Int.reduceToNat]; rfl)) <;>
    (apply lpure rfl rfl; (go_simp; with_reducible rfl); (simp only [Act.put, List.setIfInBounds_toArray, List.set_cons_zero, List.set_cons_succ, i64_w, i32_w, u8_wr, tmod_nat, Int.reduceToNat]; rfl)) <;>
    (apply lpure rfl rfl; (go_simp; with_reducible rfl); (simp only [Act.put, List.setIfInBounds_toArray, List.set_cons_zero, List.set_cons_succ, i64_w, i32_w, u8_wr, tmod_nat, Int.reduceToNat]; rfl)) <;>
    (apply lpure rfl rfl; (go_simp; with_reducible rfl); (simp only [Act.put, List.setIfInBounds_toArray, List.set_cons_zero, List.set_cons_succ, i64_w, i32_w, u8_wr, tmod_nat, Int.reduceToNat]; rfl)) <;>
    (first | ((apply lpure rfl rfl; (go_simp; with_reducible rfl); (simp only [Act.put, List.setIfInBounds_toArray, List.set_cons_zero, List.set_cons_succ, i64_w, i32_w, u8_wr, tmod_nat, Int.reduceToNat]; rfl))) | (apply loff rfl rfl; (simp only [Act.put, List.setIfInBounds_toArray, List.set_cons_zero, List.set_cons_succ, i64_w, i32_w, u8_wr, tmod_nat, Int.reduceToNat]; rfl))) <;>
    (first | ((apply lpure rfl rfl; (go_simp; with_reducible rfl); (simp only [Act.put, List.setIfInBounds_toArray, List.set_cons_zero, List.set_cons_succ, i64_w, i32_w, u8_wr, tmod_nat, Int.reduceToNat]; rfl))) | (apply loff rfl rfl; (simp only [Act.put, List.setIfInBounds_toArray, List.set_cons_zero, List.set_cons_succ, i64_w, i32_w, u8_wr, tmod_nat, Int.reduceToNat]; rfl))) <;>
    (first | ((apply lpure rfl rfl; (go_simp; with_reducible rfl); (simp only [Act.put, List.setIfInBounds_toArray, List.set_cons_zero, List.set_cons_succ, i64_w, i32_w, u8_wr, tmod_nat, Int.reduceToNat]; rfl))) | (apply loff rfl rfl; (simp only [Act.put, List.setIfInBounds_toArray, List.set_cons_zero, List.set_cons_succ, i64_w, i32_w, u8_wr, tmod_nat, Int.reduceToNat]; rfl))) <;>
    (first | ((apply lpure rfl rfl; (go_simp; with_reducible rfl); (simp only [Act.put, List.setIfInBounds_toArray, List.set_cons_zero, List.set_cons_succ, i64_w, i32_w, u8_wr, tmod_nat, Int.reduceToNat]; rfl))) | (apply loff rfl rfl; (simp only [Act.put, List.setIfInBounds_toArray, List.set_cons_zero, List.set_cons_succ, i64_w, i32_w, u8_wr, tmod_nat, Int.reduceToNat]; rfl))) <;>
    (first | ((apply lpure rfl rfl; (go_simp; with_reducible rfl); (simp only [Act.put, List.setIfInBounds_toArray, List.set_cons_zero, List.set_cons_succ, i64_w, i32_w, u8_wr, tmod_nat, Int.reduceToNat]; rfl))) | (apply loff rfl rfl; (simp only [Act.put, List.setIfInBounds_toArray, List.set_cons_zero, List.set_cons_succ, i64_w, i32_w, u8_wr, tmod_nat, Int.reduceToNat]; rfl))) <;>
    (first | ((apply lpure rfl rfl; (go_simp; with_reducible rfl); (simp only [Act.put, List.setIfInBounds_toArray, List.set_cons_zero, List.set_cons_succ, i64_w, i32_w, u8_wr, tmod_nat, Int.reduceToNat]; rfl))) | (apply loff rfl rfl; (simp only [Act.put, List.setIfInBounds_toArray, List.set_cons_zero, List.set_cons_succ, i64_w, i32_w, u8_wr, tmod_nat, Int.reduceToNat]; rfl))) <;>
    (first | ((apply lpure rfl rfl; (go_simp; with_reducible rfl); (simp only [Act.put, List.setIfInBounds_toArray, List.set_cons_zero, List.set_cons_succ, i64_w, i32_w, u8_wr, tmod_nat, Int.reduceToNat]; rfl))) | (apply loff rfl rfl; (simp only [Act.put, List.setIfInBounds_toArray, List.set_cons_zero, List.set_cons_succ, i64_w, i32_w, u8_wr, tmod_nat, Int.reduceToNat]; rfl))) <;>
    (apply lpure rfl rfl; (go_simp; with_reducible rfl); (simp only [Act.put, List.setIfInBounds_toArray, List.set_cons_zero, List.set_cons_succ, i64_w, i32_w, u8_wr, tmod_nat, Int.reduceToNat]; rfl)) <;>
    (apply lpure rfl rfl; (go_simp; with_reducible rfl); (simp only [Act.put, List.setIfInBounds_toArray, List.set_cons_zero, List.set_cons_succ, i64_w, i32_w, u8_wr, tmod_nat, Int.reduceToNat]; rfl)) <;>
    (first | ((apply lpure rfl rfl; (go_simp; with_reducible rfl); (simp only [Act.put, List.setIfInBounds_toArray, List.set_cons_zero, List.set_cons_succ, i64_w, i32_w, u8_wr, tmod_nat, Int.reduceToNat]; rfl))) | (apply loff rfl rfl; (simp only [Act.put, List.setIfInBounds_toArray, List.set_cons_zero, List.set_cons_succ, i64_w, i32_w, u8_wr, tmod_nat, Int.reduceToNat]; rfl))) <;>
    (first | ((apply lpure rfl rfl; (go_simp; with_reducible rfl); (simp only [Act.put, List.setIfInBounds_toArray, List.set_cons_zero, List.set_cons_succ, i64_w, i32_w, u8_wr, tmod_nat, Int.reduceToNat]; rfl))) | (apply loff rfl rfl; (simp only [Act.put, List.setIfInBounds_toArray, List.set_cons_zero, List.set_cons_succ, i64_w, i32_w, u8_wr, tmod_nat, Int.reduceToNat]; rfl))) <;>
    (first | ((apply lpure rfl rfl; (go_simp; with_reducible rfl); (simp only [Act.put, List.setIfInBounds_toArray, List.set_cons_zero, List.set_cons_succ, i64_w, i32_w, u8_wr, tmod_nat, Int.reduceToNat]; rfl))) | (apply loff rfl rfl; (simp only [Act.put, List.setIfInBounds_toArray, List.set_cons_zero, List.set_cons_succ, i64_w, i32_w, u8_wr, tmod_nat, Int.reduceToNat]; rfl))) <;>
    (apply lpure rfl rfl; (go_simp; with_reducible rfl); (simp only [Act.put, List.setIfInBounds_toArray, List.set_cons_zero, List.set_cons_succ, i64_w, i32_w, u8_wr, tmod_nat, Int.reduceToNat]; rfl)) <;>
    (apply lpure rfl rfl; (go_simp; with_reducible rfl); (simp only [Act.put, List.setIfInBounds_toArray, List.set_cons_zero, List.set_cons_succ, i64_w, i32_w, u8_wr, tmod_nat, Int.reduceToNat]; rfl)) <;>
    (first | ((apply lpure rfl rfl; (go_simp; with_reducible rfl); (simp only [Act.put, List.setIfInBounds_toArray, List.set_cons_zero, List.set_cons_succ, i64_w, i32_w, u8_wr, tmod_nat, Int.reduceToNat]; rfl))) | (apply loff rfl rfl; (simp only [Act.put, List.setIfInBounds_toArray, List.set_cons_zero, List.set_cons_succ, i64_w, i32_w, u8_wr, tmod_nat, Int.reduceToNat]; rfl))) <;>
    (first | ((apply lpure rfl rfl; (exact run_idx rfl rfl rfl hu22 z5_ (HQ1_0.out _ (Kd.C_below HR1.out HF.below)) (by first | omega | exact of_decide_eq_true (by assumption) | (have h_ := HP.out; omega)) (by first | omega | exact of_decide_eq_true (by assumption) | (have h_ := HP.out; omega))); (simp only [Act.put, List.setIfInBounds_toArray, List.set_cons_zero, List.set_cons_succ, i64_w, i32_w, u8_wr, tmod_nat, Int.reduceToNat]; rfl))) | (apply loff rfl rfl; (simp only [Act.put, List.setIfInBounds_toArray, List.set_cons_zero, List.set_cons_succ, i64_w, i32_w, u8_wr, tmod_nat, Int.reduceToNat]; rfl))) <;>
    (first | ((apply lelt rfl rfl; exact run_elt (y := 1) rfl rfl O5_ (HQ1_0.out _ (Kd.C_below HR1.out HF.below)) (by first | omega | exact of_decide_eq_true (by assumption) | (have h_ := HP.out; omega)) (by first | omega | exact of_decide_eq_true (by assumption) | (have h_ := HP.out; omega)); (simp only [Act.put, List.setIfInBounds_toArray, List.set_cons_zero, List.set_cons_succ, i64_w, i32_w, u8_wr, tmod_nat, Int.reduceToNat]; rfl))) | (apply loff rfl rfl; (simp only [Act.put, List.setIfInBounds_toArray, List.set_cons_zero, List.set_cons_succ, i64_w, i32_w, u8_wr, tmod_nat, Int.reduceToNat]; rfl))) <;>
    (first | ((apply lpure rfl rfl; (go_simp; with_reducible rfl); (simp only [Act.put, List.setIfInBounds_toArray, List.set_cons_zero, List.set_cons_succ, i64_w, i32_w, u8_wr, tmod_nat, Int.reduceToNat]; rfl))) | (apply loff rfl rfl; (simp only [Act.put, List.setIfInBounds_toArray, List.set_cons_zero, List.set_cons_succ, i64_w, i32_w, u8_wr, tmod_nat, Int.reduceToNat]; rfl))) <;>
    (apply lpure rfl rfl; (go_simp; with_reducible rfl); (simp only [Act.put, List.setIfInBounds_toArray, List.set_cons_zero, List.set_cons_succ, i64_w, i32_w, u8_wr, tmod_nat, Int.reduceToNat]; rfl)) <;>
    (apply lend))
    | (((with_reducible refine gate_region (id := 4) ?_); have k_ := HO8_0; clear k_; apply plain_region) <;>
    (apply lpure rfl rfl; (go_simp; with_reducible rfl); (simp only [Act.put, List.setIfInBounds_toArray, List.set_cons_zero, List.set_cons_succ, i64_w, i32_w, u8_wr, tmod_nat, Int.reduceToNat]; rfl)) <;>
    (apply lpure rfl rfl; (go_simp; with_reducible rfl); (simp only [Act.put, List.setIfInBounds_toArray, List.set_cons_zero, List.set_cons_succ, i64_w, i32_w, u8_wr, tmod_nat, Int.reduceToNat]; rfl)) <;>
    (apply lpure rfl rfl; (go_simp; with_reducible rfl); (simp only [Act.put, List.setIfInBounds_toArray, List.set_cons_zero, List.set_cons_succ, i64_w, i32_w, u8_wr, tmod_nat, Int.reduceToNat]; rfl)) <;>
    (apply lpure rfl rfl; (go_simp; with_reducible rfl); (simp only [Act.put, List.setIfInBounds_toArray, List.set_cons_zero, List.set_cons_succ, i64_w, i32_w, u8_wr, tmod_nat, Int.reduceToNat]; rfl)) <;>
    (apply lend))
    | (((with_reducible refine gate_region (id := 5) ?_); have k_ := HO8_0; clear k_; apply plain_region) <;>
    (apply lpure rfl rfl; (go_simp; with_reducible rfl); (simp only [Act.put, List.setIfInBounds_toArray, List.set_cons_zero, List.set_cons_succ, i64_w, i32_w, u8_wr, tmod_nat, Int.reduceToNat]; rfl)) <;>
    (apply lpure rfl rfl; (exact run_idx rfl rfl rfl hu22 z5_ (HQ1_0.out _ (Kd.C_below HR1.out HF.below)) (by first | omega | exact of_decide_eq_true (by assumption) | (have h_ := HP.out; omega)) (by first | omega | exact of_decide_eq_true (by assumption) | (have h_ := HP.out; omega))); (simp only [Act.put, List.setIfInBounds_toArray, List.set_cons_zero, List.set_cons_succ, i64_w, i32_w, u8_wr, tmod_nat, Int.reduceToNat]; rfl)) <;>
    (apply lelt rfl rfl; exact run_elt (y := 1) rfl rfl O5_ (HQ1_0.out _ (Kd.C_below HR1.out HF.below)) (by first | omega | exact of_decide_eq_true (by assumption) | (have h_ := HP.out; omega)) (by first | omega | exact of_decide_eq_true (by assumption) | (have h_ := HP.out; omega)); (simp only [Act.put, List.setIfInBounds_toArray, List.set_cons_zero, List.set_cons_succ, i64_w, i32_w, u8_wr, tmod_nat, Int.reduceToNat]; rfl)) <;>
    (apply lpure rfl rfl; (go_simp; with_reducible rfl); (simp only [Act.put, List.setIfInBounds_toArray, List.set_cons_zero, List.set_cons_succ, i64_w, i32_w, u8_wr, tmod_nat, Int.reduceToNat]; rfl)) <;>
    (apply lpure rfl rfl; (go_simp; with_reducible rfl); (simp only [Act.put, List.setIfInBounds_toArray, List.set_cons_zero, List.set_cons_succ, i64_w, i32_w, u8_wr, tmod_nat, Int.reduceToNat]; rfl)) <;>
    (apply lpure rfl rfl; (go_simp; with_reducible rfl); (simp only [Act.put, List.setIfInBounds_toArray, List.set_cons_zero, List.set_cons_succ, i64_w, i32_w, u8_wr, tmod_nat, Int.reduceToNat]; rfl)) <;>
    (apply lpure rfl rfl; (go_simp; with_reducible rfl); (simp only [Act.put, List.setIfInBounds_toArray, List.set_cons_zero, List.set_cons_succ, i64_w, i32_w, u8_wr, tmod_nat, Int.reduceToNat]; rfl)) <;>
    (apply lend))
    | (((with_reducible refine gate_region (id := 6) ?_); have k_ := HO8_0; clear k_; apply plain_region) <;>
    (apply lpure rfl rfl; (go_simp; with_reducible rfl); (simp only [Act.put, List.setIfInBounds_toArray, List.set_cons_zero, List.set_cons_succ, i64_w, i32_w, u8_wr, tmod_nat, Int.reduceToNat]; rfl)) <;>
    (apply lpure rfl rfl; (go_simp; with_reducible rfl); (simp only [Act.put, List.setIfInBounds_toArray, List.set_cons_zero, List.set_cons_succ, i64_w, i32_w, u8_wr, tmod_nat, Int.reduceToNat]; rfl)) <;>
    (apply lpure rfl rfl; (go_simp; with_reducible rfl); (simp only [Act.put, List.setIfInBounds_toArray, List.set_cons_zero, List.set_cons_succ, i64_w, i32_w, u8_wr, tmod_nat, Int.reduceToNat]; rfl)) <;>
    (apply lpure rfl rfl; (go_simp; with_reducible rfl); (simp only [Act.put, List.setIfInBounds_toArray, List.set_cons_zero, List.set_cons_succ, i64_w, i32_w, u8_wr, tmod_nat, Int.reduceToNat]; rfl)) <;>
    (apply lend))
    | (((with_reducible refine gate_region (id := 7) ?_); have k_ := HO8_0; clear k_; apply plain_region) <;>
    (apply lpure rfl rfl; (go_simp; with_reducible rfl); (simp only [Act.put, List.setIfInBounds_toArray, List.set_cons_zero, List.set_cons_succ, i64_w, i32_w, u8_wr, tmod_nat, Int.reduceToNat]; rfl)) <;>
    (apply lpure rfl rfl; (go_simp; with_reducible rfl); (simp only [Act.put, List.setIfInBounds_toArray, List.set_cons_zero, List.set_cons_succ, i64_w, i32_w, u8_wr, tmod_nat, Int.reduceToNat]; rfl)) <;>
    (apply lpure rfl rfl; (go_simp; with_reducible rfl); (simp only [Act.put, List.setIfInBounds_toArray, List.set_cons_zero, List.set_cons_succ, i64_w, i32_w, u8_wr, tmod_nat, Int.reduceToNat]; rfl)) <;>
    (apply lpure rfl rfl; (go_simp; with_reducible rfl); (simp only [Act.put, List.setIfInBounds_toArray, List.set_cons_zero, List.set_cons_succ, i64_w, i32_w, u8_wr, tmod_nat, Int.reduceToNat]; rfl)) <;>
    (apply lend))
    | (((with_reducible refine gate_region (id := 8) ?_); have k_ := HO8_0; clear k_; apply plain_region) <;>
    (apply lpure rfl rfl; (go_simp; with_reducible rfl); (simp only [Act.put, List.setIfInBounds_toArray, List.set_cons_zero, List.set_cons_succ, i64_w, i32_w, u8_wr, tmod_nat, Int.reduceToNat]; rfl)) <;>
    (apply lpure rfl rfl; (go_simp; with_reducible rfl); (simp only [Act.put, List.setIfInBounds_toArray, List.set_cons_zero, List.set_cons_succ, i64_w, i32_w, u8_wr, tmod_nat, Int.reduceToNat]; rfl)) <;>
    (apply lpure rfl rfl; (go_simp; with_reducible rfl); (simp only [Act.put, List.setIfInBounds_toArray, List.set_cons_zero, List.set_cons_succ, i64_w, i32_w, u8_wr, tmod_nat, Int.reduceToNat]; rfl)) <;>
    (apply lpure rfl rfl; (go_simp; with_reducible rfl); (simp only [Act.put, List.setIfInBounds_toArray, List.set_cons_zero, List.set_cons_succ, i64_w, i32_w, u8_wr, tmod_nat, Int.reduceToNat]; rfl)) <;>
    (apply lpure rfl rfl; (exact run_mid rfl rfl rfl rfl hu22 z5_ HL1_0.out (by first | omega | exact of_decide_eq_true (by assumption) | (have h_ := HP.out; omega)) (by first | omega | exact of_decide_eq_true (by assumption) | (have h_ := HP.out; omega)) (by first | omega | exact of_decide_eq_true (by assumption) | (have h_ := HP.out; omega))); (simp only [Act.put, List.setIfInBounds_toArray, List.set_cons_zero, List.set_cons_succ, i64_w, i32_w, u8_wr, tmod_nat, Int.reduceToNat]; rfl)) <;>
    (have h_ := HH.out; (with_reducible replace h_ := Option.bind_eq_some_iff.mp h_); clear HH; obtain ⟨_, A_, h_⟩ := h_; (try dsimp only at h_); have HH := Aside0.mk h_; clear h_; have A51_ := Aside0.mk A_; clear A_) <;>
    (repeat' (first | (have h_ := HH.out; (with_reducible replace h_ := ite_ways h_); clear HH; rcases h_ with ⟨c_, h_⟩ | ⟨c_, h_⟩ <;> (have HH := Aside0.mk h_; clear h_; first | (with_reducible exact (none_ne HH.out).elim) | (replace HP := Aside0.mk (And.intro c_ HP.out); first | (have := natpos c_; have := decide_eq_true (show _ < _ from c_); clear c_) | (have e_ := natnil c_; subst e_; clear c_) | (replace c_ := (show (_ : Bool) = true from c_); subst c_) | (replace c_ := Bool.eq_false_iff.mpr c_; subst c_) | (replace c_ := bne_eq_false_iff_eq.mp (Bool.eq_false_iff.mpr c_); subst c_) | (replace c_ := (show (_ : Bool) = true from c_); try have := beq_eq_false_iff_ne.mpr (bne_iff_ne.mp c_)) | (replace c_ := Bool.eq_false_iff.mpr c_) | (have := beq_iff_eq.mpr c_; have := bne_eq_false_iff_eq.mpr c_; clear c_) | (have := beq_eq_false_iff_ne.mpr c_; have := bne_iff_ne.mpr c_; clear c_) | (have := decide_eq_true (show _ ≤ _ from c_); clear c_) | (have := decide_eq_true (show _ < _ from c_); clear c_) | (have := decide_eq_false (show ¬ (_ ≤ _) from c_); clear c_) | (have := decide_eq_false (show ¬ (_ < _) from c_); clear c_)))) | (with_reducible exact (none_ne HH.out).elim) | (with_reducible exact (ft_ne HH.out).elim) | fail)) <;>
    (apply lcall rfl rfl rfl Try.func42 (by kernel_rfl) rfl; (with_reducible apply Calls.mono); (with_reducible apply slices_Clone_byte_byte.calls (h := A51_.out)); exact (C_drop (C_take (HQ1_0.out _ (Kd.C_below HR1.out HF.below)) _) (L_take HL1_0.out _) _); exact (L_drop (L_take HL1_0.out _) _); have HS51 := HF.since; rintro e w_ ⟨v0_, rfl, hov0_, hb_⟩; obtain ⟨Av51_0, cv51_0, rfl⟩ := Kd.R_slice hov0_; have HO51_0 := HF.row2 hov0_; have HB51 := Aside0.mk hb_.size; clear hov0_; refine ⟨_, rfl, ?_⟩; replace HF := (HF.call hb_).mark; clear hb_; rotate_left; (first | rfl | (simp only [List.map_toArray, List.map_cons, List.map_nil]; first | done | rfl)); clear A51_; (refine lnorm (a' := ?_) ?_ ?_; rotate_left; (simp only [Act.put, List.setIfInBounds_toArray, List.set_cons_zero, List.set_cons_succ, i64_w, i32_w, u8_wr, tmod_nat, Int.reduceToNat]; rfl))) <;>
    (apply lpure rfl rfl; (go_simp; with_reducible rfl); (simp only [Act.put, List.setIfInBounds_toArray, List.set_cons_zero, List.set_cons_succ, i64_w, i32_w, u8_wr, tmod_nat, Int.reduceToNat]; rfl)) <;>
    (apply lappS (d := k69) HF rfl rfl ?_ rfl rfl rfl hu25 info69 rfl (by decide) (by decide) rfl rfl (k69_mkM _ _ _ ⟨_, _⟩ (Kd.R_mono (HF.row_now HO51_0.out (by simp) (by decide)) (fun k_ h_ => h_.2.1))) (Kd.S_mono (HF.row_nowS (Kd.S_bound HO8_0.out) (by simp) (by decide)) (fun k_ h_ => by have a_ := h_.2.2.1; (try have s8_ := HS8.out); (try have t8_ := HB8.out); (try have s51_ := HS51.out); (try have t51_ := HB51.out); (try have s10_ := HS10.out); (try have t10_ := HB10.out); omega)) (by decide) (by first | omega | (have h_ := HP.out; omega)) ?_; rotate_left; (go_simp; first | rfl | exact ⟨rfl, rfl⟩ | exact ⟨rfl, rfl, rfl⟩); intro v_ w_ ho_ HF1; clear HF; have HF := HF1; clear HF1; obtain ⟨Av54_0, cv54_0, rfl⟩ := Kd.S_slice ho_; have HO54_0 := Aside0.mk ho_; clear ho_; (refine lnorm (a' := ?_) ?_ ?_; rotate_left; (simp only [Act.put, List.setIfInBounds_toArray, List.set_cons_zero, List.set_cons_succ, i64_w, i32_w, u8_wr, tmod_nat, Int.reduceToNat]; rfl))) <;>
    ((apply lpure rfl rfl; (go_simp; with_reducible rfl); (simp only [Act.put, List.setIfInBounds_toArray, List.set_cons_zero, List.set_cons_succ, i64_w, i32_w, u8_wr, tmod_nat, Int.reduceToNat]; rfl)); (try clear HO8_0); have HO8_0 := HO54_0) <;>
    (apply lend))
    | (((with_reducible refine gate_region (id := 9) ?_); have k_ := HO8_0; clear k_; have k_ := HO51_0; clear k_; have k_ := HO54_0; clear k_; have HG := HF; refine HG.region2 HF (by kernel_rfl) rfl ?_; clear HF HG; intro w_ HF HG) <;>
    (repeat' (first | (have h_ := HH.out; (with_reducible replace h_ := ite_ways h_); clear HH; rcases h_ with ⟨c_, h_⟩ | ⟨c_, h_⟩ <;> (have HH := Aside0.mk h_; clear h_; first | (with_reducible exact (none_ne HH.out).elim) | (replace HP := Aside0.mk (And.intro c_ HP.out); first | (have := natpos c_; have := decide_eq_true (show _ < _ from c_); clear c_) | (have e_ := natnil c_; subst e_; clear c_) | (replace c_ := (show (_ : Bool) = true from c_); subst c_) | (replace c_ := Bool.eq_false_iff.mpr c_; subst c_) | (replace c_ := bne_eq_false_iff_eq.mp (Bool.eq_false_iff.mpr c_); subst c_) | (replace c_ := (show (_ : Bool) = true from c_); try have := beq_eq_false_iff_ne.mpr (bne_iff_ne.mp c_)) | (replace c_ := Bool.eq_false_iff.mpr c_) | (have := beq_iff_eq.mpr c_; have := bne_eq_false_iff_eq.mpr c_; clear c_) | (have := beq_eq_false_iff_ne.mpr c_; have := bne_iff_ne.mpr c_; clear c_) | (have := decide_eq_true (show _ ≤ _ from c_); clear c_) | (have := decide_eq_true (show _ < _ from c_); clear c_) | (have := decide_eq_false (show ¬ (_ ≤ _) from c_); clear c_) | (have := decide_eq_false (show ¬ (_ < _) from c_); clear c_)))) | (with_reducible exact (none_ne HH.out).elim) | (with_reducible exact (ft_ne HH.out).elim) | fail)) <;>
    (apply Fr.rpure 0 rfl rfl rfl (by kernel_rfl) (fun _ _ _ h => h); (intro w_; go_simp; with_reducible rfl); (simp only [Act.put, List.setIfInBounds_toArray, List.set_cons_zero, List.set_cons_succ, i64_w, i32_w, u8_wr, tmod_nat, Int.reduceToNat]; rfl)) <;>
    (apply Fr.rpure 1 rfl rfl rfl (by kernel_rfl) (fun _ _ _ h => h); (intro w_; exact run_idx rfl rfl rfl hu22 z5_ (HQ1_0.out _ (Kd.C_below HR1.out HG.below)) (by first | omega | exact of_decide_eq_true (by assumption) | (have h_ := HP.out; omega)) (by first | omega | exact of_decide_eq_true (by assumption) | (have h_ := HP.out; omega))); (simp only [Act.put, List.setIfInBounds_toArray, List.set_cons_zero, List.set_cons_succ, i64_w, i32_w, u8_wr, tmod_nat, Int.reduceToNat]; rfl)) <;>
    (apply relt HF 2 rfl rfl rfl (by kernel_rfl) (fun _ _ _ h => h); (intro w_ F_; exact run_elt (y := 0) rfl rfl O5_ (HQ1_0.out _ (Kd.C_below HR1.out F_.below)) (by first | omega | exact of_decide_eq_true (by assumption) | (have h_ := HP.out; omega)) (by first | omega | exact of_decide_eq_true (by assumption) | (have h_ := HP.out; omega))); (simp only [Act.put, List.setIfInBounds_toArray, List.set_cons_zero, List.set_cons_succ, i64_w, i32_w, u8_wr, tmod_nat, Int.reduceToNat]; rfl)) <;>
    (apply Fr.rpure 3 rfl rfl rfl (by kernel_rfl) (fun _ _ _ h => h); (intro w_; go_simp; with_reducible rfl); (simp only [Act.put, List.setIfInBounds_toArray, List.set_cons_zero, List.set_cons_succ, i64_w, i32_w, u8_wr, tmod_nat, Int.reduceToNat]; rfl)) <;>
    (apply Fr.rpure 4 rfl rfl rfl (by kernel_rfl) (fun _ _ _ h => h); (intro w_; go_simp; with_reducible rfl); (simp only [Act.put, List.setIfInBounds_toArray, List.set_cons_zero, List.set_cons_succ, i64_w, i32_w, u8_wr, tmod_nat, Int.reduceToNat]; rfl)) <;>
    (apply Fr.rpure 5 rfl rfl rfl (by kernel_rfl) (fun _ _ _ h => h); (intro w_; go_simp; with_reducible rfl); (simp only [Act.put, List.setIfInBounds_toArray, List.set_cons_zero, List.set_cons_succ, i64_w, i32_w, u8_wr, tmod_nat, Int.reduceToNat]; rfl)) <;>
    (apply Fr.rpure 6 rfl rfl rfl (by kernel_rfl) (fun _ _ _ h => h); (intro w_; exact run_drop rfl rfl rfl hu22 z5_ HL1_0.out (by first | omega | exact of_decide_eq_true (by assumption) | (have h_ := HP.out; omega)) (by first | omega | exact of_decide_eq_true (by assumption) | (have h_ := HP.out; omega))); (simp only [Act.put, List.setIfInBounds_toArray, List.set_cons_zero, List.set_cons_succ, i64_w, i32_w, u8_wr, tmod_nat, Int.reduceToNat]; rfl)) <;>
    (apply Fr.rpure 7 rfl rfl rfl (by kernel_rfl) (fun _ _ _ h => h); (intro w_; go_simp; with_reducible rfl); (simp only [Act.put, List.setIfInBounds_toArray, List.set_cons_zero, List.set_cons_succ, i64_w, i32_w, u8_wr, tmod_nat, Int.reduceToNat]; rfl)) <;>
    (apply Fr.rpure 8 rfl rfl rfl (by kernel_rfl) (fun _ _ _ h => h); (intro w_; go_simp; with_reducible rfl); (simp only [Act.put, List.setIfInBounds_toArray, List.set_cons_zero, List.set_cons_succ, i64_w, i32_w, u8_wr, tmod_nat, Int.reduceToNat]; rfl)) <;>
    (refine done_ (by kernel_rfl) ?_; clear HF; have HF := HG; clear HG))
    | (((with_reducible refine gate_region (id := 10) ?_); have k_ := HO8_0; clear k_; apply plain_region) <;>
    (apply lpure rfl rfl; (go_simp; with_reducible rfl); (simp only [Act.put, List.setIfInBounds_toArray, List.set_cons_zero, List.set_cons_succ, i64_w, i32_w, u8_wr, tmod_nat, Int.reduceToNat]; rfl)) <;>
    (apply lpure rfl rfl; (go_simp; with_reducible rfl); (simp only [Act.put, List.setIfInBounds_toArray, List.set_cons_zero, List.set_cons_succ, i64_w, i32_w, u8_wr, tmod_nat, Int.reduceToNat]; rfl)) <;>
    (apply lpure rfl rfl; (go_simp; with_reducible rfl); (simp only [Act.put, List.setIfInBounds_toArray, List.set_cons_zero, List.set_cons_succ, i64_w, i32_w, u8_wr, tmod_nat, Int.reduceToNat]; rfl)) <;>
    ((apply lpure rfl rfl; (go_simp; with_reducible rfl); (simp only [Act.put, List.setIfInBounds_toArray, List.set_cons_zero, List.set_cons_succ, i64_w, i32_w, u8_wr, tmod_nat, Int.reduceToNat]; rfl)); (try clear HO4_0); have HO4_0 := HO8_0) <;>
    (apply lpure rfl rfl; (go_simp; with_reducible rfl); (simp only [Act.put, List.setIfInBounds_toArray, List.set_cons_zero, List.set_cons_succ, i64_w, i32_w, u8_wr, tmod_nat, Int.reduceToNat]; rfl)) <;>
    (apply lpure rfl rfl; (go_simp; with_reducible rfl); (simp only [Act.put, List.setIfInBounds_toArray, List.set_cons_zero, List.set_cons_succ, i64_w, i32_w, u8_wr, tmod_nat, Int.reduceToNat]; rfl)) <;>
    (apply lpure rfl rfl; (go_simp; with_reducible rfl); (simp only [Act.put, List.setIfInBounds_toArray, List.set_cons_zero, List.set_cons_succ, i64_w, i32_w, u8_wr, tmod_nat, Int.reduceToNat]; rfl)) <;>
    (apply lend))
    | go_step | fail))
 all_goals (first
  | (have h_ := HH.out; clear HH; cases h_ <;> ((try simp only [Exit.inBlock, Exit.then]); refine bodyPost_ret (results_list (rs := [.tmp 4, .tmp 5, .tmp 6, .tmp 7]) rfl (by simp) (.tmp (.tmp (.tmp (.tmp .nil))))) rfl ?_; first
   | exact ⟨_, _, _, rfl, (by first | exact Kd.R_nil _ _ _ _ _ | exact Kd.S_nil _ _ _ _ _), ⟨Cuts_none, Nat.le_refl 0⟩, HF.below⟩
   | exact ⟨_, _, _, rfl, (Kd.S_mono (HF.row_nowS HO4_0.out (by simp) (by decide)) (fun k_ hk_ => True.intro)), ⟨fun W_ h_ => (HQ1_0.out _ h_), HL1_0.out⟩, HF.below⟩))
  | (go_roundg gk_; (case measure => have := HK_.out; omega); (case rel => exact ⟨_, _, _, _, _, _, _, rfl, (by first | rfl | simp), (by first | rfl | simp), HH, ⟨by have := HK_.out; omega⟩, ⟨fun W_ h_ => (C_drop (HQ1_0.out _ h_) HL1_0.out _)⟩, ⟨(L_drop HL1_0.out _)⟩, ⟨Kd.S_mono (HF.row_nowS HO8_0.out (by simp) (by decide)) (fun _ _ => True.intro)⟩, Fr_now (HF.part (by rw [EL_.out]; repeat (first | exact List.Sublist.slnil | apply List.Sublist.cons_cons | apply List.Sublist.cons)) (fun _ h_ => h_))⟩)))

end Go.Proofs.Ytdbiejkaplndgaa.FFnExactSixRead
