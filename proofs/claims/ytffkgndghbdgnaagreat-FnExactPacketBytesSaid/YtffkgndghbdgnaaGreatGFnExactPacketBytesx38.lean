-- Contracts of functions, no condition.
import Derived.Test.YtffkgndghbdgnaaGreatGFnExactPacketBytesx36
import Derived.Test.YtffkgndghbdgnaaGreatGFnExactPacketBytesx37
namespace Go.Proofs.YtffkgndghbdgnaaGreat.FFnExactPacketBytes
open Go.RowKit Go.Proofs.YtffkgndghbdgnaaGreatW.PrintWords Go.Proofs.YtffkgndghbdgnaaGreatW.PrintLast Go.Proofs.YtffkgndghbdgnaaGreatW.PrintMore Go.Proofs.YtffkgndghbdgnaaGreat.Frame
attribute [local go_sem] max2_int min2_int max_two min_two max_three min_three max_four min_four
set_option linter.unusedVariables false
set_option maxHeartbeats 8000000
set_option maxRecDepth 100000
set_option linter.unusedSimpArgs false

/-! ### impl_PacketBytes: function 12 -/
def impl_PacketBytes.f (k : Nat) (a0_0 a0_1 a0_2 a0_3 a0_4 : Int) (l0_5 : List Int) (a0_6 a0_7 a0_8 a0_9 a0_10 a0_11 a0_12 a0_13 a0_14 a0_15 a0_16 a0_17 a0_18 a0_19 a0_20 a0_21 a0_22 : Int) (l0_23 l0_24 : List Int) (a0_25 a0_26 a0_27 a0_28 a0_29 a0_30 a0_31 a0_32 a0_33 a0_34 a0_35 a0_36 a0_37 a0_38 : Int) (l0_39 : List (S102)) (l0_40 : List Int) (a0_41 a0_42 a0_43 a0_44 a0_45 a0_46 a0_47 a0_48 a0_49 a0_50 a0_51 : Int) (a0_52 : Bool) (l0_53 l0_54 l0_55 : List Int) : Option (List Int) := (impl_Packet_frame.f k a0_0 a0_1 a0_2 a0_3 a0_4 l0_5 a0_6 a0_7 a0_8 a0_9 a0_10 a0_11 a0_12 a0_13 a0_14 a0_15 a0_16 a0_17 a0_18 a0_19 a0_20 a0_21 a0_22 l0_23 l0_24 a0_25 a0_26 a0_27 a0_28 a0_29 a0_30 a0_31 a0_32 a0_33 a0_34 a0_35 a0_36 a0_37 a0_38 l0_39 l0_40 a0_41 a0_42 a0_43 a0_44 a0_45 a0_46 a0_47 a0_48 a0_49 a0_50 a0_51 a0_52 l0_53 l0_54 l0_55).bind fun bt1206 => (if bt1206.2.2.2.2.2 = true then ((impl_EtherBytes.f k bt1206.1 bt1206.2.1 bt1206.2.2.1 bt1206.2.2.2.1 bt1206.2.2.2.2.1).bind fun t1215 => (some t1215)) else (some ([] : List Int)))
theorem impl_PacketBytes.calls (k : Nat) (a0_0 a0_1 a0_2 a0_3 a0_4 : Int) (A0_5 : Option Addr) (c0_5 : Nat) (l0_5 : List Int) (a0_6 a0_7 a0_8 a0_9 a0_10 a0_11 a0_12 a0_13 a0_14 a0_15 a0_16 a0_17 a0_18 a0_19 a0_20 a0_21 a0_22 : Int) (A0_23 : Option Addr) (c0_23 : Nat) (l0_23 : List Int) (A0_24 : Option Addr) (c0_24 : Nat) (l0_24 : List Int) (a0_25 a0_26 a0_27 a0_28 a0_29 a0_30 a0_31 a0_32 a0_33 a0_34 a0_35 a0_36 a0_37 a0_38 : Int) (A0_39 : Option Addr) (c0_39 : Nat) (l0_39 : List (S102)) (A0_40 : Option Addr) (c0_40 : Nat) (l0_40 : List Int) (a0_41 a0_42 a0_43 a0_44 a0_45 a0_46 a0_47 a0_48 a0_49 a0_50 a0_51 : Int) (a0_52 : Bool) (A0_53 : Option Addr) (c0_53 : Nat) (l0_53 : List Int) (A0_54 : Option Addr) (c0_54 : Nat) (l0_54 : List Int) (A0_55 : Option Addr) (c0_55 : Nat) (l0_55 r : List Int) (w : World) (hr0_5 : Kd.C (Kd.int .u8) w A0_5 l0_5.length l0_5) (hc0_5 : l0_5.length ≤ c0_5) (hr0_23 : Kd.C (Kd.int .u8) w A0_23 l0_23.length l0_23) (hc0_23 : l0_23.length ≤ c0_23) (hr0_24 : Kd.C (Kd.int .u8) w A0_24 l0_24.length l0_24) (hc0_24 : l0_24.length ≤ c0_24) (hr0_39 : Kd.C k102 w A0_39 l0_39.length l0_39) (hc0_39 : l0_39.length ≤ c0_39) (hr0_40 : Kd.C (Kd.int .u8) w A0_40 l0_40.length l0_40) (hc0_40 : l0_40.length ≤ c0_40) (hr0_53 : Kd.C (Kd.int .u8) w A0_53 l0_53.length l0_53) (hc0_53 : l0_53.length ≤ c0_53) (hr0_54 : Kd.C (Kd.int .u8) w A0_54 l0_54.length l0_54) (hc0_54 : l0_54.length ≤ c0_54) (hr0_55 : Kd.C (Kd.int .u8) w A0_55 l0_55.length l0_55) (hc0_55 : l0_55.length ≤ c0_55) (h : impl_PacketBytes.f k a0_0 a0_1 a0_2 a0_3 a0_4 l0_5 a0_6 a0_7 a0_8 a0_9 a0_10 a0_11 a0_12 a0_13 a0_14 a0_15 a0_16 a0_17 a0_18 a0_19 a0_20 a0_21 a0_22 l0_23 l0_24 a0_25 a0_26 a0_27 a0_28 a0_29 a0_30 a0_31 a0_32 a0_33 a0_34 a0_35 a0_36 a0_37 a0_38 l0_39 l0_40 a0_41 a0_42 a0_43 a0_44 a0_45 a0_46 a0_47 a0_48 a0_49 a0_50 a0_51 a0_52 l0_53 l0_54 l0_55 = some r) :
  Calls Tryz.prog 12 #[.agg #[.int .i64 a0_0, .int .i64 a0_1, .int .i64 a0_2, .int .i64 a0_3, .int .i64 a0_4, .slice A0_5 l0_5.length c0_5, .int .i64 a0_6, .int .i64 a0_7, .int .i64 a0_8, .int .i64 a0_9, .int .i64 a0_10, .int .i64 a0_11, .int .i64 a0_12, .int .i64 a0_13, .int .i64 a0_14, .int .i64 a0_15, .int .i64 a0_16, .int .i64 a0_17, .int .i64 a0_18, .int .i64 a0_19, .int .i64 a0_20, .int .i64 a0_21, .int .i64 a0_22, .slice A0_23 l0_23.length c0_23, .slice A0_24 l0_24.length c0_24, .int .i64 a0_25, .int .i64 a0_26, .int .i64 a0_27, .int .i64 a0_28, .int .i64 a0_29, .int .i64 a0_30, .int .i64 a0_31, .int .i64 a0_32, .int .i64 a0_33, .int .i64 a0_34, .int .i64 a0_35, .int .i64 a0_36, .int .i64 a0_37, .int .i64 a0_38, .slice A0_39 l0_39.length c0_39, .slice A0_40 l0_40.length c0_40, .int .i64 a0_41, .int .i64 a0_42, .int .i64 a0_43, .int .i64 a0_44, .int .i64 a0_45, .int .i64 a0_46, .int .i64 a0_47, .int .i64 a0_48, .int .i64 a0_49, .int .i64 a0_50, .int .i64 a0_51, .bool a0_52, .slice A0_53 l0_53.length c0_53, .slice A0_54 l0_54.length c0_54, .slice A0_55 l0_55.length c0_55]] w fun e w' => ∃ v0_ : Value, e = .returned (v0_) ∧ Kd.R (Kd.int .u8) 5 w' w.heap.size (fun _ => True) v0_ r ∧ Below w.heap.size w w' := by
 have HR0_5 := Aside0.mk hr0_5
 have HC0_5 := Aside0.mk hc0_5
 have HR0_23 := Aside0.mk hr0_23
 have HC0_23 := Aside0.mk hc0_23
 have HR0_24 := Aside0.mk hr0_24
 have HC0_24 := Aside0.mk hc0_24
 have HR0_39 := Aside0.mk hr0_39
 have HC0_39 := Aside0.mk hc0_39
 have HR0_40 := Aside0.mk hr0_40
 have HC0_40 := Aside0.mk hc0_40
 have HR0_53 := Aside0.mk hr0_53
 have HC0_53 := Aside0.mk hc0_53
 have HR0_54 := Aside0.mk hr0_54
 have HC0_54 := Aside0.mk hc0_54
 have HR0_55 := Aside0.mk hr0_55
 have HC0_55 := Aside0.mk hc0_55
 clear hr0_5 hc0_5 hr0_23 hc0_23 hr0_24 hc0_24 hr0_39 hc0_39 hr0_40 hc0_40 hr0_53 hc0_53 hr0_54 hc0_54 hr0_55 hc0_55
 have HF := Fr.start [38, 47] w
 have HP := Aside0.mk True.intro
 unfold impl_PacketBytes.f at h
 have HH := Aside0.mk h
 clear h
 go_enter Tryz.func12, Tryz.ntmps12
 all_goals (repeat' (first
    | ((with_reducible refine gA 0 ?_) <;> (refine HF.bA ?_; clear HF; intro g_ w_ HF; refine nA ?_) <;> (refine sA ?_) <;> (apply lend))
    | ((with_reducible refine gA 1 ?_) <;> (refine sA ?_) <;> ((replace HH := bA HH); obtain ⟨⟨_, _, _, _, _, _⟩, A7_, HH⟩ := HH; (dsimp only at HH)) <;> (repeat' (with_reducible first | (replace HH := iA HP HH; clear HP; rcases HH with ⟨p, HP, HH⟩ | ⟨p, HP, HH⟩ <;> subst p) | fail)) <;> (apply cA Tryz.func29 (by kernel_rfl) rfl rfl rfl rfl; (with_reducible apply impl_Packet_frame.calls (h := A7_.out)); exact (Kd.C_below HR0_5.out HF.below); exact HC0_5.out; exact (Kd.C_below HR0_23.out HF.below); exact HC0_23.out; exact (Kd.C_below HR0_24.out HF.below); exact HC0_24.out; exact (Kd.C_below HR0_39.out HF.below); exact HC0_39.out; exact (Kd.C_below HR0_40.out HF.below); exact HC0_40.out; exact (Kd.C_below HR0_53.out HF.below); exact HC0_53.out; exact (Kd.C_below HR0_54.out HF.below); exact HC0_54.out; exact (Kd.C_below HR0_55.out HF.below); exact HC0_55.out; rintro e w_ ⟨v4_, rfl, hov4_, hb_⟩; obtain ⟨Av7_4, cv7_4, rfl⟩ := Kd.R_slice hov4_; have HO7_4 := HF.row2 hov4_; have HB7 := Aside0.mk hb_.size; clear hov4_; refine ⟨_, rfl, ?_⟩; replace HF := (HF.call hb_).mark; clear hb_; rotate_left; exact hA; clear A7_; refine nA ?_) <;> (iterate 3 refine sA ?_) <;> (refine HF.aA ?_; clear HF; intro g_ w_ HF; refine nA ?_) <;> (refine HF.tA ?_; clear HF; intro w_ HF) <;> (refine sA ?_) <;> (apply lend))
    | ((with_reducible refine gA 2 ?_; have k_ := HO7_4; clear k_) <;> (iterate 2 refine sA ?_) <;> (apply lend))
    | ((with_reducible refine gA 3 ?_; have k_ := HO7_4; clear k_) <;> (refine sA ?_) <;> (apply lend))
    | ((with_reducible refine gA 4 ?_; have k_ := HO7_4; clear k_) <;> (refine sA ?_) <;> ((replace HH := bA HH); obtain ⟨_, A13_, HH⟩ := HH) <;> (have HS13 := HF.since; refine HF.rB Tryz.func37 (by (with_reducible apply impl_EtherBytes.calls (h := A13_.out)) <;> exact gP) ?_; clear HF A13_; intro Av13_0 cv13_0 w_ HO13_0 HB13 HF; refine nA ?_) <;> ((refine pA ?_); have HO2_0 := HO13_0) <;> (apply lend))
    | go_step | fail))
 all_goals (have h_ := HH.out; clear HH; cases h_ <;> (go_ret; first
   | exact ⟨_, rfl, (Kd.R_nil _ _ _ _ _), HF.below⟩
   | exact ⟨_, rfl, (rN HF HO2_0), HF.below⟩))

/-! ### laws_markByteS: function 15 -/
def laws_markByteS.l0 : Nat → List Int → Int → Int → Option (Int × List Int)
 | 0, _, _, _ => none
 | k + 1, x0, x1, x5 => if x5 < (x0.length : Int) then (if 0 ≤ x5 then (laws_markByteS.l0 k (x0.set (x5 : Int).toNat ((x1) % 256)) (wrap64 (x1 + 1)) (wrap64 (x5 + 1))) else (none)) else (some (x1, x0))
def laws_markByteS.f (k : Nat) (l0 : List Int) (a1 : Int) : Option (Int × List Int) := laws_markByteS.l0 k l0 a1 0
theorem laws_markByteS.calls (k : Nat) (P0_ : Nat → Prop) (u9000_ : Value) (l0 : List Int) (a1 r1 : Int) (r2 : List Int) (w0 w : World) (hB : Below w0.heap.size w0 w) (ho0 : Kd.R (Kd.int .u8) 5 w w0.heap.size P0_ u9000_ l0) (h : laws_markByteS.f k l0 a1 = some (r1, r2)) :
  Calls Tryz.prog 15 #[u9000_, .int .i64 a1] w fun e w' => e = .returned (.int .i64 r1) ∧ Kd.R (Kd.int .u8) 5 w' w0.heap.size (fun k_ => (P0_ k_ ∨ w.heap.size ≤ k_)) u9000_ r2 ∧ Below w0.heap.size w0 w' ∧ Kept w w' (fun k_ => P0_ k_) := by
 have HO0 := Aside0.mk (show Kd.R (Kd.int .u8) 5 w w0.heap.size (fun k_ => (P0_ k_ ∨ w.heap.size ≤ k_)) u9000_ l0 from Kd.R_mono ho0 (fun k_ hk => (.inl hk)))
 have HK := Aside0.mk (Kept.refl w (fun k_ => P0_ k_))
 have HW0 := Aside0.mk hB.size
 have HB := Aside0.mk hB
 clear hB
 have H : (laws_markByteS.l0 k l0 a1 0) = some (r1, r2) := h
 clear h
 have H' := Aside0.mk H
 clear H
 go_enter Tryz.func15, Tryz.ntmps15
 go_wp2
 go_loopg [1, 5] k (fun kq v1 v5 w' => ∃ (x0_1 : List Int) (x1_1 : Int) (x5_1 : Int), v1 = .int .i64 x1_1 ∧ v5 = .int .i64 x5_1 ∧ Aside0 (laws_markByteS.l0 kq x0_1 x1_1 x5_1 = some (r1, r2)) ∧ Aside0 (kq ≤ k) ∧ Aside0 (Kd.R (Kd.int .u8) 5 w' w0.heap.size (fun k_ => (P0_ k_ ∨ w.heap.size ≤ k_)) u9000_ x0_1) ∧ Aside0 (Kept w w' (fun k_ => P0_ k_)) ∧ Aside0 (Below w0.heap.size w0 w'))
 case atStart => exact ⟨(l0), (a1), (0), (by rfl), (by rfl), H', ⟨Nat.le_refl _⟩, ⟨by (with_reducible repeat (first | apply Kd.R_alloc | apply Kd.R_drewN | apply Kd.R_drew)); exact HO0.out⟩, ⟨by repeat ((with_reducible exact HK.out))⟩, ⟨by repeat ((with_reducible exact HB.out))⟩⟩
 case round =>
  clear H'
  try clear c1
  try clear p2
  obtain ⟨x0_1, x1_1, x5_1, rfl, rfl, HA, HK1, HO_0, HK, HB⟩ := hrel
  cases gk with
  | zero => exact absurd HA.out (by simp [laws_markByteS.l0])
  | succ k1 =>
   have H := HA.out
   clear HA
   simp only [laws_markByteS.l0] at H
   by_cases c3 : x5_1 < (x0_1.length : Int)
   ·rw [if_pos c3] at H
    have c3b0 : decide (x5_1 < (x0_1.length : Int)) = true := decide_eq_true c3
    clear c3
    by_cases c4 : 0 ≤ x5_1
    ·rw [if_pos c4] at H
     have c4b0 : decide (0 ≤ x5_1) = true := decide_eq_true c4
     clear c4
     obtain ⟨y1218, hy1218⟩ : ∃ y_ : List Int, y_ = (x0_1.set (x5_1 : Int).toNat ((x1_1) % 256)) := ⟨_, rfl⟩
     replace H : (laws_markByteS.l0 k1 y1218 (wrap64 (x1_1 + 1)) (wrap64 (x5_1 + 1))) = some (r1, r2) := by (rw [hy1218]; with_reducible exact H)
     have Ny1218 := Aside0.mk hy1218
     clear hy1218
     have H' := Aside0.mk H
     clear H
     obtain ⟨Ao6, co6, eo6⟩ := Kd.R_slice HO_0.out
     subst eo6
     have p5 : 0 ≤ (x5_1 : Int) := of_decide_eq_true (by (with_reducible assumption))
     have q5 : (x5_1 : Int) < ((x0_1.length : Int) : Int) := of_decide_eq_true (by (with_reducible assumption))
     obtain ⟨go5, co5, eo5, gb5, gl5, cl5, HG5⟩ := Kd.R_form HO_0.out (by omega)
     (cases eo5)
     have GB5 := Aside0.mk gb5
     have GG5 := Aside0.mk HG5
     clear gb5 gl5 HG5
     have HMgo5 := Aside0.mk (show (P0_ go5 ∨ w.heap.size ≤ go5) from (HO_0.out.1 _ rfl))
     obtain ⟨hx5_0, hf5_0⟩ := Kd.R_celln 0 HO_0.out (x5_1 : Int) p5 q5
     replace p5 := eq_true p5
     replace q5 := eq_true q5
     have HP7 := Kd.R_putg HO_0.out (x5_1 : Int) ((x1_1) % 256)
     go_wp2_with (((with_reducible refine gate_store (t := 5) (p := 16) rfl ?_); refine store_event (t := 5) (p := 16) (v := ?vo_w8) (w1 := (wr.setCell ⟨go5, (x5_1 : Int).toNat, none⟩ (.int .u8 ((x1_1) % 256)))) ?hg ?ho ?hn ?hr ?_; (case ho => rfl); (case hg => rfl); (case hn => rfl); (case hr => (go_simp; done)); intro w8 hw; have hg : wr.grownBy w8 (some go5) := (by rw [hw]; exact HP7.2); have hp_ : Kd.R (Kd.int .u8) 5 w8 w0.heap.size (fun k_ => (P0_ k_ ∨ w.heap.size ≤ k_)) (.slice (some ⟨go5, 0, none⟩) x0_1.length co6) y1218 := (by rw [hw, Ny1218.out]; exact HP7.1); clear HP7; have n0_ := Aside0.mk (hp_); have n1_ := Aside0.mk ((by rw [hw]; exact below_set (HB.out) GB5.out : Below w0.heap.size w0 w8)); have n2_ := Aside0.mk (Kept.of_grown (S := (fun k_ => P0_ k_)) hg (by repeat ((with_reducible exact HK.out))) (fun k_ e_ => (HO_0.out.1 k_ e_))); clear HO_0; clear HB; clear HK; have HO_0 := n0_; have HB := n1_; have HK := n2_; clear n0_ n1_ n2_; clear hg hw hp_))
     go_roundg k1
     case measure => have := HK1.out; omega
     case rel => exact ⟨(y1218), (wrap64 (x1_1 + 1)), (wrap64 (x5_1 + 1)), (by rfl), (by rfl), H', ⟨by have := HK1.out; omega⟩, ⟨by (with_reducible repeat (first | apply Kd.R_alloc | apply Kd.R_drewN | apply Kd.R_drew)); exact HO_0.out⟩, ⟨by repeat ((with_reducible exact HK.out))⟩, ⟨by repeat ((with_reducible exact HB.out))⟩⟩
    ·rw [if_neg c4] at H
     exact absurd H (by simp)
   ·rw [if_neg c3] at H
    have c3b0 : decide (x5_1 < (x0_1.length : Int)) = false := decide_eq_false c3
    clear c3
    simp only [Option.some.injEq, Prod.mk.injEq] at H
    obtain ⟨rfl, rfl⟩ := H
    obtain ⟨Ao9, co9, eo9⟩ := Kd.R_slice HO_0.out
    subst eo9
    go_wp2
    go_ret
    exact ⟨by rfl, by (with_reducible repeat (first | apply Kd.R_alloc | apply Kd.R_drewN | apply Kd.R_drew)); exact HO_0.out, by repeat ((with_reducible exact HB.out)), by repeat ((with_reducible exact HK.out))⟩

/-! ### laws_markEther: function 38 -/
def laws_markEther.f (k : Nat) (a0_0 a0_1 a0_2 a0_3 : Int) (l0_4 : List Int) (a1 : Int) : Option (Int × List Int) := (laws_markByteS.f k l0_4 a1).bind fun bt1220 => (some (bt1220.1, bt1220.2))
theorem laws_markEther.calls (k : Nat) (a0_0 a0_1 a0_2 a0_3 : Int) (P0_4_ : Nat → Prop) (u9000_ : Value) (l0_4 : List Int) (a1 r1 : Int) (r2 : List Int) (w0 w : World) (hB : Below w0.heap.size w0 w) (ho0_4 : Kd.R (Kd.int .u8) 5 w w0.heap.size P0_4_ u9000_ l0_4) (h : laws_markEther.f k a0_0 a0_1 a0_2 a0_3 l0_4 a1 = some (r1, r2)) :
  Calls Tryz.prog 38 #[.agg #[.int .i64 a0_0, .int .i64 a0_1, .int .i64 a0_2, .int .i64 a0_3, u9000_], .int .i64 a1] w fun e w' => e = .returned (.int .i64 r1) ∧ Kd.R (Kd.int .u8) 5 w' w0.heap.size (fun k_ => (P0_4_ k_ ∨ w.heap.size ≤ k_)) u9000_ r2 ∧ Below w0.heap.size w0 w' ∧ Kept w w' (fun k_ => P0_4_ k_) := by
 have hu38 := Tryz.underlying38
 have HO0_4 := Aside0.mk (show Kd.R (Kd.int .u8) 5 w w0.heap.size (fun k_ => (P0_4_ k_ ∨ w.heap.size ≤ k_)) u9000_ l0_4 from Kd.R_mono ho0_4 (fun k_ hk => (.inl hk)))
 have HK := Aside0.mk (Kept.refl w (fun k_ => P0_4_ k_))
 have HW0 := Aside0.mk hB.size
 have HB := Aside0.mk hB
 clear hB
 have H : ((laws_markByteS.f k l0_4 a1).bind fun bt1220 => (some (bt1220.1, bt1220.2))) = some (r1, r2) := h
 clear h
 replace H := Option.bind_eq_some_iff.mp H
 obtain ⟨⟨t1220, t1221⟩, A30, H⟩ := H
 replace H : (some (t1220, t1221)) = some (r1, r2) := H
 have A3 := Aside0.mk A30
 clear A30
 simp only [Option.some.injEq, Prod.mk.injEq] at H
 obtain ⟨rfl, rfl⟩ := H
 obtain ⟨Ao4, co4, eo4⟩ := Kd.R_slice HO0_4.out
 subst eo4
 go_enter Tryz.func38, Tryz.ntmps38
 go_wp2_with (first | ((with_reducible refine gate_dst (N := 2) rfl ?_); refine box_event ?hg (N := 2) ?hd (cs := #[.int .i64 a0_0, .int .i64 a0_1, .int .i64 a0_2, .int .i64 a0_3, .slice Ao4 l0_4.length co4]) (t := 38) ?hr ?_; (case hd => rfl); (case hg => rfl); (case hr => (go_simp; done)); intro gb1219 hg w5 hbox hb; have n0_ := Aside0.mk (Kd.R_below (by (with_reducible repeat (first | apply Kd.R_alloc | apply Kd.R_drewN | apply Kd.R_drew)); exact HO0_4.out) hb); have n1_ := Aside0.mk (Kept.below (S := (fun k_ => P0_4_ k_)) (by repeat ((with_reducible exact HK.out))) hb); have n2_ := Aside0.mk (below_step (by repeat ((with_reducible exact HB.out))) hb); have n3_ := Aside0.mk (hbox); have n4_ := Aside0.mk ((by rw [hg]; exact (by exact HK.out.1) : w.heap.size ≤ gb1219)); have n5_ := Aside0.mk ((by rw [hg]; exact (below_size (by repeat ((with_reducible exact HB.out)))) : w0.heap.size ≤ gb1219)); clear HO0_4; clear HK; clear HB; have HO0_4 := n0_; have HK := n1_; have HB := n2_; have BK1219 := n3_; have GW1219 := n4_; have GE1219 := n5_; clear n0_ n1_ n2_ n3_ n4_ n5_; clear hb hbox hg; have hcz6_0 : w5.cell? ⟨gb1219, 0, none⟩ = some (.int .i64 a0_0) := (blk_cell BK1219.out 0).trans rfl; have hcz6_1 : w5.cell? ⟨gb1219, 1, none⟩ = some (.int .i64 a0_1) := (blk_cell BK1219.out 1).trans rfl; have hcz6_2 : w5.cell? ⟨gb1219, 2, none⟩ = some (.int .i64 a0_2) := (blk_cell BK1219.out 2).trans rfl; have hcz6_3 : w5.cell? ⟨gb1219, 3, none⟩ = some (.int .i64 a0_3) := (blk_cell BK1219.out 3).trans rfl; have hcz6_4 : w5.cell? ⟨gb1219, 4, none⟩ = some (.slice Ao4 l0_4.length co4) := (blk_cell BK1219.out 4).trans rfl; have hfz6_0 := blk_frozen BK1219.out 0; have hfz6_1 := blk_frozen BK1219.out 1; have hfz6_2 := blk_frozen BK1219.out 2; have hfz6_3 := blk_frozen BK1219.out 3; have hfz6_4 := blk_frozen BK1219.out 4) | ((with_reducible refine gate_callee (f := 15) rfl ?_); refine goesL_ (some 8) rfl rfl Tryz.func15 (by kernel_rfl) rfl #[.slice Ao4 l0_4.length co4, .int .i64 a1] rfl (by (simp only [List.map_toArray, List.map_cons, List.map_nil]); rfl) ?_; (with_reducible refine (laws_markByteS.calls k (fun k_ => some k_ = (.slice Ao4 l0_4.length co4 : Value).ownBlock) (.slice Ao4 l0_4.length co4) l0_4 a1 t1220 t1221 w0 _ ?side1 ?side2 A3.out).mono ?_); (case side1 => repeat ((with_reducible exact HB.out))); (case side2 => exact Kd.R_tight rfl HO0_4.out); rintro e w7 ⟨rfl, hy0, hb, hkp⟩; refine ⟨_, rfl, ?_⟩; have n0_ := Aside0.mk (Kd.R_reok rfl hy0 (fun k_ e_ => HO0_4.out.1 k_ e_)); have n1_ := Aside0.mk (blk_kept (by (with_reducible repeat (first | refine blk_drewN ?_ _ | refine blk_drew ?_ | refine blk_alloc ?_ _)); exact BK1219.out) hkp (fun hs_ => (fun e_ => (Kd.R_ne HO0_4.out BK1219.out (by decide)) e_) hs_)); have n2_ := Aside0.mk (Kept.then_ (S := (fun k_ => P0_4_ k_)) (by repeat ((with_reducible exact HK.out))) hkp (fun k_ hs_ => (fun e_ => (HO0_4.out.1 k_ e_.symm)) hs_)); have n3_ := Aside0.mk (hb); clear HO0_4; clear BK1219; clear HK; clear HB; have HO0_4 := n0_; have BK1219 := n1_; have HK := n2_; have HB := n3_; clear n0_ n1_ n2_ n3_; (clear hb); (clear hkp); (clear hy0)))
 go_ret
 exact ⟨by rfl, by (with_reducible repeat (first | apply Kd.R_alloc | apply Kd.R_drewN | apply Kd.R_drew)); exact HO0_4.out, by repeat ((with_reducible exact HB.out)), by repeat ((with_reducible exact HK.out))⟩

/-! ### laws_markFour: function 39 -/
def laws_markFour.f (k : Nat) (a0_0 a0_1 a0_2 a0_3 a0_4 a0_5 a0_6 a0_7 a0_8 a0_9 a0_10 a0_11 a0_12 a0_13 a0_14 a0_15 a0_16 : Int) (l0_17 l0_18 : List Int) (a1 : Int) : Option (Int × List Int × List Int) := (laws_markByteS.f k l0_17 a1).bind fun bt1223 => ((laws_markByteS.f k l0_18 bt1223.1).bind fun bt1225 => (some (bt1225.1, bt1223.2, bt1225.2)))
theorem laws_markFour.calls (k : Nat) (a0_0 a0_1 a0_2 a0_3 a0_4 a0_5 a0_6 a0_7 a0_8 a0_9 a0_10 a0_11 a0_12 a0_13 a0_14 a0_15 a0_16 : Int) (P0_17_ : Nat → Prop) (u9000_ : Value) (l0_17 : List Int) (P0_18_ : Nat → Prop) (u9001_ : Value) (l0_18 : List Int) (a1 r1 : Int) (r2 r3 : List Int) (w0 w : World) (hB : Below w0.heap.size w0 w) (ho0_17 : Kd.R (Kd.int .u8) 5 w w0.heap.size P0_17_ u9000_ l0_17) (hp0_17_0_18 : ∀ k_, P0_17_ k_ → ¬ P0_18_ k_) (ho0_18 : Kd.R (Kd.int .u8) 5 w w0.heap.size P0_18_ u9001_ l0_18) (hp0_18_0_17 : ∀ k_, P0_18_ k_ → ¬ P0_17_ k_) (h : laws_markFour.f k a0_0 a0_1 a0_2 a0_3 a0_4 a0_5 a0_6 a0_7 a0_8 a0_9 a0_10 a0_11 a0_12 a0_13 a0_14 a0_15 a0_16 l0_17 l0_18 a1 = some (r1, r2, r3)) :
  Calls Tryz.prog 39 #[.agg #[.int .i64 a0_0, .int .i64 a0_1, .int .i64 a0_2, .int .i64 a0_3, .int .i64 a0_4, .int .i64 a0_5, .int .i64 a0_6, .int .i64 a0_7, .int .i64 a0_8, .int .i64 a0_9, .int .i64 a0_10, .int .i64 a0_11, .int .i64 a0_12, .int .i64 a0_13, .int .i64 a0_14, .int .i64 a0_15, .int .i64 a0_16, u9000_, u9001_], .int .i64 a1] w fun e w' => e = .returned (.int .i64 r1) ∧ Kd.R (Kd.int .u8) 5 w' w0.heap.size (fun k_ => ((P0_17_ k_ ∨ P0_18_ k_) ∨ w.heap.size ≤ k_)) u9000_ r2 ∧ Kd.R (Kd.int .u8) 5 w' w0.heap.size (fun k_ => ((P0_17_ k_ ∨ P0_18_ k_) ∨ w.heap.size ≤ k_)) u9001_ r3 ∧ Below w0.heap.size w0 w' ∧ Kept w w' (fun k_ => P0_17_ k_ ∨ P0_18_ k_) := by
 obtain ⟨A17_, c17_, rfl⟩ := Kd.R_slice ho0_17
 obtain ⟨A18_, c18_, rfl⟩ := Kd.R_slice ho0_18
 have hu41 := Tryz.underlying41
 unfold laws_markFour.f at h
 obtain ⟨⟨_, _⟩, A1_, h⟩ := Option.bind_eq_some_iff.mp h
 obtain ⟨⟨_, _⟩, A2_, h⟩ := Option.bind_eq_some_iff.mp h
 simp only [Option.some.injEq, Prod.mk.injEq] at h
 obtain ⟨rfl, rfl, rfl⟩ := h
 have HF := Fr.start [41] w
 go_enter Tryz.func39, Tryz.ntmps39
 repeat' (first
   | ((with_reducible refine gA 0 ?_) <;> (((with_reducible apply Fr.lbox HF rfl rfl rfl); (go_simp; rfl); decide; clear HF; intro g_ w_ HF); refine nA ?_) <;> (refine sA ?_) <;> (apply lend))
   | ((with_reducible refine gA 1 ?_) <;> (iterate 3 refine sA ?_) <;> (have HB0 := HF.below; have HFb := HF.rebase hB; have r17_ := R_tight (R_moved ho0_17 (T := [41]) (.below HB0) (by decide)); have r18_ := R_moved ho0_18 (T := [41]) (.below HB0) (by decide); apply cA Tryz.func15 (by kernel_rfl) rfl rfl rfl rfl; apply laws_markByteS.calls (w0 := w0) (hB := HFb.below) (ho0 := r17_) (h := A1_); rintro e W1_ ⟨rfl, q1_, b1_, k1_⟩; refine ⟨_, rfl, ?_⟩; have q1t_ := R_tight q1_; have q2_ := Kd.R_kept r18_ k1_ (fun k_ h18_ h17_ => hp0_17_0_18 k_ (ho0_17.1 k_ h17_) h18_); have K1_ := Kept.then_ (Kept.of_below HB0 (fun k_ => P0_17_ k_ ∨ P0_18_ k_)) k1_ (fun k_ h_ => .inl (.inl (ho0_17.1 k_ h_))); replace HFb := HFb.kept b1_ k1_ (R_type r17_) (by decide); clear HF; have HF := HFb; clear HFb; rotate_left; exact hA; refine nA ?_) <;> (refine sA ?_) <;> (apply lend))
   | ((with_reducible refine gA 2 ?_) <;> (iterate 3 refine sA ?_) <;> (have r18t_ := R_tight q2_; apply cA Tryz.func15 (by kernel_rfl) rfl rfl rfl rfl; apply laws_markByteS.calls (w0 := w0) (hB := HF.below) (ho0 := r18t_) (h := A2_); rintro e W2_ ⟨rfl, q3_, b2_, k2_⟩; refine ⟨_, rfl, ?_⟩; have q4_ := Kd.R_kept q1t_ k2_ (fun k_ h17_ h18_ => hp0_17_0_18 k_ (ho0_17.1 k_ h17_) (ho0_18.1 k_ h18_)); have K2_ := Kept.then_ K1_ k2_ (fun k_ h_ => .inl (.inr (ho0_18.1 k_ h_))); replace HF := HF.kept b2_ k2_ (R_type r18t_) (by decide); rotate_left; exact hA; refine nA ?_) <;> (refine sA ?_) <;> (apply lend))
   | ((with_reducible refine gA 3 ?_) <;> (iterate 2 refine sA ?_) <;> (apply lend))
   | go_step | fail)
 go_ret
 exact ⟨rfl, Kd.R_mono q4_ (fun k_ h_ => .inl (.inl (ho0_17.1 k_ h_))), Kd.R_mono (R_tight q3_) (fun k_ h_ => .inl (.inr (ho0_18.1 k_ h_))), b2_, K2_⟩

/-! ### laws_markExtS: function 70 -/
def laws_markExtS.l0 : Nat → List (S102) → Int → Int → Option (Int × List (S102))
 | 0, _, _, _ => none
 | k + 1, x0, x1, x5 => if x5 < (x0.length : Int) then (if 0 ≤ x5 then ((laws_markByteS.f k ((rd_T102 x0 x5).f1) (wrap64 (x1 + 1))).bind fun bt => (laws_markExtS.l0 k (x0.set (x5 : Int).toNat ⟨x1, bt.2⟩) bt.1 (wrap64 (x5 + 1)))) else (none)) else (some (x1, x0))
def laws_markExtS.f (k : Nat) (l0 : List (S102)) (a1 : Int) : Option (Int × List (S102)) := laws_markExtS.l0 k l0 a1 0
theorem laws_markExtS.gets (xs : List S102) (i : Int) (x : S102) (h0 : 0 ≤ i) (h1 : i < xs.length) : (xs.set i.toNat x).getD i.toNat z102 = x := by
 rw [List.getD_eq_getElem?_getD, List.getElem?_set_self (by omega)]
 rfl
theorem laws_markExtS.calls (k : Nat) (P0_ : Nat → Prop) (u9000_ : Value) (l0 : List (S102)) (a1 r1 : Int) (r2 : List (S102)) (w0 w : World) (hB : Below w0.heap.size w0 w) (ho0 : Kd.S k102 102 w w0.heap.size P0_ u9000_ l0) (h : laws_markExtS.f k l0 a1 = some (r1, r2)) :
  Calls Tryz.prog 70 #[u9000_, .int .i64 a1] w fun e w' => e = .returned (.int .i64 r1) ∧ Kd.S k102 102 w' w0.heap.size (fun k_ => (P0_ k_ ∨ w.heap.size ≤ k_)) u9000_ r2 ∧ Below w0.heap.size w0 w' ∧ Kept w w' (fun k_ => P0_ k_) := by
 have HO0 := Aside0.mk ho0
 have HK := Aside0.mk (Kept.refl w (fun k_ => P0_ k_))
 have HB := Aside0.mk hB
 clear hB ho0
 have H' := Aside0.mk (show laws_markExtS.l0 k l0 a1 0 = some (r1, r2) from h)
 clear h
 go_enter Tryz.func70, Tryz.ntmps70
 go_wp2
 go_loopg [1, 5] k (fun kq v1 v5 w' => ∃ (x0_1 : List S102) (x1_1 : Int) (x5_1 : Int), v1 = .int .i64 x1_1 ∧ v5 = .int .i64 x5_1 ∧ Aside0 (laws_markExtS.l0 kq x0_1 x1_1 x5_1 = some (r1, r2)) ∧ Aside0 (kq ≤ k) ∧ Aside0 (Kd.S k102 102 w' w0.heap.size P0_ u9000_ x0_1) ∧ Aside0 (Kept w w' (fun k_ => P0_ k_)) ∧ Aside0 (Below w0.heap.size w0 w'))
 case atStart => exact ⟨l0, a1, 0, rfl, rfl, H', ⟨Nat.le_refl _⟩, ⟨by (with_reducible repeat (first | apply Kd.S_alloc | apply Kd.S_drewN | apply Kd.S_drew)); exact HO0.out⟩, ⟨by repeat ((with_reducible exact HK.out))⟩, ⟨by repeat ((with_reducible exact HB.out))⟩⟩
 case round =>
  clear H'
  obtain ⟨x0_1, x1_1, x5_1, rfl, rfl, HA, HK1, HO_0, HK, HB⟩ := hrel
  cases gk with
  | zero => exact absurd HA.out (by simp [laws_markExtS.l0])
  | succ k1 =>
   have H := HA.out
   clear HA
   simp only [laws_markExtS.l0] at H
   by_cases c3 : x5_1 < (x0_1.length : Int)
   ·rw [if_pos c3] at H
    have c3b0 : decide (x5_1 < (x0_1.length : Int)) = true := decide_eq_true c3
    by_cases c4 : 0 ≤ x5_1
    ·rw [if_pos c4] at H
     obtain ⟨⟨t1, t2⟩, A6_, H⟩ := Option.bind_eq_some_iff.mp H
     have A6 := Aside0.mk A6_
     have H' := Aside0.mk H
     clear H A6_
     obtain ⟨go5, co5, eo5, gb5, gl5, cl5, HG5⟩ := Kd.S_form HO_0.out (by omega)
     subst eo5
     obtain ⟨oki, c, hcl, hM, hcc, hfr, hoki, hH⟩ := Kd.S_elem HO_0.out z102 x5_1 c4 c3
     obtain ⟨ve, rfl, ge⟩ := k102_openM hM
     have HH := Aside0.mk hH
     have GE := Aside0.mk ge
     have P5 := Aside0.mk ((Kd.S_R HO_0.out).1 go5 rfl)
     have C3 := Aside0.mk c3
     have C4 := Aside0.mk c4
     clear hH ge hM hcc hfr hoki gb5 gl5 HG5 hcl HO_0
     replace c3 := eq_true c3
     replace c4 := eq_true c4
     go_wp2_with (first
      | (
        (with_reducible refine gate_store (t := 3) (p := 16) rfl ?_)
        refine Kd.H_store k102 (w0 := w0) (o' := (x5_1 : Int).toNat * 2) w0.heap.size rfl rfl 3 (.tmp 16) (.tmp 14) rfl 102 x5_1 0 x0_1 ⟨x1_1, (rd_T102 x0_1 x5_1).f1⟩ (.int .i64 x1_1) [.int .i64 x1_1] _ P0_ oki oki ?ha ?hf ?hx rfl (show (Tryz.prog.info? 3).map (·.size) = some 1 by kernel_rfl) (by simp [Value.oneCell']) HH.out C4.out C3.out (show 0 + 1 ≤ 2 by decide) (k102_mkM _ _ _ ⟨x1_1, (rd_T102 x0_1 x5_1).f1⟩ GE.out) (fun _ hk => hk) HB.out ?_
        (case ha => rfl)
        (case hf => rfl)
        (case hx => rfl)
        intro w8 hS hB8 hg8
        obtain ⟨oki2, c2, hcl2, hM2, hcc2, _, hoki2, hH2⟩ := Kd.S_elem hS z102 x5_1 C4.out (by exact C3.out)
        rw [laws_markExtS.gets _ _ _ C4.out C3.out] at hM2
        obtain ⟨v2, rfl, g2⟩ := k102_openM hM2
        have hx8_1 : w8.cell? ⟨go5, (x5_1 : Int).toNat * 2 + 1, none⟩ = some v2 := hcc2 1 _ rfl
        have HK8 := Aside0.mk (Kept.of_grown (S := (fun k_ => P0_ k_)) hg8 HK.out (fun k_ e_ => by injection e_ with e_; exact .inl (e_ ▸ P5.out)))
        have HB8 := Aside0.mk hB8
        have HH2 := Aside0.mk hH2
        have G2 := Aside0.mk g2
        have HI2 := Aside0.mk hoki2
        clear hS hB8 hg8 hM2 hcc2 hcl2 hH2 g2 hoki2 HK HB HH GE)
      | (
        (with_reducible refine gate_callee (f := 15) rfl ?_)
        refine goesL_ (some 25) rfl rfl Tryz.func15 (by kernel_rfl) rfl #[v2, .int .i64 (wrap64 (x1_1 + 1))] rfl (by (simp only [List.map_toArray, List.map_cons, List.map_nil]); rfl) ?_
        refine (laws_markByteS.calls k1 (fun k_ => some k_ = v2.ownBlock) v2 (rd_T102 x0_1 x5_1).f1 (wrap64 (x1_1 + 1)) t1 t2 w0 w8 HB8.out (Kd.R_tight rfl G2.out) A6.out).mono ?_
        rintro e w9 ⟨rfl, hr, hb, hk⟩
        refine ⟨_, rfl, ?_⟩
        have HS9 := Aside0.mk (Kd.H_back (x' := ⟨x1_1, t2⟩) (Kd.H_step HH2.out (fun k_ _ hn_ hl_ => hk.2 k_ hl_ (fun e_ => hn_ (G2.out.1 k_ e_.symm)))) (k102_mkM w9 _ _ ⟨x1_1, t2⟩ (Kd.R_tight rfl hr)) (fun k_ e_ => G2.out.1 k_ e_.symm))
        have HK9 := Aside0.mk (HK8.out.then_ hk (fun k_ e_ => .inl (HI2.out k_ (G2.out.1 k_ e_.symm)).1))
        have HB9 := Aside0.mk hb
        clear hr hb hk HK8 HB8 HH2))
     rw [List.set_set] at HS9
     go_roundg k1
     case measure => have := HK1.out; omega
     case rel => exact ⟨_, t1, (wrap64 (x5_1 + 1)), rfl, rfl, H', ⟨by have := HK1.out; omega⟩, ⟨by (with_reducible repeat (first | apply Kd.S_alloc | apply Kd.S_drewN | apply Kd.S_drew)); exact HS9.out⟩, ⟨by repeat ((with_reducible exact HK9.out))⟩, ⟨by repeat ((with_reducible exact HB9.out))⟩⟩
    ·rw [if_neg c4] at H
     exact absurd H (by simp)
   ·rw [if_neg c3] at H
    have c3b0 : decide (x5_1 < (x0_1.length : Int)) = false := decide_eq_false c3
    clear c3
    simp only [Option.some.injEq, Prod.mk.injEq] at H
    obtain ⟨rfl, rfl⟩ := H
    obtain ⟨Ao9, co9, eo9⟩ := Kd.S_slice HO_0.out
    subst eo9
    go_wp2
    go_ret
    exact ⟨rfl, Kd.S_mono (by (with_reducible repeat (first | apply Kd.S_alloc | apply Kd.S_drewN | apply Kd.S_drew)); exact HO_0.out) (fun _ hk_ => .inl hk_), by repeat ((with_reducible exact HB.out)), by repeat ((with_reducible exact HK.out))⟩


/-! ### laws_markSix: function 40 -/
def laws_markSix.f (k : Nat) (a0_0 a0_1 a0_2 a0_3 a0_4 a0_5 a0_6 a0_7 a0_8 a0_9 a0_10 a0_11 a0_12 a0_13 : Int) (l0_14 : List (S102)) (l0_15 : List Int) (a1 : Int) : Option (Int × List (S102) × List Int) := (laws_markExtS.f k l0_14 a1).bind fun bt1 => ((laws_markByteS.f k l0_15 bt1.1).bind fun bt2 => (some (bt2.1, bt1.2, bt2.2)))
theorem laws_markSix.calls (k : Nat) (a0_0 a0_1 a0_2 a0_3 a0_4 a0_5 a0_6 a0_7 a0_8 a0_9 a0_10 a0_11 a0_12 a0_13 : Int) (P0_14_ : Nat → Prop) (u9000_ : Value) (l0_14 : List (S102)) (P0_15_ : Nat → Prop) (u9001_ : Value) (l0_15 : List Int) (a1 r1 : Int) (r2 : List (S102)) (r3 : List Int) (w0 w : World) (hB : Below w0.heap.size w0 w) (ho0_14 : Kd.S k102 102 w w0.heap.size P0_14_ u9000_ l0_14) (hp0_14_0_15 : ∀ k_, P0_14_ k_ → ¬ P0_15_ k_) (ho0_15 : Kd.R (Kd.int .u8) 5 w w0.heap.size P0_15_ u9001_ l0_15) (hp0_15_0_14 : ∀ k_, P0_15_ k_ → ¬ P0_14_ k_) (h : laws_markSix.f k a0_0 a0_1 a0_2 a0_3 a0_4 a0_5 a0_6 a0_7 a0_8 a0_9 a0_10 a0_11 a0_12 a0_13 l0_14 l0_15 a1 = some (r1, r2, r3)) :
  Calls Tryz.prog 40 #[.agg #[.int .i64 a0_0, .int .i64 a0_1, .int .i64 a0_2, .int .i64 a0_3, .int .i64 a0_4, .int .i64 a0_5, .int .i64 a0_6, .int .i64 a0_7, .int .i64 a0_8, .int .i64 a0_9, .int .i64 a0_10, .int .i64 a0_11, .int .i64 a0_12, .int .i64 a0_13, u9000_, u9001_], .int .i64 a1] w fun e w' => e = .returned (.int .i64 r1) ∧ Kd.S k102 102 w' w0.heap.size (fun k_ => ((P0_14_ k_ ∨ P0_15_ k_) ∨ w.heap.size ≤ k_)) u9000_ r2 ∧ Kd.R (Kd.int .u8) 5 w' w0.heap.size (fun k_ => ((P0_14_ k_ ∨ P0_15_ k_) ∨ w.heap.size ≤ k_)) u9001_ r3 ∧ Below w0.heap.size w0 w' ∧ Kept w w' (fun k_ => P0_14_ k_ ∨ P0_15_ k_) := by
 obtain ⟨A14_, c14_, rfl⟩ := Kd.S_slice ho0_14
 obtain ⟨A15_, c15_, rfl⟩ := Kd.R_slice ho0_15
 have hu44 := Tryz.underlying44
 unfold laws_markSix.f at h
 obtain ⟨⟨_, _⟩, A1_, h⟩ := Option.bind_eq_some_iff.mp h
 obtain ⟨⟨_, _⟩, A2_, h⟩ := Option.bind_eq_some_iff.mp h
 simp only [Option.some.injEq, Prod.mk.injEq] at h
 obtain ⟨rfl, rfl, rfl⟩ := h
 have HF := Fr.start [44] w
 go_enter Tryz.func40, Tryz.ntmps40
 repeat' (first
   | ((with_reducible refine gA 0 ?_) <;> (((with_reducible apply Fr.lbox HF rfl rfl rfl); (go_simp; rfl); decide; clear HF; intro g_ w_ HF); refine nA ?_) <;> (refine sA ?_) <;> (apply lend))
   | ((with_reducible refine gA 1 ?_) <;> (iterate 3 refine sA ?_) <;> (have HB0 := HF.below; have HFb := HF.rebase hB; have r14_ := S_told_ (S_moved ho0_14 (T := [44]) (.below HB0) (by decide)); have r15_ := R_moved ho0_15 (T := [44]) (.below HB0) (by decide); apply cA Tryz.func70 (by kernel_rfl) rfl rfl rfl rfl; apply laws_markExtS.calls (w0 := w0) (hB := HFb.below) (ho0 := r14_) (h := A1_); rintro e W1_ ⟨rfl, q1_, b1_, k1_⟩; refine ⟨_, rfl, ?_⟩; have q1t_ := S_told_ q1_; have q2_ := Kd.R_kept r15_ k1_ (fun k_ h15_ h14_ => hp0_14_0_15 k_ h14_.1 h15_); have K1_ := Kept.then_ (Kept.of_below HB0 (fun k_ => P0_14_ k_ ∨ P0_15_ k_)) k1_ (fun k_ h_ => .inl (.inl h_.1)); replace HFb := HFb.keptS b1_ k1_ (fun k_ h_ => Told.type (T := [44]) h_ (by decide)); clear HF; have HF := HFb; clear HFb; rotate_left; exact hA; refine nA ?_) <;> (refine sA ?_) <;> (apply lend))
   | ((with_reducible refine gA 2 ?_) <;> (iterate 3 refine sA ?_) <;> (have r15t_ := R_tight q2_; apply cA Tryz.func15 (by kernel_rfl) rfl rfl rfl rfl; apply laws_markByteS.calls (w0 := w0) (hB := HF.below) (ho0 := r15t_) (h := A2_); rintro e W2_ ⟨rfl, q3_, b2_, k2_⟩; refine ⟨_, rfl, ?_⟩; have q4_ := Kd.S_kept q1_ k2_ (fun k_ h14_ h15_ => h14_.elim (fun h14_ => hp0_14_0_15 k_ h14_.1 (ho0_15.1 k_ h15_)) (fun h14_ => by have h16_ := (Kd.R_bound r15_).1 k_ h15_; have h17_ := h16_.2.2.1; omega)); have K2_ := Kept.then_ K1_ k2_ (fun k_ h_ => .inl (.inr (ho0_15.1 k_ h_))); replace HF := HF.kept b2_ k2_ (R_type r15t_) (by decide); rotate_left; exact hA; refine nA ?_) <;> (refine sA ?_) <;> (apply lend))
   | ((with_reducible refine gA 3 ?_) <;> (iterate 2 refine sA ?_) <;> (apply lend))
   | go_step | fail)
 go_ret
 exact ⟨rfl, Kd.S_mono q4_ (fun k_ h_ => h_.elim (fun h_ => .inl (.inl h_.1)) (fun h_ => .inr (Nat.le_trans HB0.size h_))), Kd.R_mono (R_tight q3_) (fun k_ h_ => .inl (.inr (ho0_15.1 k_ h_))), b2_, K2_⟩


/-! ### laws_markUpper: function 41 -/
def laws_markUpper.f (k : Nat) (a0_0 a0_1 a0_2 a0_3 a0_4 a0_5 a0_6 a0_7 a0_8 a0_9 a0_10 : Int) (a0_11 : Bool) (l0_12 l0_13 : List Int) (a1 : Int) : Option (Int × List Int × List Int) := (laws_markByteS.f k l0_12 a1).bind fun bt1228 => ((laws_markByteS.f k l0_13 bt1228.1).bind fun bt1230 => (some (bt1230.1, bt1228.2, bt1230.2)))
theorem laws_markUpper.calls (k : Nat) (a0_0 a0_1 a0_2 a0_3 a0_4 a0_5 a0_6 a0_7 a0_8 a0_9 a0_10 : Int) (a0_11 : Bool) (P0_12_ : Nat → Prop) (u9000_ : Value) (l0_12 : List Int) (P0_13_ : Nat → Prop) (u9001_ : Value) (l0_13 : List Int) (a1 r1 : Int) (r2 r3 : List Int) (w0 w : World) (hB : Below w0.heap.size w0 w) (ho0_12 : Kd.R (Kd.int .u8) 5 w w0.heap.size P0_12_ u9000_ l0_12) (hp0_12_0_13 : ∀ k_, P0_12_ k_ → ¬ P0_13_ k_) (ho0_13 : Kd.R (Kd.int .u8) 5 w w0.heap.size P0_13_ u9001_ l0_13) (hp0_13_0_12 : ∀ k_, P0_13_ k_ → ¬ P0_12_ k_) (h : laws_markUpper.f k a0_0 a0_1 a0_2 a0_3 a0_4 a0_5 a0_6 a0_7 a0_8 a0_9 a0_10 a0_11 l0_12 l0_13 a1 = some (r1, r2, r3)) :
  Calls Tryz.prog 41 #[.agg #[.int .i64 a0_0, .int .i64 a0_1, .int .i64 a0_2, .int .i64 a0_3, .int .i64 a0_4, .int .i64 a0_5, .int .i64 a0_6, .int .i64 a0_7, .int .i64 a0_8, .int .i64 a0_9, .int .i64 a0_10, .bool a0_11, u9000_, u9001_], .int .i64 a1] w fun e w' => e = .returned (.int .i64 r1) ∧ Kd.R (Kd.int .u8) 5 w' w0.heap.size (fun k_ => ((P0_12_ k_ ∨ P0_13_ k_) ∨ w.heap.size ≤ k_)) u9000_ r2 ∧ Kd.R (Kd.int .u8) 5 w' w0.heap.size (fun k_ => ((P0_12_ k_ ∨ P0_13_ k_) ∨ w.heap.size ≤ k_)) u9001_ r3 ∧ Below w0.heap.size w0 w' ∧ Kept w w' (fun k_ => P0_12_ k_ ∨ P0_13_ k_) := by
 obtain ⟨A17_, c17_, rfl⟩ := Kd.R_slice ho0_12
 obtain ⟨A18_, c18_, rfl⟩ := Kd.R_slice ho0_13
 have hu45 := Tryz.underlying45
 unfold laws_markUpper.f at h
 obtain ⟨⟨_, _⟩, A1_, h⟩ := Option.bind_eq_some_iff.mp h
 obtain ⟨⟨_, _⟩, A2_, h⟩ := Option.bind_eq_some_iff.mp h
 simp only [Option.some.injEq, Prod.mk.injEq] at h
 obtain ⟨rfl, rfl, rfl⟩ := h
 have HF := Fr.start [45] w
 go_enter Tryz.func41, Tryz.ntmps41
 repeat' (first
   | ((with_reducible refine gA 0 ?_) <;> (((with_reducible apply Fr.lbox HF rfl rfl rfl); (go_simp; rfl); decide; clear HF; intro g_ w_ HF); refine nA ?_) <;> (refine sA ?_) <;> (apply lend))
   | ((with_reducible refine gA 1 ?_) <;> (iterate 3 refine sA ?_) <;> (have HB0 := HF.below; have HFb := HF.rebase hB; have r17_ := R_tight (R_moved ho0_12 (T := [45]) (.below HB0) (by decide)); have r18_ := R_moved ho0_13 (T := [45]) (.below HB0) (by decide); apply cA Tryz.func15 (by kernel_rfl) rfl rfl rfl rfl; apply laws_markByteS.calls (w0 := w0) (hB := HFb.below) (ho0 := r17_) (h := A1_); rintro e W1_ ⟨rfl, q1_, b1_, k1_⟩; refine ⟨_, rfl, ?_⟩; have q1t_ := R_tight q1_; have q2_ := Kd.R_kept r18_ k1_ (fun k_ h18_ h17_ => hp0_12_0_13 k_ (ho0_12.1 k_ h17_) h18_); have K1_ := Kept.then_ (Kept.of_below HB0 (fun k_ => P0_12_ k_ ∨ P0_13_ k_)) k1_ (fun k_ h_ => .inl (.inl (ho0_12.1 k_ h_))); replace HFb := HFb.kept b1_ k1_ (R_type r17_) (by decide); clear HF; have HF := HFb; clear HFb; rotate_left; exact hA; refine nA ?_) <;> (refine sA ?_) <;> (apply lend))
   | ((with_reducible refine gA 2 ?_) <;> (iterate 3 refine sA ?_) <;> (have r18t_ := R_tight q2_; apply cA Tryz.func15 (by kernel_rfl) rfl rfl rfl rfl; apply laws_markByteS.calls (w0 := w0) (hB := HF.below) (ho0 := r18t_) (h := A2_); rintro e W2_ ⟨rfl, q3_, b2_, k2_⟩; refine ⟨_, rfl, ?_⟩; have q4_ := Kd.R_kept q1t_ k2_ (fun k_ h17_ h18_ => hp0_12_0_13 k_ (ho0_12.1 k_ h17_) (ho0_13.1 k_ h18_)); have K2_ := Kept.then_ K1_ k2_ (fun k_ h_ => .inl (.inr (ho0_13.1 k_ h_))); replace HF := HF.kept b2_ k2_ (R_type r18t_) (by decide); rotate_left; exact hA; refine nA ?_) <;> (refine sA ?_) <;> (apply lend))
   | ((with_reducible refine gA 3 ?_) <;> (iterate 2 refine sA ?_) <;> (apply lend))
   | go_step | fail)
 go_ret
 exact ⟨rfl, Kd.R_mono q4_ (fun k_ h_ => .inl (.inl (ho0_12.1 k_ h_))), Kd.R_mono (R_tight q3_) (fun k_ h_ => .inl (.inr (ho0_13.1 k_ h_))), b2_, K2_⟩

/-! ### laws_markPacket: function 14 -/
def laws_markPacket.f (k : Nat) (a0_0 a0_1 a0_2 a0_3 a0_4 : Int) (l0_5 : List Int) (a0_6 a0_7 a0_8 a0_9 a0_10 a0_11 a0_12 a0_13 a0_14 a0_15 a0_16 a0_17 a0_18 a0_19 a0_20 a0_21 a0_22 : Int) (l0_23 l0_24 : List Int) (a0_25 a0_26 a0_27 a0_28 a0_29 a0_30 a0_31 a0_32 a0_33 a0_34 a0_35 a0_36 a0_37 a0_38 : Int) (l0_39 : List (S102)) (l0_40 : List Int) (a0_41 a0_42 a0_43 a0_44 a0_45 a0_46 a0_47 a0_48 a0_49 a0_50 a0_51 : Int) (a0_52 : Bool) (l0_53 l0_54 l0_55 : List Int) (a1 : Int) : Option Int := (laws_markEther.f k a0_1 a0_2 a0_3 a0_4 l0_5 a1).bind fun bt1 => ((laws_markFour.f k a0_6 a0_7 a0_8 a0_9 a0_10 a0_11 a0_12 a0_13 a0_14 a0_15 a0_16 a0_17 a0_18 a0_19 a0_20 a0_21 a0_22 l0_23 l0_24 bt1.1).bind fun bt2 => ((laws_markSix.f k a0_25 a0_26 a0_27 a0_28 a0_29 a0_30 a0_31 a0_32 a0_33 a0_34 a0_35 a0_36 a0_37 a0_38 l0_39 l0_40 bt2.1).bind fun bt3 => ((laws_markUpper.f k a0_41 a0_42 a0_43 a0_44 a0_45 a0_46 a0_47 a0_48 a0_49 a0_50 a0_51 a0_52 l0_53 l0_54 bt3.1).bind fun bt4 => ((laws_markByteS.f k l0_55 bt4.1).bind fun bt5 => (some bt5.1)))))
theorem laws_markPacket.calls (k : Nat) (a0_0 a0_1 a0_2 a0_3 a0_4 : Int) (P0_5_ : Nat → Prop) (u9005_ : Value) (l0_5 : List Int) (a0_6 a0_7 a0_8 a0_9 a0_10 a0_11 a0_12 a0_13 a0_14 a0_15 a0_16 a0_17 a0_18 a0_19 a0_20 a0_21 a0_22 : Int) (P0_23_ : Nat → Prop) (u9023_ : Value) (l0_23 : List Int) (P0_24_ : Nat → Prop) (u9024_ : Value) (l0_24 : List Int) (a0_25 a0_26 a0_27 a0_28 a0_29 a0_30 a0_31 a0_32 a0_33 a0_34 a0_35 a0_36 a0_37 a0_38 : Int) (P0_39_ : Nat → Prop) (u9039_ : Value) (l0_39 : List (S102)) (P0_40_ : Nat → Prop) (u9040_ : Value) (l0_40 : List Int) (a0_41 a0_42 a0_43 a0_44 a0_45 a0_46 a0_47 a0_48 a0_49 a0_50 a0_51 : Int) (a0_52 : Bool) (P0_53_ : Nat → Prop) (u9053_ : Value) (l0_53 : List Int) (P0_54_ : Nat → Prop) (u9054_ : Value) (l0_54 : List Int) (P0_55_ : Nat → Prop) (u9055_ : Value) (l0_55 : List Int) (a1 r : Int) (w0 w : World) (hB : Below w0.heap.size w0 w) (ho0_5 : Kd.R (Kd.int .u8) 5 w w0.heap.size P0_5_ u9005_ l0_5) (ho0_23 : Kd.R (Kd.int .u8) 5 w w0.heap.size P0_23_ u9023_ l0_23) (ho0_24 : Kd.R (Kd.int .u8) 5 w w0.heap.size P0_24_ u9024_ l0_24) (ho0_39 : Kd.S k102 102 w w0.heap.size P0_39_ u9039_ l0_39) (ho0_40 : Kd.R (Kd.int .u8) 5 w w0.heap.size P0_40_ u9040_ l0_40) (ho0_53 : Kd.R (Kd.int .u8) 5 w w0.heap.size P0_53_ u9053_ l0_53) (ho0_54 : Kd.R (Kd.int .u8) 5 w w0.heap.size P0_54_ u9054_ l0_54) (ho0_55 : Kd.R (Kd.int .u8) 5 w w0.heap.size P0_55_ u9055_ l0_55) (hp0_23_0_5 : ∀ k_, P0_23_ k_ → ¬ P0_5_ k_) (hp0_24_0_5 : ∀ k_, P0_24_ k_ → ¬ P0_5_ k_) (hp0_39_0_5 : ∀ k_, P0_39_ k_ → ¬ P0_5_ k_) (hp0_40_0_5 : ∀ k_, P0_40_ k_ → ¬ P0_5_ k_) (hp0_53_0_5 : ∀ k_, P0_53_ k_ → ¬ P0_5_ k_) (hp0_54_0_5 : ∀ k_, P0_54_ k_ → ¬ P0_5_ k_) (hp0_55_0_5 : ∀ k_, P0_55_ k_ → ¬ P0_5_ k_) (hp0_24_0_23 : ∀ k_, P0_24_ k_ → ¬ P0_23_ k_) (hp0_39_0_23 : ∀ k_, P0_39_ k_ → ¬ P0_23_ k_) (hp0_40_0_23 : ∀ k_, P0_40_ k_ → ¬ P0_23_ k_) (hp0_53_0_23 : ∀ k_, P0_53_ k_ → ¬ P0_23_ k_) (hp0_54_0_23 : ∀ k_, P0_54_ k_ → ¬ P0_23_ k_) (hp0_55_0_23 : ∀ k_, P0_55_ k_ → ¬ P0_23_ k_) (hp0_39_0_24 : ∀ k_, P0_39_ k_ → ¬ P0_24_ k_) (hp0_40_0_24 : ∀ k_, P0_40_ k_ → ¬ P0_24_ k_) (hp0_53_0_24 : ∀ k_, P0_53_ k_ → ¬ P0_24_ k_) (hp0_54_0_24 : ∀ k_, P0_54_ k_ → ¬ P0_24_ k_) (hp0_55_0_24 : ∀ k_, P0_55_ k_ → ¬ P0_24_ k_) (hp0_40_0_39 : ∀ k_, P0_40_ k_ → ¬ P0_39_ k_) (hp0_53_0_39 : ∀ k_, P0_53_ k_ → ¬ P0_39_ k_) (hp0_54_0_39 : ∀ k_, P0_54_ k_ → ¬ P0_39_ k_) (hp0_55_0_39 : ∀ k_, P0_55_ k_ → ¬ P0_39_ k_) (hp0_53_0_40 : ∀ k_, P0_53_ k_ → ¬ P0_40_ k_) (hp0_54_0_40 : ∀ k_, P0_54_ k_ → ¬ P0_40_ k_) (hp0_55_0_40 : ∀ k_, P0_55_ k_ → ¬ P0_40_ k_) (hp0_54_0_53 : ∀ k_, P0_54_ k_ → ¬ P0_53_ k_) (hp0_55_0_53 : ∀ k_, P0_55_ k_ → ¬ P0_53_ k_) (hp0_55_0_54 : ∀ k_, P0_55_ k_ → ¬ P0_54_ k_) (h : laws_markPacket.f k a0_0 a0_1 a0_2 a0_3 a0_4 l0_5 a0_6 a0_7 a0_8 a0_9 a0_10 a0_11 a0_12 a0_13 a0_14 a0_15 a0_16 a0_17 a0_18 a0_19 a0_20 a0_21 a0_22 l0_23 l0_24 a0_25 a0_26 a0_27 a0_28 a0_29 a0_30 a0_31 a0_32 a0_33 a0_34 a0_35 a0_36 a0_37 a0_38 l0_39 l0_40 a0_41 a0_42 a0_43 a0_44 a0_45 a0_46 a0_47 a0_48 a0_49 a0_50 a0_51 a0_52 l0_53 l0_54 l0_55 a1 = some r) :
  Calls Tryz.prog 14 #[.agg #[.int .i64 a0_0, .int .i64 a0_1, .int .i64 a0_2, .int .i64 a0_3, .int .i64 a0_4, u9005_, .int .i64 a0_6, .int .i64 a0_7, .int .i64 a0_8, .int .i64 a0_9, .int .i64 a0_10, .int .i64 a0_11, .int .i64 a0_12, .int .i64 a0_13, .int .i64 a0_14, .int .i64 a0_15, .int .i64 a0_16, .int .i64 a0_17, .int .i64 a0_18, .int .i64 a0_19, .int .i64 a0_20, .int .i64 a0_21, .int .i64 a0_22, u9023_, u9024_, .int .i64 a0_25, .int .i64 a0_26, .int .i64 a0_27, .int .i64 a0_28, .int .i64 a0_29, .int .i64 a0_30, .int .i64 a0_31, .int .i64 a0_32, .int .i64 a0_33, .int .i64 a0_34, .int .i64 a0_35, .int .i64 a0_36, .int .i64 a0_37, .int .i64 a0_38, u9039_, u9040_, .int .i64 a0_41, .int .i64 a0_42, .int .i64 a0_43, .int .i64 a0_44, .int .i64 a0_45, .int .i64 a0_46, .int .i64 a0_47, .int .i64 a0_48, .int .i64 a0_49, .int .i64 a0_50, .int .i64 a0_51, .bool a0_52, u9053_, u9054_, u9055_], .int .i64 a1] w fun e w' => e = .returned (.int .i64 r) ∧ Below w0.heap.size w0 w' ∧ Kept w w' (fun k_ => P0_5_ k_ ∨ P0_23_ k_ ∨ P0_24_ k_ ∨ P0_39_ k_ ∨ P0_40_ k_ ∨ P0_53_ k_ ∨ P0_54_ k_ ∨ P0_55_ k_) := by
 obtain ⟨AA5_, cc5_, rfl⟩ := Kd.R_slice ho0_5
 obtain ⟨AA23_, cc23_, rfl⟩ := Kd.R_slice ho0_23
 obtain ⟨AA24_, cc24_, rfl⟩ := Kd.R_slice ho0_24
 obtain ⟨AA39_, cc39_, rfl⟩ := Kd.S_slice ho0_39
 obtain ⟨AA40_, cc40_, rfl⟩ := Kd.R_slice ho0_40
 obtain ⟨AA53_, cc53_, rfl⟩ := Kd.R_slice ho0_53
 obtain ⟨AA54_, cc54_, rfl⟩ := Kd.R_slice ho0_54
 obtain ⟨AA55_, cc55_, rfl⟩ := Kd.R_slice ho0_55
 have hu47 := Tryz.underlying47
 unfold laws_markPacket.f at h
 obtain ⟨⟨_, _⟩, A1_, h⟩ := Option.bind_eq_some_iff.mp h
 dsimp only at h
 obtain ⟨⟨_, _, _⟩, A2_, h⟩ := Option.bind_eq_some_iff.mp h
 dsimp only at h
 obtain ⟨⟨_, _, _⟩, A3_, h⟩ := Option.bind_eq_some_iff.mp h
 dsimp only at h
 obtain ⟨⟨_, _, _⟩, A4_, h⟩ := Option.bind_eq_some_iff.mp h
 dsimp only at h
 obtain ⟨⟨_, _⟩, A5_, h⟩ := Option.bind_eq_some_iff.mp h
 dsimp only at h
 obtain rfl := Option.some.inj h
 have HF := Fr.start [47] w
 go_enter Tryz.func14, Tryz.ntmps14
 repeat' (first
   | ((with_reducible refine gA 0 ?_) <;> (refine HF.bA ?_; clear HF; intro g_ w_ HF; refine nA ?_; have K_ := Kept.of_below HF.below (fun k_ => P0_5_ k_ ∨ P0_23_ k_ ∨ P0_24_ k_ ∨ P0_39_ k_ ∨ P0_40_ k_ ∨ P0_53_ k_ ∨ P0_54_ k_ ∨ P0_55_ k_); have r5_ := R_moved ho0_5 (T := [47]) (.below HF.below) (by decide); have r23_ := R_moved ho0_23 (T := [47]) (.below HF.below) (by decide); have r24_ := R_moved ho0_24 (T := [47]) (.below HF.below) (by decide); have r39_ := S_moved ho0_39 (T := [47]) (.below HF.below) (by decide); have r40_ := R_moved ho0_40 (T := [47]) (.below HF.below) (by decide); have r53_ := R_moved ho0_53 (T := [47]) (.below HF.below) (by decide); have r54_ := R_moved ho0_54 (T := [47]) (.below HF.below) (by decide); have r55_ := R_moved ho0_55 (T := [47]) (.below HF.below) (by decide); replace HF := HF.rebase hB) <;> (refine sA ?_) <;> (apply lend))
   | ((with_reducible refine gA 1 ?_) <;> (iterate 3 refine sA ?_) <;> (have r5t_ := R_tight r5_; apply cA Tryz.func38 (by kernel_rfl) rfl rfl rfl rfl; apply laws_markEther.calls (w0 := w0) (hB := HF.below) (ho0_4 := r5t_) (h := A1_); rintro e W1_ ⟨rfl, -, b_, k_⟩; refine ⟨_, rfl, ?_⟩; replace r23_ := Kd.R_kept r23_ k_ (fun q_ h1_ h2_ => hp0_23_0_5 q_ h1_ (ho0_5.1 q_ h2_)); replace r24_ := Kd.R_kept r24_ k_ (fun q_ h1_ h2_ => hp0_24_0_5 q_ h1_ (ho0_5.1 q_ h2_)); replace r39_ := Kd.S_kept r39_ k_ (fun q_ h1_ h2_ => hp0_39_0_5 q_ h1_ (ho0_5.1 q_ h2_)); replace r40_ := Kd.R_kept r40_ k_ (fun q_ h1_ h2_ => hp0_40_0_5 q_ h1_ (ho0_5.1 q_ h2_)); replace r53_ := Kd.R_kept r53_ k_ (fun q_ h1_ h2_ => hp0_53_0_5 q_ h1_ (ho0_5.1 q_ h2_)); replace r54_ := Kd.R_kept r54_ k_ (fun q_ h1_ h2_ => hp0_54_0_5 q_ h1_ (ho0_5.1 q_ h2_)); replace r55_ := Kd.R_kept r55_ k_ (fun q_ h1_ h2_ => hp0_55_0_5 q_ h1_ (ho0_5.1 q_ h2_)); replace K_ := K_.then_ k_ (fun q_ h2_ => .inl ((.inl (ho0_5.1 q_ h2_)))); replace HF := HF.kept b_ k_ (fun q_ h2_ => R_type r5t_ q_ h2_) (by decide); clear b_ k_ r5t_; rotate_left; exact hA; refine nA ?_) <;> (refine sA ?_) <;> (apply lend))
   | ((with_reducible refine gA 2 ?_) <;> (iterate 3 refine sA ?_) <;> (have r23t_ := R_tight r23_; have r24t_ := R_tight r24_; apply cA Tryz.func39 (by kernel_rfl) rfl rfl rfl rfl; apply laws_markFour.calls (w0 := w0) (hB := HF.below) (ho0_17 := r23t_) (ho0_18 := r24t_) (hp0_17_0_18 := fun q_ h1_ h2_ => hp0_24_0_23 q_ (ho0_24.1 q_ h2_) (ho0_23.1 q_ h1_)) (hp0_18_0_17 := fun q_ h1_ h2_ => hp0_24_0_23 q_ (ho0_24.1 q_ h1_) (ho0_23.1 q_ h2_)) (h := A2_); rintro e W1_ ⟨rfl, -, -, b_, k_⟩; refine ⟨_, rfl, ?_⟩; replace r39_ := Kd.S_kept r39_ k_ (fun q_ h1_ h2_ => h2_.elim (fun h2_ => hp0_39_0_23 q_ h1_ (ho0_23.1 q_ h2_)) (fun h2_ => hp0_39_0_24 q_ h1_ (ho0_24.1 q_ h2_))); replace r40_ := Kd.R_kept r40_ k_ (fun q_ h1_ h2_ => h2_.elim (fun h2_ => hp0_40_0_23 q_ h1_ (ho0_23.1 q_ h2_)) (fun h2_ => hp0_40_0_24 q_ h1_ (ho0_24.1 q_ h2_))); replace r53_ := Kd.R_kept r53_ k_ (fun q_ h1_ h2_ => h2_.elim (fun h2_ => hp0_53_0_23 q_ h1_ (ho0_23.1 q_ h2_)) (fun h2_ => hp0_53_0_24 q_ h1_ (ho0_24.1 q_ h2_))); replace r54_ := Kd.R_kept r54_ k_ (fun q_ h1_ h2_ => h2_.elim (fun h2_ => hp0_54_0_23 q_ h1_ (ho0_23.1 q_ h2_)) (fun h2_ => hp0_54_0_24 q_ h1_ (ho0_24.1 q_ h2_))); replace r55_ := Kd.R_kept r55_ k_ (fun q_ h1_ h2_ => h2_.elim (fun h2_ => hp0_55_0_23 q_ h1_ (ho0_23.1 q_ h2_)) (fun h2_ => hp0_55_0_24 q_ h1_ (ho0_24.1 q_ h2_))); replace K_ := K_.then_ k_ (fun q_ h2_ => .inl (h2_.elim (fun h2_ => (.inr (.inl (ho0_23.1 q_ h2_)))) (fun h2_ => (.inr (.inr (.inl (ho0_24.1 q_ h2_))))))); replace HF := HF.kept b_ k_ (fun q_ h2_ => h2_.elim (fun h2_ => R_type r23t_ q_ h2_) (fun h2_ => R_type r24t_ q_ h2_)) (by decide); clear b_ k_ r23t_ r24t_; rotate_left; exact hA; refine nA ?_) <;> (refine sA ?_) <;> (apply lend))
   | ((with_reducible refine gA 3 ?_) <;> (iterate 3 refine sA ?_) <;> (have r39t_ := S_told_ r39_; have r40t_ := R_tight r40_; apply cA Tryz.func40 (by kernel_rfl) rfl rfl rfl rfl; apply laws_markSix.calls (w0 := w0) (hB := HF.below) (ho0_14 := r39t_) (ho0_15 := r40t_) (hp0_14_0_15 := fun q_ h1_ h2_ => hp0_40_0_39 q_ (ho0_40.1 q_ h2_) h1_.1) (hp0_15_0_14 := fun q_ h1_ h2_ => hp0_40_0_39 q_ (ho0_40.1 q_ h1_) h2_.1) (h := A3_); rintro e W1_ ⟨rfl, -, -, b_, k_⟩; refine ⟨_, rfl, ?_⟩; replace r53_ := Kd.R_kept r53_ k_ (fun q_ h1_ h2_ => h2_.elim (fun h2_ => hp0_53_0_39 q_ h1_ h2_.1) (fun h2_ => hp0_53_0_40 q_ h1_ (ho0_40.1 q_ h2_))); replace r54_ := Kd.R_kept r54_ k_ (fun q_ h1_ h2_ => h2_.elim (fun h2_ => hp0_54_0_39 q_ h1_ h2_.1) (fun h2_ => hp0_54_0_40 q_ h1_ (ho0_40.1 q_ h2_))); replace r55_ := Kd.R_kept r55_ k_ (fun q_ h1_ h2_ => h2_.elim (fun h2_ => hp0_55_0_39 q_ h1_ h2_.1) (fun h2_ => hp0_55_0_40 q_ h1_ (ho0_40.1 q_ h2_))); replace K_ := K_.then_ k_ (fun q_ h2_ => .inl (h2_.elim (fun h2_ => (.inr (.inr (.inr (.inl h2_.1))))) (fun h2_ => (.inr (.inr (.inr (.inr (.inl (ho0_40.1 q_ h2_))))))))); replace HF := HF.keptS b_ k_ (fun q_ h2_ => h2_.elim (fun h2_ => Told.type h2_ (by decide)) (fun h2_ => by obtain ⟨cs_, hc_⟩ := R_type r40t_ q_ h2_; exact ⟨_, cs_, hc_, by decide⟩)); clear b_ k_ r39t_ r40t_; rotate_left; exact hA; refine nA ?_) <;> (refine sA ?_) <;> (apply lend))
   | ((with_reducible refine gA 4 ?_) <;> (iterate 3 refine sA ?_) <;> (have r53t_ := R_tight r53_; have r54t_ := R_tight r54_; apply cA Tryz.func41 (by kernel_rfl) rfl rfl rfl rfl; apply laws_markUpper.calls (w0 := w0) (hB := HF.below) (ho0_12 := r53t_) (ho0_13 := r54t_) (hp0_12_0_13 := fun q_ h1_ h2_ => hp0_54_0_53 q_ (ho0_54.1 q_ h2_) (ho0_53.1 q_ h1_)) (hp0_13_0_12 := fun q_ h1_ h2_ => hp0_54_0_53 q_ (ho0_54.1 q_ h1_) (ho0_53.1 q_ h2_)) (h := A4_); rintro e W1_ ⟨rfl, -, -, b_, k_⟩; refine ⟨_, rfl, ?_⟩; replace r55_ := Kd.R_kept r55_ k_ (fun q_ h1_ h2_ => h2_.elim (fun h2_ => hp0_55_0_53 q_ h1_ (ho0_53.1 q_ h2_)) (fun h2_ => hp0_55_0_54 q_ h1_ (ho0_54.1 q_ h2_))); replace K_ := K_.then_ k_ (fun q_ h2_ => .inl (h2_.elim (fun h2_ => (.inr (.inr (.inr (.inr (.inr (.inl (ho0_53.1 q_ h2_)))))))) (fun h2_ => (.inr (.inr (.inr (.inr (.inr (.inr (.inl (ho0_54.1 q_ h2_))))))))))); replace HF := HF.kept b_ k_ (fun q_ h2_ => h2_.elim (fun h2_ => R_type r53t_ q_ h2_) (fun h2_ => R_type r54t_ q_ h2_)) (by decide); clear b_ k_ r53t_ r54t_; rotate_left; exact hA; refine nA ?_) <;> (refine sA ?_) <;> (apply lend))
   | ((with_reducible refine gA 5 ?_) <;> (iterate 3 refine sA ?_) <;> (have r55t_ := R_tight r55_; apply cA Tryz.func15 (by kernel_rfl) rfl rfl rfl rfl; apply laws_markByteS.calls (w0 := w0) (hB := HF.below) (ho0 := r55t_) (h := A5_); rintro e W1_ ⟨rfl, -, b_, k_⟩; refine ⟨_, rfl, ?_⟩; replace K_ := K_.then_ k_ (fun q_ h2_ => .inl ((.inr (.inr (.inr (.inr (.inr (.inr (.inr (ho0_55.1 q_ h2_)))))))))); replace HF := HF.kept b_ k_ (fun q_ h2_ => R_type r55t_ q_ h2_) (by decide); clear b_ k_ r55t_; rotate_left; exact hA; refine nA ?_) <;> (refine sA ?_) <;> (apply lend))
   | ((with_reducible refine gA 6 ?_) <;> (iterate 2 refine sA ?_) <;> (apply lend))
   | go_step | fail)
 go_ret
 exact ⟨rfl, HF.below, K_⟩


/-! ### laws_heldByteS: function 16 -/
def laws_heldByteS.l0 : Nat → List Int → Int → Int → Option (Int)
 | 0, _, _, _ => none
 | k + 1, x0, x1, x5 => if x5 < (x0.length : Int) then (if 0 ≤ x5 then (if (rd x0 x5) = ((x1) % 256) then (laws_heldByteS.l0 k x0 (wrap64 (x1 + 1)) (wrap64 (x5 + 1))) else (some (-1))) else (none)) else (some x1)
def laws_heldByteS.f (k : Nat) (l0 : List Int) (a1 : Int) : Option (Int) := laws_heldByteS.l0 k l0 a1 0
theorem laws_heldByteS.calls (k : Nat) (A0 : Option Addr) (c0 : Nat) (l0 : List Int) (a1 r : Int) (w : World) (hr0 : Kd.C (Kd.int .u8) w A0 l0.length l0) (hc0 : l0.length ≤ c0) (h : laws_heldByteS.f k l0 a1 = some r) :
  Calls Tryz.prog 16 #[.slice A0 l0.length c0, .int .i64 a1] w fun e w' => e = .returned (.int .i64 r) ∧ Drawn0 w w' := by
 have HR0 := Aside0.mk hr0
 have HC0 := Aside0.mk hc0
 clear hr0 hc0
 have H : (laws_heldByteS.l0 k l0 a1 0) = some r := h
 clear h
 have H' := Aside0.mk H
 clear H
 go_enter Tryz.func16, Tryz.ntmps16
 go_wp2
 go_loopg [1, 5] k (fun kq v1 v5 w' => ∃ (x1_1 : Int) (x5_1 : Int), v1 = .int .i64 x1_1 ∧ v5 = .int .i64 x5_1 ∧ Aside0 (laws_heldByteS.l0 kq l0 x1_1 x5_1 = some r) ∧ Aside0 (kq ≤ k) ∧ Drawn0 w w')
 case atStart => exact ⟨(a1), (0), (by rfl), (by rfl), H', ⟨Nat.le_refl _⟩, by repeat (exact Drawn0.refl _)⟩
 case round =>
  clear H'
  try clear c1
  try clear p2
  obtain ⟨x1_1, x5_1, rfl, rfl, HA, HK1, ⟨m1, rfl⟩⟩ := hrel
  cases gk with
  | zero => exact absurd HA.out (by simp [laws_heldByteS.l0])
  | succ k1 =>
   have H := HA.out
   clear HA
   simp only [laws_heldByteS.l0] at H
   by_cases c3 : x5_1 < (l0.length : Int)
   ·rw [if_pos c3] at H
    have c3b0 : decide (x5_1 < (l0.length : Int)) = true := decide_eq_true c3
    clear c3
    by_cases c4 : 0 ≤ x5_1
    ·rw [if_pos c4] at H
     have c4b0 : decide (0 ≤ x5_1) = true := decide_eq_true c4
     clear c4
     by_cases c5 : (rd l0 x5_1) = ((x1_1) % 256)
     ·rw [if_pos c5] at H
      have c5b0 : ((rd l0 x5_1) == ((x1_1) % 256)) = true := beq_iff_eq.mpr c5
      have c5b1 : ((rd l0 x5_1) != ((x1_1) % 256)) = false := bne_eq_false_iff_eq.mpr c5
      clear c5
      have H' := Aside0.mk H
      clear H
      have p1232 : 0 ≤ (x5_1 : Int) := of_decide_eq_true (by (with_reducible assumption))
      have q1232 : x5_1 < (l0.length : Int) := of_decide_eq_true (by (with_reducible assumption))
      obtain ⟨ad1232, e1232, hx1232_0⟩ := Kd.at_int HR0.out x5_1 p1232 q1232
      cases e1232
      replace p1232 := eq_true p1232
      replace q1232 := eq_true q1232
      go_wp2
      go_roundg k1
      case measure => have := HK1.out; omega
      case rel => exact ⟨(wrap64 (x1_1 + 1)), (wrap64 (x5_1 + 1)), (by rfl), (by rfl), H', ⟨by have := HK1.out; omega⟩, by repeat (first | exact Drawn0.refl _ | apply Drawn0.step)⟩
     ·rw [if_neg c5] at H
      have c5b0 : ((rd l0 x5_1) == ((x1_1) % 256)) = false := beq_eq_false_iff_ne.mpr c5
      have c5b1 : ((rd l0 x5_1) != ((x1_1) % 256)) = true := bne_iff_ne.mpr c5
      obtain rfl := Option.some.inj H
      have p1232 : 0 ≤ (x5_1 : Int) := of_decide_eq_true (by (with_reducible assumption))
      have q1232 : x5_1 < (l0.length : Int) := of_decide_eq_true (by (with_reducible assumption))
      obtain ⟨ad1232, e1232, hx1232_0⟩ := Kd.at_int HR0.out x5_1 p1232 q1232
      cases e1232
      replace p1232 := eq_true p1232
      replace q1232 := eq_true q1232
      go_wp2
      go_ret
      exact ⟨vF, vD⟩
    ·rw [if_neg c4] at H
     exact absurd H (by simp)
   ·rw [if_neg c3] at H
    have c3b0 : decide (x5_1 < (l0.length : Int)) = false := decide_eq_false c3
    clear c3
    obtain rfl := Option.some.inj H
    go_wp2
    go_ret
    exact ⟨vF, vD⟩

end Go.Proofs.YtffkgndghbdgnaaGreat.FFnExactPacketBytes
