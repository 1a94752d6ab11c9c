-- Functions and their contracts, written by a program of this claim (wip/tools/oprint.py) out of the translation.
import Derived.Test.YtffkgndghbdgnaaGreatGFnExactPacketSizex12
namespace Go.Proofs.YtffkgndghbdgnaaGreat.FFnExactPacketSize
open Go.RowKit Go.Proofs.YtffkgndghbdgnaaGreatW.PrintWords Go.Proofs.YtffkgndghbdgnaaGreatW.PrintLast Go.Proofs.YtffkgndghbdgnaaGreatW.PrintMore Go.Proofs.YtffkgndghbdgnaaGreat.Frame
attribute [local go_sem] max2_int min2_int max_two min_two max_three min_three max_four min_four   -- for this text's walks alone
set_option linter.unusedVariables false
set_option maxHeartbeats 8000000
set_option maxRecDepth 100000
set_option linter.unusedSimpArgs false

/-! ### spec_ExtsSize: function 101 -/
def spec_ExtsSize.l0 : Nat → Int → Int → Int → Int → Int → Int → Int → Int → Int → Int → Int → Int → Int → Int → Int → Int → List (S102) → List Int → Option (Int)
 | 0, _, _, _, _, _, _, _, _, _, _, _, _, _, _, _, _, _, _ => none
 | k + 1, x3, x4, x458000, x458001, x458002, x458003, x458004, x458005, x458006, x458007, x458008, x458009, x458010, x458011, x458012, x458013, x458014, x458015 => if x4 < (x458014.length : Int) then (if 0 ≤ x4 then (spec_ExtsSize.l0 k (wrap64 ((wrap64 (x3 + 2)) + (((rd_T102 x458014 x4).f1).length : Int))) (wrap64 (x4 + 1)) x458000 x458001 x458002 x458003 x458004 x458005 x458006 x458007 x458008 x458009 x458010 x458011 x458012 x458013 x458014 x458015) else (none)) else (some x3)
def spec_ExtsSize.f (k : Nat) (a0_0 a0_1 : Int) (a0_2 a0_3 : Int) (a0_4 a0_5 : Int) (a0_6 a0_7 : Int) (a0_8 a0_9 : Int) (a0_10 a0_11 : Int) (a0_12 a0_13 : Int) (l0_14 : List (S102)) (l0_15 : List Int) : Option (Int) := (spec_SixOk.f k a0_0 a0_1 a0_2 a0_3 a0_4 a0_5 a0_6 a0_7 a0_8 a0_9 a0_10 a0_11 a0_12 a0_13 l0_14 l0_15).bind fun t458 => (if t458 = true then (spec_ExtsSize.l0 k 0 0 a0_0 a0_1 a0_2 a0_3 a0_4 a0_5 a0_6 a0_7 a0_8 a0_9 a0_10 a0_11 a0_12 a0_13 l0_14 l0_15) else (some (-1)))
theorem spec_ExtsSize.calls (k : Nat) (a0_0 a0_1 : Int) (a0_2 a0_3 : Int) (a0_4 a0_5 : Int) (a0_6 a0_7 : Int) (a0_8 a0_9 : Int) (a0_10 a0_11 : Int) (a0_12 a0_13 : Int) (A0_14 : Option Addr) (c0_14 : Nat) (l0_14 : List (S102)) (A0_15 : Option Addr) (c0_15 : Nat) (l0_15 : List Int) (r : Int) (w : World) (hr0_14 : Kd.C k102 w A0_14 l0_14.length l0_14) (hc0_14 : l0_14.length ≤ c0_14) (hr0_15 : Kd.C (Kd.int .u8) w A0_15 l0_15.length l0_15) (hc0_15 : l0_15.length ≤ c0_15) (h : spec_ExtsSize.f k a0_0 a0_1 a0_2 a0_3 a0_4 a0_5 a0_6 a0_7 a0_8 a0_9 a0_10 a0_11 a0_12 a0_13 l0_14 l0_15 = some r) :
  Calls Tryz.prog 101 #[.agg #[.int .i64 a0_0, .int .i64 a0_1, .int .i64 a0_2, .int .i64 a0_3, .int .i64 a0_4, .int .i64 a0_5, .int .i64 a0_6, .int .i64 a0_7, .int .i64 a0_8, .int .i64 a0_9, .int .i64 a0_10, .int .i64 a0_11, .int .i64 a0_12, .int .i64 a0_13, .slice A0_14 l0_14.length c0_14, .slice A0_15 l0_15.length c0_15]] w fun e w' => e = .returned (.int .i64 r) ∧ Below w.heap.size w w' := by
 have hu22 := Tryz.underlying22
 have hu42 := Tryz.underlying42
 have hu44 := Tryz.underlying44
 have hu102 := Tryz.underlying102
 have z102_ : (Tryz.prog.info? 102).map (·.size) = some 2 := by kernel_rfl
 have O22_ : IsOne Tryz.prog 22 := ⟨⟨_, Tryz.underlying22, rfl⟩, by kernel_rfl⟩
 have HR0_14 := Aside0.mk hr0_14
 have HC0_14 := Aside0.mk hc0_14
 have HR0_15 := Aside0.mk hr0_15
 have HC0_15 := Aside0.mk hc0_15
 clear hr0_14 hc0_14 hr0_15 hc0_15
 have HF := Fr.start [44] w
 have HP := Aside0.mk True.intro
 unfold spec_ExtsSize.f at h
 have HH := Aside0.mk h
 clear h
 go_enter Tryz.func101, Tryz.ntmps101
 repeat' (with_reducible first | exact xE HH | (replace HH := iA HP HH; clear HP; rcases HH with ⟨p, HP, HH⟩ | ⟨p, HP, HH⟩ <;> first | subst p | cases p | skip) | fail)
 all_goals (repeat' (first
    | ((with_reducible refine gA 0 ?_) <;> (refine HF.bA ?_; clear HF; intro g_ w_ HF; refine nA ?_) <;> (refine sA ?_) <;> (apply lend))
    | ((with_reducible refine gA 1 ?_) <;> (refine sA ?_) <;> ((replace HH := bA HH); obtain ⟨_, A6_, HH⟩ := HH; (try dsimp only at HH)) <;> (repeat' (with_reducible first | exact xE HH | (replace HH := iA HP HH; clear HP; rcases HH with ⟨p, HP, HH⟩ | ⟨p, HP, HH⟩ <;> first | subst p | cases p | skip) | fail)) <;> (refine HF.cB Tryz.func63 (by (with_reducible apply spec_SixOk.calls (h := A6_.out)) <;> exact gP) ?_; clear HF A6_; intro w_ HF) <;> (refine sA ?_) <;> (apply lend))
    | ((with_reducible refine gA 2 ?_) <;> (refine sA ?_) <;> (apply lend))
    | ((with_reducible refine gA 3 ?_) <;> (refine sA ?_) <;> (apply lend))
    | ((with_reducible refine gA 4 ?_) <;> (refine sA ?_) <;> (apply lend))
    | ((with_reducible refine gA 5 ?_) <;> (iterate 5 refine sA ?_) <;> (apply lend))
    | ((with_reducible refine gA 7 ?_) <;> (iterate 5 refine sA ?_) <;> (obtain ⟨ad20_, Ax20_, cx20_, ea_, x20_0_, x20_1_, lx_, hx_⟩ := at_T102 HR0_14.out x4_ bN bN; have X20_0 := Aside0.mk x20_0_; have X20_1 := Aside0.mk x20_1_; have LX20 := Aside0.mk lx_; have CX20 := Aside0.mk hx_; have EA20 := Aside0.mk ea_; clear lx_ hx_ ea_ x20_0_ x20_1_; (apply lpure rfl rfl; (exact run_idxn rfl rfl rfl hu42 z102_ EA20.out bN bN); (simp only [Act.put, List.setIfInBounds_toArray, List.set_cons_zero, List.set_cons_succ, i64_w, i32_w, u8_wr, tmod_nat, Int.reduceToNat]; rfl))) <;> (refine sA ?_) <;> (apply lelt rfl rfl; exact run_cell rfl rfl O22_ X20_1.out HF.below; (simp only [Act.put, List.setIfInBounds_toArray, List.set_cons_zero, List.set_cons_succ, i64_w, i32_w, u8_wr, tmod_nat, Int.reduceToNat]; rfl)) <;> (iterate 3 refine sA ?_) <;> (apply lend))
    | ((with_reducible refine gA 6 ?_) <;> (iterate 3 refine sA ?_) <;> (apply lend))
    | ((with_reducible refine gA 8 ?_) <;> (iterate 2 refine sA ?_) <;> (apply lend))
    | go_step | fail))
 all_goals (first
  | (have h_ := HH.out; clear HH; cases h_ <;> (go_ret; first
   | exact ⟨vE, HF.below⟩))
  | (obtain ⟨LV_, HF, EL_⟩ := Fr_name HF; go_loopg [3, 4] k (fun kq_ v3_ v4_ w_ => ∃ (x3_ : Int) (x4_ : Int), v3_ = .int .i64 x3_ ∧ v4_ = .int .i64 x4_ ∧ Aside0 (spec_ExtsSize.l0 kq_ x3_ x4_ a0_0 a0_1 a0_2 a0_3 a0_4 a0_5 a0_6 a0_7 a0_8 a0_9 a0_10 a0_11 a0_12 a0_13 l0_14 l0_15 = some r) ∧ Aside0 (kq_ ≤ k) ∧ Fr [44] w w_ LV_ [w_]) <;> first
   | (exact ⟨_, _, rfl, rfl, HH, ⟨Nat.le_refl _⟩, Fr_now HF⟩)
   | ((try clear HH); (try clear HF); obtain ⟨x3_, x4_, rfl, rfl, HH, HK_, HF⟩ := hrel; (rcases gk with _ | gk_); exact absurd HH.out (by simp [spec_ExtsSize.l0]); (rw [EL_.out] at HF); have h_ := HH.out; clear HH; simp only [spec_ExtsSize.l0] at h_; have HH := Aside0.mk h_; clear h_)))
 all_goals (repeat' (with_reducible first | exact xE HH | (replace HH := iA HP HH; clear HP; rcases HH with ⟨p, HP, HH⟩ | ⟨p, HP, HH⟩ <;> first | subst p | cases p | skip) | fail))
 all_goals (repeat' (first
    | ((with_reducible refine gA 0 ?_) <;> (refine HF.bA ?_; clear HF; intro g_ w_ HF; refine nA ?_) <;> (refine sA ?_) <;> (apply lend))
    | ((with_reducible refine gA 1 ?_) <;> (refine sA ?_) <;> ((replace HH := bA HH); obtain ⟨_, A6_, HH⟩ := HH; (try dsimp only at HH)) <;> (repeat' (with_reducible first | exact xE HH | (replace HH := iA HP HH; clear HP; rcases HH with ⟨p, HP, HH⟩ | ⟨p, HP, HH⟩ <;> first | subst p | cases p | skip) | fail)) <;> (refine HF.cB Tryz.func63 (by (with_reducible apply spec_SixOk.calls (h := A6_.out)) <;> exact gP) ?_; clear HF A6_; intro w_ HF) <;> (refine sA ?_) <;> (apply lend))
    | ((with_reducible refine gA 2 ?_) <;> (refine sA ?_) <;> (apply lend))
    | ((with_reducible refine gA 3 ?_) <;> (refine sA ?_) <;> (apply lend))
    | ((with_reducible refine gA 4 ?_) <;> (refine sA ?_) <;> (apply lend))
    | ((with_reducible refine gA 5 ?_) <;> (iterate 5 refine sA ?_) <;> (apply lend))
    | ((with_reducible refine gA 7 ?_) <;> (iterate 5 refine sA ?_) <;> (obtain ⟨ad20_, Ax20_, cx20_, ea_, x20_0_, x20_1_, lx_, hx_⟩ := at_T102 HR0_14.out x4_ bN bN; have X20_0 := Aside0.mk x20_0_; have X20_1 := Aside0.mk x20_1_; have LX20 := Aside0.mk lx_; have CX20 := Aside0.mk hx_; have EA20 := Aside0.mk ea_; clear lx_ hx_ ea_ x20_0_ x20_1_; (apply lpure rfl rfl; (exact run_idxn rfl rfl rfl hu42 z102_ EA20.out bN bN); (simp only [Act.put, List.setIfInBounds_toArray, List.set_cons_zero, List.set_cons_succ, i64_w, i32_w, u8_wr, tmod_nat, Int.reduceToNat]; rfl))) <;> (refine sA ?_) <;> (apply lelt rfl rfl; exact run_cell rfl rfl O22_ X20_1.out HF.below; (simp only [Act.put, List.setIfInBounds_toArray, List.set_cons_zero, List.set_cons_succ, i64_w, i32_w, u8_wr, tmod_nat, Int.reduceToNat]; rfl)) <;> (iterate 3 refine sA ?_) <;> (apply lend))
    | ((with_reducible refine gA 6 ?_) <;> (iterate 3 refine sA ?_) <;> (apply lend))
    | ((with_reducible refine gA 8 ?_) <;> (iterate 2 refine sA ?_) <;> (apply lend))
    | go_step | fail))
 all_goals (first
  | (have h_ := HH.out; clear HH; cases h_ <;> (go_ret; first
   | exact ⟨vE, HF.below⟩))
  | (go_roundg gk_; (case measure => have := HK_.out; omega); (case rel => exact ⟨_, _, rfl, rfl, HH, ⟨by have := HK_.out; omega⟩, Fr_now (HF.part (by rw [EL_.out]; repeat (first | exact List.Sublist.slnil | apply List.Sublist.cons_cons | apply List.Sublist.cons)) (fun _ h_ => h_))⟩)))

/-! ### spec_l06Next: function 102 -/
def spec_l06Next.f (a0_0 a0_1 : Int) (a0_2 a0_3 : Int) (a0_4 a0_5 : Int) (a0_6 a0_7 : Int) (a0_8 a0_9 : Int) (a0_10 a0_11 : Int) (a0_12 a0_13 : Int) (l0_14 : List (S102)) (l0_15 : List Int) (a1 : Int) : Option (Int) := if a1 < (l0_14.length : Int) then (if 0 ≤ a1 then (some (((rd_T102 l0_14 a1).f0) % 256)) else (none)) else (some ((a0_3) % 256))
theorem spec_l06Next.calls (a0_0 a0_1 : Int) (a0_2 a0_3 : Int) (a0_4 a0_5 : Int) (a0_6 a0_7 : Int) (a0_8 a0_9 : Int) (a0_10 a0_11 : Int) (a0_12 a0_13 : Int) (A0_14 : Option Addr) (c0_14 : Nat) (l0_14 : List (S102)) (A0_15 : Option Addr) (c0_15 : Nat) (l0_15 : List Int) (a1 r : Int) (w : World) (hr0_14 : Kd.C k102 w A0_14 l0_14.length l0_14) (hc0_14 : l0_14.length ≤ c0_14) (hr0_15 : Kd.C (Kd.int .u8) w A0_15 l0_15.length l0_15) (hc0_15 : l0_15.length ≤ c0_15) (h : spec_l06Next.f a0_0 a0_1 a0_2 a0_3 a0_4 a0_5 a0_6 a0_7 a0_8 a0_9 a0_10 a0_11 a0_12 a0_13 l0_14 l0_15 a1 = some r) :
  Calls Tryz.prog 102 #[.agg #[.int .i64 a0_0, .int .i64 a0_1, .int .i64 a0_2, .int .i64 a0_3, .int .i64 a0_4, .int .i64 a0_5, .int .i64 a0_6, .int .i64 a0_7, .int .i64 a0_8, .int .i64 a0_9, .int .i64 a0_10, .int .i64 a0_11, .int .i64 a0_12, .int .i64 a0_13, .slice A0_14 l0_14.length c0_14, .slice A0_15 l0_15.length c0_15], .int .i64 a1] w fun e w' => e = .returned (.int .u8 r) ∧ Below w.heap.size w w' := by
 have hu44 := Tryz.underlying44
 have HR0_14 := Aside0.mk hr0_14
 have HC0_14 := Aside0.mk hc0_14
 clear hr0_14 hc0_14
 have HR0_15 := Aside0.mk hr0_15
 have HC0_15 := Aside0.mk hc0_15
 clear hr0_15 hc0_15
 have HB := Aside0.mk (Below.refl w.heap.size w)
 have H : (if a1 < (l0_14.length : Int) then (if 0 ≤ a1 then (some (((rd_T102 l0_14 a1).f0) % 256)) else (none)) else (some ((a0_3) % 256))) = some r := h
 clear h
 by_cases c3 : a1 < (l0_14.length : Int)
 ·rw [if_pos c3] at H
  have c3b0 : decide (a1 < (l0_14.length : Int)) = true := decide_eq_true c3
  clear c3
  by_cases c4 : 0 ≤ a1
  ·rw [if_pos c4] at H
   have c4b0 : decide (0 ≤ a1) = true := decide_eq_true c4
   clear c4
   obtain rfl := Option.some.inj H
   go_enter Tryz.func102, Tryz.ntmps102
   go_wp2_with (first | ((with_reducible refine gate_dst (N := 2) rfl ?_); refine box_event ?hg (N := 2) ?hd (cs := #[.int .i64 a0_0, .int .i64 a0_1, .int .i64 a0_2, .int .i64 a0_3, .int .i64 a0_4, .int .i64 a0_5, .int .i64 a0_6, .int .i64 a0_7, .int .i64 a0_8, .int .i64 a0_9, .int .i64 a0_10, .int .i64 a0_11, .int .i64 a0_12, .int .i64 a0_13, .slice A0_14 l0_14.length c0_14, .slice A0_15 l0_15.length c0_15]) (t := 44) ?hr ?_; (case hd => rfl); (case hg => rfl); (case hr => first | (go_simp; done) | (go_simp; rfl)); intro gb460 hg w5 hbox hb; have n0_ := Aside0.mk (below_step (by repeat (first | (with_reducible first | exact HB.out | apply below_alloc | apply pw_below_drewN | apply below_drew1) | exact HB.out)) hb); have n1_ := Aside0.mk (hbox); have n2_ := Aside0.mk ((by rw [hg]; exact (below_size (by repeat (first | (with_reducible first | exact HB.out | apply below_alloc | apply pw_below_drewN | apply below_drew1) | exact HB.out))) : w.heap.size ≤ gb460)); have n3_ := Aside0.mk ((by rw [hg]; exact (below_size (by repeat (first | (with_reducible first | exact HB.out | apply below_alloc | apply pw_below_drewN | apply below_drew1) | exact HB.out))) : w.heap.size ≤ gb460)); clear HB; have HB := n0_; have BK460 := n1_; have GW460 := n2_; have GE460 := n3_; clear n0_ n1_ n2_ n3_; clear hb hbox hg; have hcz6_0 : w5.cell? ⟨gb460, 0, none⟩ = some (.int .i64 a0_0) := (blk_cell BK460.out 0).trans rfl; have hcz6_1 : w5.cell? ⟨gb460, 1, none⟩ = some (.int .i64 a0_1) := (blk_cell BK460.out 1).trans rfl; have hcz6_2 : w5.cell? ⟨gb460, 2, none⟩ = some (.int .i64 a0_2) := (blk_cell BK460.out 2).trans rfl; have hcz6_3 : w5.cell? ⟨gb460, 3, none⟩ = some (.int .i64 a0_3) := (blk_cell BK460.out 3).trans rfl; have hcz6_4 : w5.cell? ⟨gb460, 4, none⟩ = some (.int .i64 a0_4) := (blk_cell BK460.out 4).trans rfl; have hcz6_5 : w5.cell? ⟨gb460, 5, none⟩ = some (.int .i64 a0_5) := (blk_cell BK460.out 5).trans rfl; have hcz6_6 : w5.cell? ⟨gb460, 6, none⟩ = some (.int .i64 a0_6) := (blk_cell BK460.out 6).trans rfl; have hcz6_7 : w5.cell? ⟨gb460, 7, none⟩ = some (.int .i64 a0_7) := (blk_cell BK460.out 7).trans rfl; have hcz6_8 : w5.cell? ⟨gb460, 8, none⟩ = some (.int .i64 a0_8) := (blk_cell BK460.out 8).trans rfl; have hcz6_9 : w5.cell? ⟨gb460, 9, none⟩ = some (.int .i64 a0_9) := (blk_cell BK460.out 9).trans rfl; have hcz6_10 : w5.cell? ⟨gb460, 10, none⟩ = some (.int .i64 a0_10) := (blk_cell BK460.out 10).trans rfl; have hcz6_11 : w5.cell? ⟨gb460, 11, none⟩ = some (.int .i64 a0_11) := (blk_cell BK460.out 11).trans rfl; have hcz6_12 : w5.cell? ⟨gb460, 12, none⟩ = some (.int .i64 a0_12) := (blk_cell BK460.out 12).trans rfl; have hcz6_13 : w5.cell? ⟨gb460, 13, none⟩ = some (.int .i64 a0_13) := (blk_cell BK460.out 13).trans rfl; have hcz6_14 : w5.cell? ⟨gb460, 14, none⟩ = some (.slice A0_14 l0_14.length c0_14) := (blk_cell BK460.out 14).trans rfl; have hcz6_15 : w5.cell? ⟨gb460, 15, none⟩ = some (.slice A0_15 l0_15.length c0_15) := (blk_cell BK460.out 15).trans rfl; have hfz6_0 := blk_frozen BK460.out 0; have hfz6_1 := blk_frozen BK460.out 1; have hfz6_2 := blk_frozen BK460.out 2; have hfz6_3 := blk_frozen BK460.out 3; have hfz6_4 := blk_frozen BK460.out 4; have hfz6_5 := blk_frozen BK460.out 5; have hfz6_6 := blk_frozen BK460.out 6; have hfz6_7 := blk_frozen BK460.out 7; have hfz6_8 := blk_frozen BK460.out 8; have hfz6_9 := blk_frozen BK460.out 9; have hfz6_10 := blk_frozen BK460.out 10; have hfz6_11 := blk_frozen BK460.out 11; have hfz6_12 := blk_frozen BK460.out 12; have hfz6_13 := blk_frozen BK460.out 13; have hfz6_14 := blk_frozen BK460.out 14; have hfz6_15 := blk_frozen BK460.out 15; have p461 : 0 ≤ (a1 : Int) := of_decide_eq_true (by first | (with_reducible assumption) | assumption); have q461 : a1 < (l0_14.length : Int) := of_decide_eq_true (by first | (with_reducible assumption) | assumption); obtain ⟨ad461, A461_1, c461_1, e461, hx461_0, hx461_1, hl461_1, hi461_1⟩ := at_T102 HR0_14.out a1 p461 q461; cases e461; replace hx461_0 := (HB.out.cell (World.block_lt_of_cell? w _ hx461_0)).trans hx461_0; replace hx461_1 := (HB.out.cell (World.block_lt_of_cell? w _ hx461_1)).trans hx461_1; have HR461_1 := Aside0.mk hi461_1; have HC461_1 := Aside0.mk hl461_1; clear hi461_1 hl461_1; replace p461 := eq_true p461; replace q461 := eq_true q461))
   go_ret
   exact ⟨by first | rfl | (simp [errW_none, errW_some] <;> rfl) | (simp [*, errW_none, errW_some] <;> rfl), by repeat (first | (with_reducible first | exact HB.out | apply below_alloc | apply pw_below_drewN | apply below_drew1 | refine below_set ?_ GE460.out) | exact HB.out)⟩
  ·rw [if_neg c4] at H
   exact absurd H (by simp)
 ·rw [if_neg c3] at H
  have c3b0 : decide (a1 < (l0_14.length : Int)) = false := decide_eq_false c3
  clear c3
  obtain rfl := Option.some.inj H
  go_enter Tryz.func102, Tryz.ntmps102
  go_wp2_with (first | ((with_reducible refine gate_dst (N := 2) rfl ?_); refine box_event ?hg (N := 2) ?hd (cs := #[.int .i64 a0_0, .int .i64 a0_1, .int .i64 a0_2, .int .i64 a0_3, .int .i64 a0_4, .int .i64 a0_5, .int .i64 a0_6, .int .i64 a0_7, .int .i64 a0_8, .int .i64 a0_9, .int .i64 a0_10, .int .i64 a0_11, .int .i64 a0_12, .int .i64 a0_13, .slice A0_14 l0_14.length c0_14, .slice A0_15 l0_15.length c0_15]) (t := 44) ?hr ?_; (case hd => rfl); (case hg => rfl); (case hr => first | (go_simp; done) | (go_simp; rfl)); intro gb460 hg w7 hbox hb; have n0_ := Aside0.mk (below_step (by repeat (first | (with_reducible first | exact HB.out | apply below_alloc | apply pw_below_drewN | apply below_drew1) | exact HB.out)) hb); have n1_ := Aside0.mk (hbox); have n2_ := Aside0.mk ((by rw [hg]; exact (below_size (by repeat (first | (with_reducible first | exact HB.out | apply below_alloc | apply pw_below_drewN | apply below_drew1) | exact HB.out))) : w.heap.size ≤ gb460)); have n3_ := Aside0.mk ((by rw [hg]; exact (below_size (by repeat (first | (with_reducible first | exact HB.out | apply below_alloc | apply pw_below_drewN | apply below_drew1) | exact HB.out))) : w.heap.size ≤ gb460)); clear HB; have HB := n0_; have BK460 := n1_; have GW460 := n2_; have GE460 := n3_; clear n0_ n1_ n2_ n3_; clear hb hbox hg; have hcz8_0 : w7.cell? ⟨gb460, 0, none⟩ = some (.int .i64 a0_0) := (blk_cell BK460.out 0).trans rfl; have hcz8_1 : w7.cell? ⟨gb460, 1, none⟩ = some (.int .i64 a0_1) := (blk_cell BK460.out 1).trans rfl; have hcz8_2 : w7.cell? ⟨gb460, 2, none⟩ = some (.int .i64 a0_2) := (blk_cell BK460.out 2).trans rfl; have hcz8_3 : w7.cell? ⟨gb460, 3, none⟩ = some (.int .i64 a0_3) := (blk_cell BK460.out 3).trans rfl; have hcz8_4 : w7.cell? ⟨gb460, 4, none⟩ = some (.int .i64 a0_4) := (blk_cell BK460.out 4).trans rfl; have hcz8_5 : w7.cell? ⟨gb460, 5, none⟩ = some (.int .i64 a0_5) := (blk_cell BK460.out 5).trans rfl; have hcz8_6 : w7.cell? ⟨gb460, 6, none⟩ = some (.int .i64 a0_6) := (blk_cell BK460.out 6).trans rfl; have hcz8_7 : w7.cell? ⟨gb460, 7, none⟩ = some (.int .i64 a0_7) := (blk_cell BK460.out 7).trans rfl; have hcz8_8 : w7.cell? ⟨gb460, 8, none⟩ = some (.int .i64 a0_8) := (blk_cell BK460.out 8).trans rfl; have hcz8_9 : w7.cell? ⟨gb460, 9, none⟩ = some (.int .i64 a0_9) := (blk_cell BK460.out 9).trans rfl; have hcz8_10 : w7.cell? ⟨gb460, 10, none⟩ = some (.int .i64 a0_10) := (blk_cell BK460.out 10).trans rfl; have hcz8_11 : w7.cell? ⟨gb460, 11, none⟩ = some (.int .i64 a0_11) := (blk_cell BK460.out 11).trans rfl; have hcz8_12 : w7.cell? ⟨gb460, 12, none⟩ = some (.int .i64 a0_12) := (blk_cell BK460.out 12).trans rfl; have hcz8_13 : w7.cell? ⟨gb460, 13, none⟩ = some (.int .i64 a0_13) := (blk_cell BK460.out 13).trans rfl; have hcz8_14 : w7.cell? ⟨gb460, 14, none⟩ = some (.slice A0_14 l0_14.length c0_14) := (blk_cell BK460.out 14).trans rfl; have hcz8_15 : w7.cell? ⟨gb460, 15, none⟩ = some (.slice A0_15 l0_15.length c0_15) := (blk_cell BK460.out 15).trans rfl; have hfz8_0 := blk_frozen BK460.out 0; have hfz8_1 := blk_frozen BK460.out 1; have hfz8_2 := blk_frozen BK460.out 2; have hfz8_3 := blk_frozen BK460.out 3; have hfz8_4 := blk_frozen BK460.out 4; have hfz8_5 := blk_frozen BK460.out 5; have hfz8_6 := blk_frozen BK460.out 6; have hfz8_7 := blk_frozen BK460.out 7; have hfz8_8 := blk_frozen BK460.out 8; have hfz8_9 := blk_frozen BK460.out 9; have hfz8_10 := blk_frozen BK460.out 10; have hfz8_11 := blk_frozen BK460.out 11; have hfz8_12 := blk_frozen BK460.out 12; have hfz8_13 := blk_frozen BK460.out 13; have hfz8_14 := blk_frozen BK460.out 14; have hfz8_15 := blk_frozen BK460.out 15))
  go_ret
  exact ⟨by first | rfl | (simp [errW_none, errW_some] <;> rfl) | (simp [*, errW_none, errW_some] <;> rfl), by repeat (first | (with_reducible first | exact HB.out | apply below_alloc | apply pw_below_drewN | apply below_drew1 | refine below_set ?_ GE460.out) | exact HB.out)⟩

end Go.Proofs.YtffkgndghbdgnaaGreat.FFnExactPacketSize
