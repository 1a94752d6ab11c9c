-- Functions and their contracts, written by a program of this claim (wip/tools/oprint.py) out of the translation.
import Derived.Test.YtffkgndghbdgnaaGreatGFnExactPacketSizex34
namespace Go.Proofs.YtffkgndghbdgnaaGreat.FFnExactPacketSize
open Go.RowKit Go.Proofs.YtffkgndghbdgnaaGreatW.PrintWords Go.Proofs.YtffkgndghbdgnaaGreatW.PrintLast Go.Proofs.YtffkgndghbdgnaaGreatW.PrintMore Go.Proofs.YtffkgndghbdgnaaGreat.Frame
attribute [local go_sem] max2_int min2_int max_two min_two max_three min_three max_four min_four   -- for this text's walks alone
set_option linter.unusedVariables false
set_option maxHeartbeats 8000000
set_option maxRecDepth 100000
set_option linter.unusedSimpArgs false

/-! ### laws_eqExtS: function 52 -/
def laws_eqExtS.l0 : Nat → List (S102) → List (S102) → Int → Option (Bool)
 | 0, _, _, _ => none
 | k + 1, x0, x1, x5 => if x5 < (x0.length : Int) then (if 0 ≤ x5 then (if x5 < (x1.length : Int) then ((laws_eqExt.f k ((rd_T102 x0 x5).f0) ((rd_T102 x0 x5).f1) ((rd_T102 x1 x5).f0) ((rd_T102 x1 x5).f1)).bind fun t1166 => (if t1166 = true then (laws_eqExtS.l0 k x0 x1 (wrap64 (x5 + 1))) else (some false))) else (none)) else (none)) else (some true)
def laws_eqExtS.f (k : Nat) (l0 l1 : List (S102)) : Option (Bool) := if (l0.length : Int) = (l1.length : Int) then (laws_eqExtS.l0 k l0 l1 0) else (some false)
def laws_eqExtS.T6 : Bool × List (List Nat × List Nat) := (true, [([], []), ([], []), ([0, 1], [0, 1]), ([2], [2]), ([], []), ([], []), ([4, 5], [4, 5]), ([6], [6]), ([3, 7], [3, 7]), ([8], [8])])
def laws_eqExtS.B6 : List Nat := [0, 0, 3, 7, 0, 0, 48, 112, 255, 511]
theorem laws_eqExtS.tab6 : rtab .any (opsOf Tryz.f52 6) = laws_eqExtS.T6 := by kernel_rfl
theorem laws_eqExtS.bits6 : waitsOk laws_eqExtS.T6.2 laws_eqExtS.B6 = true := by kernel_rfl
theorem laws_eqExtS.calls (k : Nat) (A0 : Option Addr) (c0 : Nat) (l0 : List (S102)) (A1 : Option Addr) (c1 : Nat) (l1 : List (S102)) (_r : Bool) (w : World) (hr0 : Kd.C k102 w A0 l0.length l0) (hc0 : l0.length ≤ c0) (hr1 : Kd.C k102 w A1 l1.length l1) (hc1 : l1.length ≤ c1) (h : laws_eqExtS.f k l0 l1 = some true) :
  Calls Tryz.prog 52 #[.slice A0 l0.length c0, .slice A1 l1.length c1] w fun e w' => e = .returned (.bool true) ∧ Below w.heap.size w w' := by
 have hu102 := Tryz.underlying102
 have HR0 := Aside0.mk hr0
 have HC0 := Aside0.mk hc0
 clear hr0 hc0
 have HR1 := Aside0.mk hr1
 have HC1 := Aside0.mk hc1
 clear hr1 hc1
 have HB := Aside0.mk (Below.refl w.heap.size w)
 have H : (if (l0.length : Int) = (l1.length : Int) then (laws_eqExtS.l0 k l0 l1 0) else (some false)) = some true := h
 clear h
 by_cases c3 : (l0.length : Int) = (l1.length : Int)
 ·rw [if_pos c3] at H
  have c3b0 : ((l0.length : Int) == (l1.length : Int)) = true := beq_iff_eq.mpr c3
  have c3b1 : ((l0.length : Int) != (l1.length : Int)) = false := bne_eq_false_iff_eq.mpr c3
  have c3b2 : (l0.length == l1.length) = true := by first | simpa using c3 | (simp at c3 ⊢; omega)
  clear c3
  have H' := Aside0.mk H
  clear H
  go_enter Tryz.func52, Tryz.ntmps52
  go_wp2
  go_loopg [5] k (fun kq v5 w' => ∃ (x5_1 : Int), v5 = .int .i64 x5_1 ∧ Aside0 (laws_eqExtS.l0 kq l0 l1 x5_1 = some true) ∧ Aside0 (kq ≤ k) ∧ Aside0 (Below w.heap.size w w'))
  case atStart => exact ⟨(0), (by first | rfl | (simp; done) | (simp [*]; done)), H', ⟨Nat.le_refl _⟩, ⟨by repeat (first | (with_reducible first | exact HB.out | apply below_alloc | apply pw_below_drewN | apply below_drew1) | exact HB.out)⟩⟩
  case round =>
   clear H'
   try clear c1
   try clear p2
   try clear c3
   try clear c3b0
   try clear c3b1
   try clear c3b2
   obtain ⟨x5_1, rfl, HA, HK1, HB⟩ := hrel
   cases gk with
   | zero => exact absurd HA.out (by simp [laws_eqExtS.l0])
   | succ k1 =>
    have H := HA.out
    clear HA
    simp only [laws_eqExtS.l0] at H
    by_cases c4 : x5_1 < (l0.length : Int)
    ·rw [if_pos c4] at H
     have c4b0 : decide (x5_1 < (l0.length : Int)) = true := decide_eq_true c4
     clear c4
     by_cases c5 : 0 ≤ x5_1
     ·rw [if_pos c5] at H
      have c5b0 : decide (0 ≤ x5_1) = true := decide_eq_true c5
      clear c5
      by_cases c6 : x5_1 < (l1.length : Int)
      ·rw [if_pos c6] at H
       have c6b0 : decide (x5_1 < (l1.length : Int)) = true := decide_eq_true c6
       clear c6
       replace H := Option.bind_eq_some_iff.mp H
       obtain ⟨t1166, A70, H⟩ := H
       replace H : (if t1166 = true then (laws_eqExtS.l0 k1 l0 l1 (wrap64 (x5_1 + 1))) else (some false)) = some true := H
       have A7 := Aside0.mk A70
       clear A70
       by_cases c8 : t1166 = true
       ·subst c8
        have H1 : (laws_eqExtS.l0 k1 l0 l1 (wrap64 (x5_1 + 1))) = some true := by rw [if_pos rfl] at H; exact H
        clear H
        have H := H1
        clear H1
        have H' := Aside0.mk H
        clear H
        try go_wp2
        have n0_ := Aside0.mk (below_drew1 HB.out)
        clear HB
        have HB := n0_
        clear n0_
        have p1164 : 0 ≤ (x5_1 : Int) := of_decide_eq_true (by first | (with_reducible assumption) | assumption)
        have q1164 : x5_1 < (l0.length : Int) := of_decide_eq_true (by first | (with_reducible assumption) | assumption)
        obtain ⟨ad1164, A1164_1, c1164_1, e1164, hx1164_0, hx1164_1, hl1164_1, hi1164_1⟩ := at_T102 HR0.out x5_1 p1164 q1164
        have hw1164_1 := hx1164_1
        have hw1164_0 := hx1164_0
        cases e1164
        replace hx1164_0 := (HB.out.cell (World.block_lt_of_cell? w _ hx1164_0)).trans hx1164_0
        replace hx1164_1 := (HB.out.cell (World.block_lt_of_cell? w _ hx1164_1)).trans hx1164_1
        have HR1164_1 := Aside0.mk hi1164_1
        have HC1164_1 := Aside0.mk hl1164_1
        clear hi1164_1 hl1164_1
        replace p1164 := eq_true p1164
        replace q1164 := eq_true q1164
        have p1165 : 0 ≤ (x5_1 : Int) := of_decide_eq_true (by first | (with_reducible assumption) | assumption)
        have q1165 : x5_1 < (l1.length : Int) := of_decide_eq_true (by first | (with_reducible assumption) | assumption)
        obtain ⟨ad1165, A1165_1, c1165_1, e1165, hx1165_0, hx1165_1, hl1165_1, hi1165_1⟩ := at_T102 HR1.out x5_1 p1165 q1165
        have hw1165_1 := hx1165_1
        have hw1165_0 := hx1165_0
        cases e1165
        replace hx1165_0 := (HB.out.cell (World.block_lt_of_cell? w _ hx1165_0)).trans hx1165_0
        replace hx1165_1 := (HB.out.cell (World.block_lt_of_cell? w _ hx1165_1)).trans hx1165_1
        have HR1165_1 := Aside0.mk hi1165_1
        have HC1165_1 := Aside0.mk hl1165_1
        clear hi1165_1 hl1165_1
        replace p1165 := eq_true p1165
        replace q1165 := eq_true q1165
        refine start_ (n := 10) (S := fun w' => w'.cell? (ad1164.add ((x5_1).toNat * 2)) = some (.int .i64 ((rd_T102 l0 x5_1).f0)) ∧ w'.cell? ⟨(ad1164.add ((x5_1).toNat * 2)).block, (ad1164.add ((x5_1).toNat * 2)).off + 1, none⟩ = some (.slice A1164_1 ((rd_T102 l0 x5_1).f1).length c1164_1) ∧ w'.cell? (ad1165.add ((x5_1).toNat * 2)) = some (.int .i64 ((rd_T102 l1 x5_1).f0)) ∧ w'.cell? ⟨(ad1165.add ((x5_1).toNat * 2)).block, (ad1165.add ((x5_1).toNat * 2)).off + 1, none⟩ = some (.slice A1165_1 ((rd_T102 l1 x5_1).f1).length c1165_1)) (ds := []) #[false, false, false, false, false, false, false, false, false, false] (by kernel_rfl) rfl rfl ⟨((HB.out.cell (World.block_lt_of_cell? w _ hw1164_0)).trans hw1164_0), ((HB.out.cell (World.block_lt_of_cell? w _ hw1164_1)).trans hw1164_1), ((HB.out.cell (World.block_lt_of_cell? w _ hw1165_0)).trans hw1165_0), ((HB.out.cell (World.block_lt_of_cell? w _ hw1165_1)).trans hw1165_1)⟩ (fun hHeld => ?_); refine with_tabW laws_eqExtS.tab6 laws_eqExtS.bits6 (fun HT_ HW_ => ?_)
        generalize wr.drew = w9 at HB HR1164_1 HR1165_1 hx1164_0 hx1164_1 hx1165_0 hx1165_1 hHeld ⊢
        refine pure_ (i := 0) (N := some 17) (v := ?_) (a' := ?_) #[true, false, false, false, false, false, false, false, false, false] rfl rfl (any_of HT_.out (by kernel_rfl)) (fun _ _ _ h => h) (Or.inl ⟨by rfl, ?_⟩) ?_ ?_
        rotate_left
        ·intro w'
         go_simp
         with_reducible rfl
        rotate_left
        ·simp only [Act.put, List.setIfInBounds_toArray, List.set_cons_zero, List.set_cons_succ, i64_w, i32_w]
         rfl
        refine pure_ (i := 1) (N := some 18) (v := ?_) (a' := ?_) #[true, true, false, false, false, false, false, false, false, false] rfl rfl (any_of HT_.out (by kernel_rfl)) (fun _ _ _ h => h) (Or.inl ⟨by rfl, ?_⟩) ?_ ?_
        rotate_left
        ·intro w'
         go_simp
         with_reducible rfl
        rotate_left
        ·simp only [Act.put, List.setIfInBounds_toArray, List.set_cons_zero, List.set_cons_succ, i64_w, i32_w]
         rfl
        refine pure_ (i := 2) (N := some 19) (v := ?_) (a' := ?_) #[true, true, true, false, false, false, false, false, false, false] rfl rfl (any_of HT_.out (by kernel_rfl)) (fun _ _ _ h => h) (Or.inl ⟨by rfl, ?_⟩) ?_ ?_
        rotate_left
        ·intro w'
         go_simp
         with_reducible rfl
        rotate_left
        ·simp only [Act.put, List.setIfInBounds_toArray, List.set_cons_zero, List.set_cons_succ, i64_w, i32_w]
         rfl
        refine pure_ (i := 4) (N := some 21) (v := ?_) (a' := ?_) #[true, true, true, false, true, false, false, false, false, false] rfl rfl (any_of HT_.out (by kernel_rfl)) (fun _ _ _ h => h) (Or.inl ⟨by rfl, ?_⟩) ?_ ?_
        rotate_left
        ·intro w'
         go_simp
         with_reducible rfl
        rotate_left
        ·simp only [Act.put, List.setIfInBounds_toArray, List.set_cons_zero, List.set_cons_succ, i64_w, i32_w]
         rfl
        refine pure_ (i := 5) (N := some 22) (v := ?_) (a' := ?_) #[true, true, true, false, true, true, false, false, false, false] rfl rfl (any_of HT_.out (by kernel_rfl)) (fun _ _ _ h => h) (Or.inl ⟨by rfl, ?_⟩) ?_ ?_
        rotate_left
        ·intro w'
         go_simp
         with_reducible rfl
        rotate_left
        ·simp only [Act.put, List.setIfInBounds_toArray, List.set_cons_zero, List.set_cons_succ, i64_w, i32_w]
         rfl
        refine pure_ (i := 6) (N := some 23) (v := ?_) (a' := ?_) #[true, true, true, false, true, true, true, false, false, false] rfl rfl (any_of HT_.out (by kernel_rfl)) (fun _ _ _ h => h) (Or.inl ⟨by rfl, ?_⟩) ?_ ?_
        rotate_left
        ·intro w'
         go_simp
         with_reducible rfl
        rotate_left
        ·simp only [Act.put, List.setIfInBounds_toArray, List.set_cons_zero, List.set_cons_succ, i64_w, i32_w]
         rfl
        refine take_ (i := 3) (N := some 20) (v := ?_) (a' := ?_) #[true, true, true, true, true, true, true, false, false, false] rfl rfl (take_ofW HT_.out HW_.out (by kernel_rfl)) (fun _ _ _ h => h) (Or.inl ⟨by rfl, ?_⟩) hHeld ?_ ?_
        rotate_left
        ·rintro w' ⟨s0, s1, s2, s3⟩
         go_simp
         with_reducible rfl
        rotate_left
        ·simp only [Act.put, List.setIfInBounds_toArray, List.set_cons_zero, List.set_cons_succ, i64_w, i32_w]
         rfl
        refine take_ (i := 7) (N := some 24) (v := ?_) (a' := ?_) #[true, true, true, true, true, true, true, true, false, false] rfl rfl (take_ofW HT_.out HW_.out (by kernel_rfl)) (fun _ _ _ h => h) (Or.inl ⟨by rfl, ?_⟩) hHeld ?_ ?_
        rotate_left
        ·rintro w' ⟨s0, s1, s2, s3⟩
         go_simp
         with_reducible rfl
        rotate_left
        ·simp only [Act.put, List.setIfInBounds_toArray, List.set_cons_zero, List.set_cons_succ, i64_w, i32_w]
         rfl
        refine one_ (i := 8) (N := some 25) #[true, true, true, true, true, true, true, true, true, false] rfl rfl (one_of HT_.out (by kernel_rfl)) (by decide) (fun K hK => ?_)
        refine goes_ Tryz.func87 (by kernel_rfl) rfl #[.agg #[.int .i64 ((rd_T102 l0 x5_1).f0), .slice A1164_1 ((rd_T102 l0 x5_1).f1).length c1164_1], .agg #[.int .i64 ((rd_T102 l1 x5_1).f0), .slice A1165_1 ((rd_T102 l1 x5_1).f1).length c1165_1]] (by rfl) rfl rfl (by (try simp only [List.map_toArray, List.map_cons, List.map_nil]); first | done | rfl | (simp only [List.length_drop, List.length_take]; rfl)) ?_
        with_reducible refine (laws_eqExt.calls k1 ((rd_T102 l0 x5_1).f0) _ _ ((rd_T102 l0 x5_1).f1) ((rd_T102 l1 x5_1).f0) _ _ ((rd_T102 l1 x5_1).f1) true _ ?side1 ?side2 ?side3 ?side4 A7.out).mono ?_
        (case side1 => repeat (first | exact (Kd.C_below HR1164_1.out HB.out) | (with_reducible refine Kd.C_alloc ?_ _) | (with_reducible refine Kd.C_drewN ?_ _) | (with_reducible refine Kd.C_drew ?_)))
        (case side2 => exact HC1164_1.out)
        (case side3 => repeat (first | exact (Kd.C_below HR1165_1.out HB.out) | (with_reducible refine Kd.C_alloc ?_ _) | (with_reducible refine Kd.C_drewN ?_ _) | (with_reducible refine Kd.C_drew ?_)))
        (case side4 => exact HC1165_1.out)
        rintro e w10 ⟨rfl, hb⟩
        refine ⟨_, rfl, ?_⟩
        have n0_ := Aside0.mk (below_step (by repeat (first | (with_reducible first | exact HB.out | apply below_alloc | apply pw_below_drewN | apply below_drew1) | exact HB.out)) hb)
        clear HB
        have HB := n0_
        clear n0_
        (try clear hb)
        (try clear hb2)
        (try clear hk)
        (try clear hi)
        refine hK.out _ _ ⟨((HB.out.cell (World.block_lt_of_cell? w _ hw1164_0)).trans hw1164_0), ((HB.out.cell (World.block_lt_of_cell? w _ hw1164_1)).trans hw1164_1), ((HB.out.cell (World.block_lt_of_cell? w _ hw1165_0)).trans hw1165_0), ((HB.out.cell (World.block_lt_of_cell? w _ hw1165_1)).trans hw1165_1)⟩ (fun hHeld => ?_)
        clear hK K
        refine norm_ (a' := ?_) ?_ ?_
        rotate_left
        ·show Act.put _ (some 25) _ = _
         simp only [Act.put, List.setIfInBounds_toArray, List.set_cons_zero, List.set_cons_succ, i64_w, i32_w]
         rfl
        refine pure_ (i := 9) (N := some 26) (v := ?_) (a' := ?_) #[true, true, true, true, true, true, true, true, true, true] rfl rfl (any_of HT_.out (by kernel_rfl)) (fun _ _ _ h => h) (Or.inl ⟨by rfl, ?_⟩) ?_ ?_
        rotate_left
        ·intro w'
         go_simp
         with_reducible rfl
        rotate_left
        ·simp only [Act.put, List.setIfInBounds_toArray, List.set_cons_zero, List.set_cons_succ, i64_w, i32_w]
         rfl
        refine done_ (done_of HT_.out (by kernel_rfl)) ?_
        try go_wp2
        go_roundg k1
        case measure => have := HK1.out; omega
        case rel => exact ⟨(wrap64 (x5_1 + 1)), (by first | rfl | (simp; done) | (simp [*]; done)), H', ⟨by have := HK1.out; omega⟩, ⟨by repeat (first | (with_reducible first | exact HB.out | apply below_alloc | apply pw_below_drewN | apply below_drew1) | exact HB.out)⟩⟩
       ·replace c8 := Bool.eq_false_iff.mpr c8
        subst c8
        have H1 : (some false) = some true := by rw [if_neg (show ¬ (false = true) by decide)] at H; exact H
        clear H
        have H := H1
        clear H1
        exact absurd H (by simp)
      ·rw [if_neg c6] at H
       exact absurd H (by simp)
     ·rw [if_neg c5] at H
      exact absurd H (by simp)
    ·rw [if_neg c4] at H
     have c4b0 : decide (x5_1 < (l0.length : Int)) = false := decide_eq_false c4
     clear c4
     clear H
     go_wp2
     go_ret
     exact ⟨by first | rfl | (simp [errW_none, errW_some] <;> rfl) | (simp [*, errW_none, errW_some] <;> rfl), by repeat (first | (with_reducible first | exact HB.out | apply below_alloc | apply pw_below_drewN | apply below_drew1) | exact HB.out)⟩
 ·rw [if_neg c3] at H
  have c3b0 : ((l0.length : Int) == (l1.length : Int)) = false := beq_eq_false_iff_ne.mpr c3
  have c3b1 : ((l0.length : Int) != (l1.length : Int)) = true := bne_iff_ne.mpr c3
  have c3b2 : (l0.length == l1.length) = false := by first | simpa using c3 | (simp at c3 ⊢; omega)
  exact absurd H (by simp)

/-! ### laws_eqSix: function 33 -/
def laws_eqSix.f (k : Nat) (a0_0 a0_1 : Int) (a0_2 a0_3 : Int) (a0_4 a0_5 : Int) (a0_6 a0_7 : Int) (a0_8 a0_9 : Int) (a0_10 a0_11 : Int) (a0_12 a0_13 : Int) (l0_14 : List (S102)) (l0_15 : List Int) (a1_0 a1_1 : Int) (a1_2 a1_3 : Int) (a1_4 a1_5 : Int) (a1_6 a1_7 : Int) (a1_8 a1_9 : Int) (a1_10 a1_11 : Int) (a1_12 a1_13 : Int) (l1_14 : List (S102)) (l1_15 : List Int) : Option (Bool) := if a0_0 = a1_0 then (if a0_1 = a1_1 then (if a0_2 = a1_2 then (if a0_3 = a1_3 then ((laws_eqAddr.f a0_4 a0_5 a0_6 a0_7 a0_8 a1_4 a1_5 a1_6 a1_7 a1_8).bind fun t1169 => (if t1169 = true then ((laws_eqAddr.f a0_9 a0_10 a0_11 a0_12 a0_13 a1_9 a1_10 a1_11 a1_12 a1_13).bind fun t1170 => (if t1170 = true then ((laws_eqExtS.f k l0_14 l1_14).bind fun t1171 => (if t1171 = true then ((laws_eqByteS.f k l0_15 l1_15).bind fun t1172 => (if t1172 = true then (some true) else (some false))) else (some false))) else (some false))) else (some false))) else (some false)) else (some false)) else (some false)) else (some false)
theorem laws_eqSix.calls (k : Nat) (a0_0 a0_1 : Int) (a0_2 a0_3 : Int) (a0_4 a0_5 : Int) (a0_6 a0_7 : Int) (a0_8 a0_9 : Int) (a0_10 a0_11 : Int) (a0_12 a0_13 : Int) (A0_14 : Option Addr) (c0_14 : Nat) (l0_14 : List (S102)) (A0_15 : Option Addr) (c0_15 : Nat) (l0_15 : List Int) (a1_0 a1_1 : Int) (a1_2 a1_3 : Int) (a1_4 a1_5 : Int) (a1_6 a1_7 : Int) (a1_8 a1_9 : Int) (a1_10 a1_11 : Int) (a1_12 a1_13 : Int) (A1_14 : Option Addr) (c1_14 : Nat) (l1_14 : List (S102)) (A1_15 : Option Addr) (c1_15 : Nat) (l1_15 : List Int) (_r : Bool) (w : World) (hr0_14 : Kd.C k102 w A0_14 l0_14.length l0_14) (hc0_14 : l0_14.length ≤ c0_14) (hr0_15 : Kd.C (Kd.int .u8) w A0_15 l0_15.length l0_15) (hc0_15 : l0_15.length ≤ c0_15) (hr1_14 : Kd.C k102 w A1_14 l1_14.length l1_14) (hc1_14 : l1_14.length ≤ c1_14) (hr1_15 : Kd.C (Kd.int .u8) w A1_15 l1_15.length l1_15) (hc1_15 : l1_15.length ≤ c1_15) (h : laws_eqSix.f k a0_0 a0_1 a0_2 a0_3 a0_4 a0_5 a0_6 a0_7 a0_8 a0_9 a0_10 a0_11 a0_12 a0_13 l0_14 l0_15 a1_0 a1_1 a1_2 a1_3 a1_4 a1_5 a1_6 a1_7 a1_8 a1_9 a1_10 a1_11 a1_12 a1_13 l1_14 l1_15 = some true) :
  Calls Tryz.prog 33 #[.agg #[.int .i64 a0_0, .int .i64 a0_1, .int .i64 a0_2, .int .i64 a0_3, .int .i64 a0_4, .int .i64 a0_5, .int .i64 a0_6, .int .i64 a0_7, .int .i64 a0_8, .int .i64 a0_9, .int .i64 a0_10, .int .i64 a0_11, .int .i64 a0_12, .int .i64 a0_13, .slice A0_14 l0_14.length c0_14, .slice A0_15 l0_15.length c0_15], .agg #[.int .i64 a1_0, .int .i64 a1_1, .int .i64 a1_2, .int .i64 a1_3, .int .i64 a1_4, .int .i64 a1_5, .int .i64 a1_6, .int .i64 a1_7, .int .i64 a1_8, .int .i64 a1_9, .int .i64 a1_10, .int .i64 a1_11, .int .i64 a1_12, .int .i64 a1_13, .slice A1_14 l1_14.length c1_14, .slice A1_15 l1_15.length c1_15]] w fun e w' => e = .returned (.bool true) ∧ Below w.heap.size w w' := by
 have hu44 := Tryz.underlying44
 have HR0_14 := Aside0.mk hr0_14
 have HC0_14 := Aside0.mk hc0_14
 have HR0_15 := Aside0.mk hr0_15
 have HC0_15 := Aside0.mk hc0_15
 have HR1_14 := Aside0.mk hr1_14
 have HC1_14 := Aside0.mk hc1_14
 have HR1_15 := Aside0.mk hr1_15
 have HC1_15 := Aside0.mk hc1_15
 clear hr0_14 hc0_14 hr0_15 hc0_15 hr1_14 hc1_14 hr1_15 hc1_15
 have HF := Fr.start [44] w
 have HP := Aside0.mk True.intro
 unfold laws_eqSix.f at h
 have HH := Aside0.mk h
 clear h
 go_enter Tryz.func33, Tryz.ntmps33
 repeat' (with_reducible first | exact xE HH | (replace HH := iA HP HH; clear HP; rcases HH with ⟨p, HP, HH⟩ | ⟨p, HP, HH⟩ <;> first | subst p | cases p | skip) | fail)
 all_goals (repeat' (first
    | ((with_reducible refine gA 0 ?_) <;> (refine HF.bA ?_; clear HF; intro g_ w_ HF; refine nA ?_) <;> (refine HF.bA ?_; clear HF; intro g_ w_ HF; refine nA ?_) <;> (refine sA ?_) <;> (apply lend))
    | ((with_reducible refine gA 1 ?_) <;> (iterate 5 refine sA ?_) <;> (apply lend))
    | ((with_reducible refine gA 2 ?_) <;> (refine sA ?_) <;> (apply lend))
    | ((with_reducible refine gA 3 ?_) <;> (iterate 5 refine sA ?_) <;> (apply lend))
    | ((with_reducible refine gA 4 ?_) <;> (refine sA ?_) <;> (apply lend))
    | ((with_reducible refine gA 5 ?_) <;> (iterate 5 refine sA ?_) <;> (apply lend))
    | ((with_reducible refine gA 6 ?_) <;> (refine sA ?_) <;> (apply lend))
    | ((with_reducible refine gA 7 ?_) <;> (iterate 5 refine sA ?_) <;> (apply lend))
    | ((with_reducible refine gA 8 ?_) <;> (refine sA ?_) <;> (apply lend))
    | ((with_reducible refine gA 9 ?_) <;> (iterate 4 refine sA ?_) <;> ((replace HH := bA HH); obtain ⟨_, A29_, HH⟩ := HH; (try dsimp only at HH)) <;> (repeat' (with_reducible first | exact xE HH | (replace HH := iA HP HH; clear HP; rcases HH with ⟨p, HP, HH⟩ | ⟨p, HP, HH⟩ <;> first | subst p | cases p | skip) | fail)) <;> (refine HF.cB Tryz.func51 (by (with_reducible apply laws_eqAddr.calls (_r := true) (h := A29_.out))) ?_; clear HF A29_; intro w_ HF) <;> (refine sA ?_) <;> (apply lend))
    | ((with_reducible refine gA 10 ?_) <;> (refine sA ?_) <;> (apply lend))
    | ((with_reducible refine gA 11 ?_) <;> (iterate 4 refine sA ?_) <;> ((replace HH := bA HH); obtain ⟨_, A35_, HH⟩ := HH; (try dsimp only at HH)) <;> (repeat' (with_reducible first | exact xE HH | (replace HH := iA HP HH; clear HP; rcases HH with ⟨p, HP, HH⟩ | ⟨p, HP, HH⟩ <;> first | subst p | cases p | skip) | fail)) <;> (refine HF.cB Tryz.func51 (by (with_reducible apply laws_eqAddr.calls (_r := true) (h := A35_.out))) ?_; clear HF A35_; intro w_ HF) <;> (refine sA ?_) <;> (apply lend))
    | ((with_reducible refine gA 12 ?_) <;> (refine sA ?_) <;> (apply lend))
    | ((with_reducible refine gA 13 ?_) <;> (iterate 4 refine sA ?_) <;> ((replace HH := bA HH); obtain ⟨_, A41_, HH⟩ := HH; (try dsimp only at HH)) <;> (repeat' (with_reducible first | exact xE HH | (replace HH := iA HP HH; clear HP; rcases HH with ⟨p, HP, HH⟩ | ⟨p, HP, HH⟩ <;> first | subst p | cases p | skip) | fail)) <;> (refine HF.cB Tryz.func52 (by (with_reducible apply laws_eqExtS.calls (_r := true) (h := A41_.out)) <;> exact gP) ?_; clear HF A41_; intro w_ HF) <;> (refine sA ?_) <;> (apply lend))
    | ((with_reducible refine gA 14 ?_) <;> (refine sA ?_) <;> (apply lend))
    | ((with_reducible refine gA 15 ?_) <;> (iterate 4 refine sA ?_) <;> ((replace HH := bA HH); obtain ⟨_, A47_, HH⟩ := HH; (try dsimp only at HH)) <;> (repeat' (with_reducible first | exact xE HH | (replace HH := iA HP HH; clear HP; rcases HH with ⟨p, HP, HH⟩ | ⟨p, HP, HH⟩ <;> first | subst p | cases p | skip) | fail)) <;> (refine HF.dB Tryz.func13 (by (with_reducible apply laws_eqByteS.calls (_r := true) (h := A47_.out)) <;> exact gP) ?_; clear HF A47_; intro w_ HF) <;> (refine sA ?_) <;> (apply lend))
    | ((with_reducible refine gA 16 ?_) <;> (refine sA ?_) <;> (apply lend))
    | ((with_reducible refine gA 17 ?_) <;> (refine sA ?_) <;> (apply lend))
    | go_step | fail))
 all_goals (have h_ := HH.out; clear HH; cases h_ <;> (go_ret; first
   | exact ⟨vE, HF.below⟩))

/-! ### laws_eqUpper: function 34 -/
def laws_eqUpper.f (k : Nat) (a0_0 a0_1 : Int) (a0_2 a0_3 : Int) (a0_4 a0_5 : Int) (a0_6 a0_7 : Int) (a0_8 a0_9 a0_10 : Int) (a0_11 : Bool) (l0_12 l0_13 : List Int) (a1_0 a1_1 : Int) (a1_2 a1_3 : Int) (a1_4 a1_5 : Int) (a1_6 a1_7 : Int) (a1_8 a1_9 a1_10 : Int) (a1_11 : Bool) (l1_12 l1_13 : List Int) : Option (Bool) := if a0_0 = a1_0 then (if a0_1 = a1_1 then (if a0_2 = a1_2 then (if a0_3 = a1_3 then (if a0_4 = a1_4 then (if a0_5 = a1_5 then (if a0_6 = a1_6 then (if a0_7 = a1_7 then (if a0_8 = a1_8 then (if a0_9 = a1_9 then (if a0_10 = a1_10 then (if (a0_11 != a1_11) = true then (some false) else ((laws_eqByteS.f k l0_12 l1_12).bind fun t1175 => (if t1175 = true then ((laws_eqByteS.f k l0_13 l1_13).bind fun t1176 => (if t1176 = true then (some true) else (some false))) else (some false)))) else (some false)) else (some false)) else (some false)) else (some false)) else (some false)) else (some false)) else (some false)) else (some false)) else (some false)) else (some false)) else (some false)
theorem laws_eqUpper.calls (k : Nat) (a0_0 a0_1 : Int) (a0_2 a0_3 : Int) (a0_4 a0_5 : Int) (a0_6 a0_7 : Int) (a0_8 a0_9 a0_10 : Int) (a0_11 : Bool) (A0_12 : Option Addr) (c0_12 : Nat) (l0_12 : List Int) (A0_13 : Option Addr) (c0_13 : Nat) (l0_13 : List Int) (a1_0 a1_1 : Int) (a1_2 a1_3 : Int) (a1_4 a1_5 : Int) (a1_6 a1_7 : Int) (a1_8 a1_9 a1_10 : Int) (a1_11 : Bool) (A1_12 : Option Addr) (c1_12 : Nat) (l1_12 : List Int) (A1_13 : Option Addr) (c1_13 : Nat) (l1_13 : List Int) (_r : Bool) (w : World) (hr0_12 : Kd.C (Kd.int .u8) w A0_12 l0_12.length l0_12) (hc0_12 : l0_12.length ≤ c0_12) (hr0_13 : Kd.C (Kd.int .u8) w A0_13 l0_13.length l0_13) (hc0_13 : l0_13.length ≤ c0_13) (hr1_12 : Kd.C (Kd.int .u8) w A1_12 l1_12.length l1_12) (hc1_12 : l1_12.length ≤ c1_12) (hr1_13 : Kd.C (Kd.int .u8) w A1_13 l1_13.length l1_13) (hc1_13 : l1_13.length ≤ c1_13) (h : laws_eqUpper.f k a0_0 a0_1 a0_2 a0_3 a0_4 a0_5 a0_6 a0_7 a0_8 a0_9 a0_10 a0_11 l0_12 l0_13 a1_0 a1_1 a1_2 a1_3 a1_4 a1_5 a1_6 a1_7 a1_8 a1_9 a1_10 a1_11 l1_12 l1_13 = some true) :
  Calls Tryz.prog 34 #[.agg #[.int .i64 a0_0, .int .i64 a0_1, .int .i64 a0_2, .int .i64 a0_3, .int .i64 a0_4, .int .i64 a0_5, .int .i64 a0_6, .int .i64 a0_7, .int .i64 a0_8, .int .i64 a0_9, .int .i64 a0_10, .bool a0_11, .slice A0_12 l0_12.length c0_12, .slice A0_13 l0_13.length c0_13], .agg #[.int .i64 a1_0, .int .i64 a1_1, .int .i64 a1_2, .int .i64 a1_3, .int .i64 a1_4, .int .i64 a1_5, .int .i64 a1_6, .int .i64 a1_7, .int .i64 a1_8, .int .i64 a1_9, .int .i64 a1_10, .bool a1_11, .slice A1_12 l1_12.length c1_12, .slice A1_13 l1_13.length c1_13]] w fun e w' => e = .returned (.bool true) ∧ Below w.heap.size w w' := by
 have hu45 := Tryz.underlying45
 have HR0_12 := Aside0.mk hr0_12
 have HC0_12 := Aside0.mk hc0_12
 have HR0_13 := Aside0.mk hr0_13
 have HC0_13 := Aside0.mk hc0_13
 have HR1_12 := Aside0.mk hr1_12
 have HC1_12 := Aside0.mk hc1_12
 have HR1_13 := Aside0.mk hr1_13
 have HC1_13 := Aside0.mk hc1_13
 clear hr0_12 hc0_12 hr0_13 hc0_13 hr1_12 hc1_12 hr1_13 hc1_13
 have HF := Fr.start [45] w
 have HP := Aside0.mk True.intro
 unfold laws_eqUpper.f at h
 have HH := Aside0.mk h
 clear h
 go_enter Tryz.func34, Tryz.ntmps34
 repeat' (with_reducible first | exact xE HH | (replace HH := iA HP HH; clear HP; rcases HH with ⟨p, HP, HH⟩ | ⟨p, HP, HH⟩ <;> first | subst p | cases p | skip) | fail)
 all_goals (repeat' (first
    | ((with_reducible refine gA 0 ?_) <;> (refine HF.bA ?_; clear HF; intro g_ w_ HF; refine nA ?_) <;> (refine HF.bA ?_; clear HF; intro g_ w_ HF; refine nA ?_) <;> (refine sA ?_) <;> (apply lend))
    | ((with_reducible refine gA 1 ?_) <;> (iterate 5 refine sA ?_) <;> (apply lend))
    | ((with_reducible refine gA 2 ?_) <;> (refine sA ?_) <;> (apply lend))
    | ((with_reducible refine gA 3 ?_) <;> (iterate 5 refine sA ?_) <;> (apply lend))
    | ((with_reducible refine gA 4 ?_) <;> (refine sA ?_) <;> (apply lend))
    | ((with_reducible refine gA 5 ?_) <;> (iterate 5 refine sA ?_) <;> (apply lend))
    | ((with_reducible refine gA 6 ?_) <;> (refine sA ?_) <;> (apply lend))
    | ((with_reducible refine gA 7 ?_) <;> (iterate 5 refine sA ?_) <;> (apply lend))
    | ((with_reducible refine gA 8 ?_) <;> (refine sA ?_) <;> (apply lend))
    | ((with_reducible refine gA 9 ?_) <;> (iterate 5 refine sA ?_) <;> (apply lend))
    | ((with_reducible refine gA 10 ?_) <;> (refine sA ?_) <;> (apply lend))
    | ((with_reducible refine gA 11 ?_) <;> (iterate 5 refine sA ?_) <;> (apply lend))
    | ((with_reducible refine gA 12 ?_) <;> (refine sA ?_) <;> (apply lend))
    | ((with_reducible refine gA 13 ?_) <;> (iterate 5 refine sA ?_) <;> (apply lend))
    | ((with_reducible refine gA 14 ?_) <;> (refine sA ?_) <;> (apply lend))
    | ((with_reducible refine gA 15 ?_) <;> (iterate 5 refine sA ?_) <;> (apply lend))
    | ((with_reducible refine gA 16 ?_) <;> (refine sA ?_) <;> (apply lend))
    | ((with_reducible refine gA 17 ?_) <;> (iterate 5 refine sA ?_) <;> (apply lend))
    | ((with_reducible refine gA 18 ?_) <;> (refine sA ?_) <;> (apply lend))
    | ((with_reducible refine gA 19 ?_) <;> (iterate 5 refine sA ?_) <;> (apply lend))
    | ((with_reducible refine gA 20 ?_) <;> (refine sA ?_) <;> (apply lend))
    | ((with_reducible refine gA 21 ?_) <;> (iterate 5 refine sA ?_) <;> (apply lend))
    | ((with_reducible refine gA 22 ?_) <;> (refine sA ?_) <;> (apply lend))
    | ((with_reducible refine gA 23 ?_) <;> (iterate 5 refine sA ?_) <;> (apply lend))
    | ((with_reducible refine gA 24 ?_) <;> (refine sA ?_) <;> (apply lend))
    | ((with_reducible refine gA 25 ?_) <;> (iterate 4 refine sA ?_) <;> ((replace HH := bA HH); obtain ⟨_, A69_, HH⟩ := HH; (try dsimp only at HH)) <;> (repeat' (with_reducible first | exact xE HH | (replace HH := iA HP HH; clear HP; rcases HH with ⟨p, HP, HH⟩ | ⟨p, HP, HH⟩ <;> first | subst p | cases p | skip) | fail)) <;> (refine HF.dB Tryz.func13 (by (with_reducible apply laws_eqByteS.calls (_r := true) (h := A69_.out)) <;> exact gP) ?_; clear HF A69_; intro w_ HF) <;> (refine sA ?_) <;> (apply lend))
    | ((with_reducible refine gA 26 ?_) <;> (refine sA ?_) <;> (apply lend))
    | ((with_reducible refine gA 27 ?_) <;> (iterate 4 refine sA ?_) <;> ((replace HH := bA HH); obtain ⟨_, A75_, HH⟩ := HH; (try dsimp only at HH)) <;> (repeat' (with_reducible first | exact xE HH | (replace HH := iA HP HH; clear HP; rcases HH with ⟨p, HP, HH⟩ | ⟨p, HP, HH⟩ <;> first | subst p | cases p | skip) | fail)) <;> (refine HF.dB Tryz.func13 (by (with_reducible apply laws_eqByteS.calls (_r := true) (h := A75_.out)) <;> exact gP) ?_; clear HF A75_; intro w_ HF) <;> (refine sA ?_) <;> (apply lend))
    | ((with_reducible refine gA 28 ?_) <;> (refine sA ?_) <;> (apply lend))
    | ((with_reducible refine gA 29 ?_) <;> (refine sA ?_) <;> (apply lend))
    | go_step | fail))
 all_goals (have h_ := HH.out; clear HH; cases h_ <;> (go_ret; first
   | exact ⟨vE, HF.below⟩))

/-! ### laws_eqPacket: function 10 -/
def laws_eqPacket.f (k : Nat) (a0_0 a0_1 : Int) (a0_2 a0_3 a0_4 : Int) (l0_5 : List Int) (a0_6 a0_7 : Int) (a0_8 a0_9 : Int) (a0_10 a0_11 : Int) (a0_12 a0_13 : Int) (a0_14 a0_15 : Int) (a0_16 a0_17 : Int) (a0_18 a0_19 : Int) (a0_20 a0_21 a0_22 : Int) (l0_23 l0_24 : List Int) (a0_25 a0_26 : Int) (a0_27 a0_28 : Int) (a0_29 a0_30 : Int) (a0_31 a0_32 : Int) (a0_33 a0_34 : Int) (a0_35 a0_36 : Int) (a0_37 a0_38 : Int) (l0_39 : List (S102)) (l0_40 : List Int) (a0_41 a0_42 : Int) (a0_43 a0_44 : Int) (a0_45 a0_46 : Int) (a0_47 a0_48 : Int) (a0_49 a0_50 a0_51 : Int) (a0_52 : Bool) (l0_53 l0_54 l0_55 : List Int) (a1_0 a1_1 : Int) (a1_2 a1_3 a1_4 : Int) (l1_5 : List Int) (a1_6 a1_7 : Int) (a1_8 a1_9 : Int) (a1_10 a1_11 : Int) (a1_12 a1_13 : Int) (a1_14 a1_15 : Int) (a1_16 a1_17 : Int) (a1_18 a1_19 : Int) (a1_20 a1_21 a1_22 : Int) (l1_23 l1_24 : List Int) (a1_25 a1_26 : Int) (a1_27 a1_28 : Int) (a1_29 a1_30 : Int) (a1_31 a1_32 : Int) (a1_33 a1_34 : Int) (a1_35 a1_36 : Int) (a1_37 a1_38 : Int) (l1_39 : List (S102)) (l1_40 : List Int) (a1_41 a1_42 : Int) (a1_43 a1_44 : Int) (a1_45 a1_46 : Int) (a1_47 a1_48 : Int) (a1_49 a1_50 a1_51 : Int) (a1_52 : Bool) (l1_53 l1_54 l1_55 : List Int) : Option (Bool) := if a0_0 = a1_0 then ((laws_eqEther.f k a0_1 a0_2 a0_3 a0_4 l0_5 a1_1 a1_2 a1_3 a1_4 l1_5).bind fun t1179 => (if t1179 = true then ((laws_eqFour.f k a0_6 a0_7 a0_8 a0_9 a0_10 a0_11 a0_12 a0_13 a0_14 a0_15 a0_16 a0_17 a0_18 a0_19 a0_20 a0_21 a0_22 l0_23 l0_24 a1_6 a1_7 a1_8 a1_9 a1_10 a1_11 a1_12 a1_13 a1_14 a1_15 a1_16 a1_17 a1_18 a1_19 a1_20 a1_21 a1_22 l1_23 l1_24).bind fun t1180 => (if t1180 = true then ((laws_eqSix.f k a0_25 a0_26 a0_27 a0_28 a0_29 a0_30 a0_31 a0_32 a0_33 a0_34 a0_35 a0_36 a0_37 a0_38 l0_39 l0_40 a1_25 a1_26 a1_27 a1_28 a1_29 a1_30 a1_31 a1_32 a1_33 a1_34 a1_35 a1_36 a1_37 a1_38 l1_39 l1_40).bind fun t1181 => (if t1181 = true then ((laws_eqUpper.f k a0_41 a0_42 a0_43 a0_44 a0_45 a0_46 a0_47 a0_48 a0_49 a0_50 a0_51 a0_52 l0_53 l0_54 a1_41 a1_42 a1_43 a1_44 a1_45 a1_46 a1_47 a1_48 a1_49 a1_50 a1_51 a1_52 l1_53 l1_54).bind fun t1182 => (if t1182 = true then ((laws_eqByteS.f k l0_55 l1_55).bind fun t1183 => (if t1183 = true then (some true) else (some false))) else (some false))) else (some false))) else (some false))) else (some false))) else (some false)
theorem laws_eqPacket.calls (k : Nat) (a0_0 a0_1 : Int) (a0_2 a0_3 a0_4 : Int) (A0_5 : Option Addr) (c0_5 : Nat) (l0_5 : List Int) (a0_6 a0_7 : Int) (a0_8 a0_9 : Int) (a0_10 a0_11 : Int) (a0_12 a0_13 : Int) (a0_14 a0_15 : Int) (a0_16 a0_17 : Int) (a0_18 a0_19 : Int) (a0_20 a0_21 a0_22 : Int) (A0_23 : Option Addr) (c0_23 : Nat) (l0_23 : List Int) (A0_24 : Option Addr) (c0_24 : Nat) (l0_24 : List Int) (a0_25 a0_26 : Int) (a0_27 a0_28 : Int) (a0_29 a0_30 : Int) (a0_31 a0_32 : Int) (a0_33 a0_34 : Int) (a0_35 a0_36 : Int) (a0_37 a0_38 : Int) (A0_39 : Option Addr) (c0_39 : Nat) (l0_39 : List (S102)) (A0_40 : Option Addr) (c0_40 : Nat) (l0_40 : List Int) (a0_41 a0_42 : Int) (a0_43 a0_44 : Int) (a0_45 a0_46 : Int) (a0_47 a0_48 : Int) (a0_49 a0_50 a0_51 : Int) (a0_52 : Bool) (A0_53 : Option Addr) (c0_53 : Nat) (l0_53 : List Int) (A0_54 : Option Addr) (c0_54 : Nat) (l0_54 : List Int) (A0_55 : Option Addr) (c0_55 : Nat) (l0_55 : List Int) (a1_0 a1_1 : Int) (a1_2 a1_3 a1_4 : Int) (A1_5 : Option Addr) (c1_5 : Nat) (l1_5 : List Int) (a1_6 a1_7 : Int) (a1_8 a1_9 : Int) (a1_10 a1_11 : Int) (a1_12 a1_13 : Int) (a1_14 a1_15 : Int) (a1_16 a1_17 : Int) (a1_18 a1_19 : Int) (a1_20 a1_21 a1_22 : Int) (A1_23 : Option Addr) (c1_23 : Nat) (l1_23 : List Int) (A1_24 : Option Addr) (c1_24 : Nat) (l1_24 : List Int) (a1_25 a1_26 : Int) (a1_27 a1_28 : Int) (a1_29 a1_30 : Int) (a1_31 a1_32 : Int) (a1_33 a1_34 : Int) (a1_35 a1_36 : Int) (a1_37 a1_38 : Int) (A1_39 : Option Addr) (c1_39 : Nat) (l1_39 : List (S102)) (A1_40 : Option Addr) (c1_40 : Nat) (l1_40 : List Int) (a1_41 a1_42 : Int) (a1_43 a1_44 : Int) (a1_45 a1_46 : Int) (a1_47 a1_48 : Int) (a1_49 a1_50 a1_51 : Int) (a1_52 : Bool) (A1_53 : Option Addr) (c1_53 : Nat) (l1_53 : List Int) (A1_54 : Option Addr) (c1_54 : Nat) (l1_54 : List Int) (A1_55 : Option Addr) (c1_55 : Nat) (l1_55 : List Int) (_r : Bool) (w : World) (hr0_5 : Kd.C (Kd.int .u8) w A0_5 l0_5.length l0_5) (hc0_5 : l0_5.length ≤ c0_5) (hr0_23 : Kd.C (Kd.int .u8) w A0_23 l0_23.length l0_23) (hc0_23 : l0_23.length ≤ c0_23) (hr0_24 : Kd.C (Kd.int .u8) w A0_24 l0_24.length l0_24) (hc0_24 : l0_24.length ≤ c0_24) (hr0_39 : Kd.C k102 w A0_39 l0_39.length l0_39) (hc0_39 : l0_39.length ≤ c0_39) (hr0_40 : Kd.C (Kd.int .u8) w A0_40 l0_40.length l0_40) (hc0_40 : l0_40.length ≤ c0_40) (hr0_53 : Kd.C (Kd.int .u8) w A0_53 l0_53.length l0_53) (hc0_53 : l0_53.length ≤ c0_53) (hr0_54 : Kd.C (Kd.int .u8) w A0_54 l0_54.length l0_54) (hc0_54 : l0_54.length ≤ c0_54) (hr0_55 : Kd.C (Kd.int .u8) w A0_55 l0_55.length l0_55) (hc0_55 : l0_55.length ≤ c0_55) (hr1_5 : Kd.C (Kd.int .u8) w A1_5 l1_5.length l1_5) (hc1_5 : l1_5.length ≤ c1_5) (hr1_23 : Kd.C (Kd.int .u8) w A1_23 l1_23.length l1_23) (hc1_23 : l1_23.length ≤ c1_23) (hr1_24 : Kd.C (Kd.int .u8) w A1_24 l1_24.length l1_24) (hc1_24 : l1_24.length ≤ c1_24) (hr1_39 : Kd.C k102 w A1_39 l1_39.length l1_39) (hc1_39 : l1_39.length ≤ c1_39) (hr1_40 : Kd.C (Kd.int .u8) w A1_40 l1_40.length l1_40) (hc1_40 : l1_40.length ≤ c1_40) (hr1_53 : Kd.C (Kd.int .u8) w A1_53 l1_53.length l1_53) (hc1_53 : l1_53.length ≤ c1_53) (hr1_54 : Kd.C (Kd.int .u8) w A1_54 l1_54.length l1_54) (hc1_54 : l1_54.length ≤ c1_54) (hr1_55 : Kd.C (Kd.int .u8) w A1_55 l1_55.length l1_55) (hc1_55 : l1_55.length ≤ c1_55) (h : laws_eqPacket.f k a0_0 a0_1 a0_2 a0_3 a0_4 l0_5 a0_6 a0_7 a0_8 a0_9 a0_10 a0_11 a0_12 a0_13 a0_14 a0_15 a0_16 a0_17 a0_18 a0_19 a0_20 a0_21 a0_22 l0_23 l0_24 a0_25 a0_26 a0_27 a0_28 a0_29 a0_30 a0_31 a0_32 a0_33 a0_34 a0_35 a0_36 a0_37 a0_38 l0_39 l0_40 a0_41 a0_42 a0_43 a0_44 a0_45 a0_46 a0_47 a0_48 a0_49 a0_50 a0_51 a0_52 l0_53 l0_54 l0_55 a1_0 a1_1 a1_2 a1_3 a1_4 l1_5 a1_6 a1_7 a1_8 a1_9 a1_10 a1_11 a1_12 a1_13 a1_14 a1_15 a1_16 a1_17 a1_18 a1_19 a1_20 a1_21 a1_22 l1_23 l1_24 a1_25 a1_26 a1_27 a1_28 a1_29 a1_30 a1_31 a1_32 a1_33 a1_34 a1_35 a1_36 a1_37 a1_38 l1_39 l1_40 a1_41 a1_42 a1_43 a1_44 a1_45 a1_46 a1_47 a1_48 a1_49 a1_50 a1_51 a1_52 l1_53 l1_54 l1_55 = some true) :
  Calls Tryz.prog 10 #[.agg #[.int .i64 a0_0, .int .i64 a0_1, .int .i64 a0_2, .int .i64 a0_3, .int .i64 a0_4, .slice A0_5 l0_5.length c0_5, .int .i64 a0_6, .int .i64 a0_7, .int .i64 a0_8, .int .i64 a0_9, .int .i64 a0_10, .int .i64 a0_11, .int .i64 a0_12, .int .i64 a0_13, .int .i64 a0_14, .int .i64 a0_15, .int .i64 a0_16, .int .i64 a0_17, .int .i64 a0_18, .int .i64 a0_19, .int .i64 a0_20, .int .i64 a0_21, .int .i64 a0_22, .slice A0_23 l0_23.length c0_23, .slice A0_24 l0_24.length c0_24, .int .i64 a0_25, .int .i64 a0_26, .int .i64 a0_27, .int .i64 a0_28, .int .i64 a0_29, .int .i64 a0_30, .int .i64 a0_31, .int .i64 a0_32, .int .i64 a0_33, .int .i64 a0_34, .int .i64 a0_35, .int .i64 a0_36, .int .i64 a0_37, .int .i64 a0_38, .slice A0_39 l0_39.length c0_39, .slice A0_40 l0_40.length c0_40, .int .i64 a0_41, .int .i64 a0_42, .int .i64 a0_43, .int .i64 a0_44, .int .i64 a0_45, .int .i64 a0_46, .int .i64 a0_47, .int .i64 a0_48, .int .i64 a0_49, .int .i64 a0_50, .int .i64 a0_51, .bool a0_52, .slice A0_53 l0_53.length c0_53, .slice A0_54 l0_54.length c0_54, .slice A0_55 l0_55.length c0_55], .agg #[.int .i64 a1_0, .int .i64 a1_1, .int .i64 a1_2, .int .i64 a1_3, .int .i64 a1_4, .slice A1_5 l1_5.length c1_5, .int .i64 a1_6, .int .i64 a1_7, .int .i64 a1_8, .int .i64 a1_9, .int .i64 a1_10, .int .i64 a1_11, .int .i64 a1_12, .int .i64 a1_13, .int .i64 a1_14, .int .i64 a1_15, .int .i64 a1_16, .int .i64 a1_17, .int .i64 a1_18, .int .i64 a1_19, .int .i64 a1_20, .int .i64 a1_21, .int .i64 a1_22, .slice A1_23 l1_23.length c1_23, .slice A1_24 l1_24.length c1_24, .int .i64 a1_25, .int .i64 a1_26, .int .i64 a1_27, .int .i64 a1_28, .int .i64 a1_29, .int .i64 a1_30, .int .i64 a1_31, .int .i64 a1_32, .int .i64 a1_33, .int .i64 a1_34, .int .i64 a1_35, .int .i64 a1_36, .int .i64 a1_37, .int .i64 a1_38, .slice A1_39 l1_39.length c1_39, .slice A1_40 l1_40.length c1_40, .int .i64 a1_41, .int .i64 a1_42, .int .i64 a1_43, .int .i64 a1_44, .int .i64 a1_45, .int .i64 a1_46, .int .i64 a1_47, .int .i64 a1_48, .int .i64 a1_49, .int .i64 a1_50, .int .i64 a1_51, .bool a1_52, .slice A1_53 l1_53.length c1_53, .slice A1_54 l1_54.length c1_54, .slice A1_55 l1_55.length c1_55]] w fun e w' => e = .returned (.bool true) ∧ Below w.heap.size w w' := by
 have hu47 := Tryz.underlying47
 have HR0_5 := Aside0.mk hr0_5
 have HC0_5 := Aside0.mk hc0_5
 have HR0_23 := Aside0.mk hr0_23
 have HC0_23 := Aside0.mk hc0_23
 have HR0_24 := Aside0.mk hr0_24
 have HC0_24 := Aside0.mk hc0_24
 have HR0_39 := Aside0.mk hr0_39
 have HC0_39 := Aside0.mk hc0_39
 have HR0_40 := Aside0.mk hr0_40
 have HC0_40 := Aside0.mk hc0_40
 have HR0_53 := Aside0.mk hr0_53
 have HC0_53 := Aside0.mk hc0_53
 have HR0_54 := Aside0.mk hr0_54
 have HC0_54 := Aside0.mk hc0_54
 have HR0_55 := Aside0.mk hr0_55
 have HC0_55 := Aside0.mk hc0_55
 have HR1_5 := Aside0.mk hr1_5
 have HC1_5 := Aside0.mk hc1_5
 have HR1_23 := Aside0.mk hr1_23
 have HC1_23 := Aside0.mk hc1_23
 have HR1_24 := Aside0.mk hr1_24
 have HC1_24 := Aside0.mk hc1_24
 have HR1_39 := Aside0.mk hr1_39
 have HC1_39 := Aside0.mk hc1_39
 have HR1_40 := Aside0.mk hr1_40
 have HC1_40 := Aside0.mk hc1_40
 have HR1_53 := Aside0.mk hr1_53
 have HC1_53 := Aside0.mk hc1_53
 have HR1_54 := Aside0.mk hr1_54
 have HC1_54 := Aside0.mk hc1_54
 have HR1_55 := Aside0.mk hr1_55
 have HC1_55 := Aside0.mk hc1_55
 clear hr0_5 hc0_5 hr0_23 hc0_23 hr0_24 hc0_24 hr0_39 hc0_39 hr0_40 hc0_40 hr0_53 hc0_53 hr0_54 hc0_54 hr0_55 hc0_55 hr1_5 hc1_5 hr1_23 hc1_23 hr1_24 hc1_24 hr1_39 hc1_39 hr1_40 hc1_40 hr1_53 hc1_53 hr1_54 hc1_54 hr1_55 hc1_55
 have HF := Fr.start [47] w
 have HP := Aside0.mk True.intro
 unfold laws_eqPacket.f at h
 have HH := Aside0.mk h
 clear h
 go_enter Tryz.func10, Tryz.ntmps10
 repeat' (with_reducible first | exact xE HH | (replace HH := iA HP HH; clear HP; rcases HH with ⟨p, HP, HH⟩ | ⟨p, HP, HH⟩ <;> first | subst p | cases p | skip) | fail)
 all_goals (repeat' (first
    | ((with_reducible refine gA 0 ?_) <;> (refine HF.bA ?_; clear HF; intro g_ w_ HF; refine nA ?_) <;> (refine HF.bA ?_; clear HF; intro g_ w_ HF; refine nA ?_) <;> (refine sA ?_) <;> (apply lend))
    | ((with_reducible refine gA 1 ?_) <;> (iterate 5 refine sA ?_) <;> (apply lend))
    | ((with_reducible refine gA 2 ?_) <;> (refine sA ?_) <;> (apply lend))
    | ((with_reducible refine gA 3 ?_) <;> (iterate 4 refine sA ?_) <;> ((replace HH := bA HH); obtain ⟨_, A14_, HH⟩ := HH; (try dsimp only at HH)) <;> (repeat' (with_reducible first | exact xE HH | (replace HH := iA HP HH; clear HP; rcases HH with ⟨p, HP, HH⟩ | ⟨p, HP, HH⟩ <;> first | subst p | cases p | skip) | fail)) <;> (refine HF.cB Tryz.func31 (by (with_reducible apply laws_eqEther.calls (_r := true) (h := A14_.out)) <;> exact gP) ?_; clear HF A14_; intro w_ HF) <;> (refine sA ?_) <;> (apply lend))
    | ((with_reducible refine gA 4 ?_) <;> (refine sA ?_) <;> (apply lend))
    | ((with_reducible refine gA 5 ?_) <;> (iterate 4 refine sA ?_) <;> ((replace HH := bA HH); obtain ⟨_, A20_, HH⟩ := HH; (try dsimp only at HH)) <;> (repeat' (with_reducible first | exact xE HH | (replace HH := iA HP HH; clear HP; rcases HH with ⟨p, HP, HH⟩ | ⟨p, HP, HH⟩ <;> first | subst p | cases p | skip) | fail)) <;> (refine HF.cB Tryz.func32 (by (with_reducible apply laws_eqFour.calls (_r := true) (h := A20_.out)) <;> exact gP) ?_; clear HF A20_; intro w_ HF) <;> (refine sA ?_) <;> (apply lend))
    | ((with_reducible refine gA 6 ?_) <;> (refine sA ?_) <;> (apply lend))
    | ((with_reducible refine gA 7 ?_) <;> (iterate 4 refine sA ?_) <;> ((replace HH := bA HH); obtain ⟨_, A26_, HH⟩ := HH; (try dsimp only at HH)) <;> (repeat' (with_reducible first | exact xE HH | (replace HH := iA HP HH; clear HP; rcases HH with ⟨p, HP, HH⟩ | ⟨p, HP, HH⟩ <;> first | subst p | cases p | skip) | fail)) <;> (refine HF.cB Tryz.func33 (by (with_reducible apply laws_eqSix.calls (_r := true) (h := A26_.out)) <;> exact gP) ?_; clear HF A26_; intro w_ HF) <;> (refine sA ?_) <;> (apply lend))
    | ((with_reducible refine gA 8 ?_) <;> (refine sA ?_) <;> (apply lend))
    | ((with_reducible refine gA 9 ?_) <;> (iterate 4 refine sA ?_) <;> ((replace HH := bA HH); obtain ⟨_, A32_, HH⟩ := HH; (try dsimp only at HH)) <;> (repeat' (with_reducible first | exact xE HH | (replace HH := iA HP HH; clear HP; rcases HH with ⟨p, HP, HH⟩ | ⟨p, HP, HH⟩ <;> first | subst p | cases p | skip) | fail)) <;> (refine HF.cB Tryz.func34 (by (with_reducible apply laws_eqUpper.calls (_r := true) (h := A32_.out)) <;> exact gP) ?_; clear HF A32_; intro w_ HF) <;> (refine sA ?_) <;> (apply lend))
    | ((with_reducible refine gA 10 ?_) <;> (refine sA ?_) <;> (apply lend))
    | ((with_reducible refine gA 11 ?_) <;> (iterate 4 refine sA ?_) <;> ((replace HH := bA HH); obtain ⟨_, A38_, HH⟩ := HH; (try dsimp only at HH)) <;> (repeat' (with_reducible first | exact xE HH | (replace HH := iA HP HH; clear HP; rcases HH with ⟨p, HP, HH⟩ | ⟨p, HP, HH⟩ <;> first | subst p | cases p | skip) | fail)) <;> (refine HF.dB Tryz.func13 (by (with_reducible apply laws_eqByteS.calls (_r := true) (h := A38_.out)) <;> exact gP) ?_; clear HF A38_; intro w_ HF) <;> (refine sA ?_) <;> (apply lend))
    | ((with_reducible refine gA 12 ?_) <;> (refine sA ?_) <;> (apply lend))
    | ((with_reducible refine gA 13 ?_) <;> (refine sA ?_) <;> (apply lend))
    | go_step | fail))
 all_goals (have h_ := HH.out; clear HH; cases h_ <;> (go_ret; first
   | exact ⟨vE, HF.below⟩))

end Go.Proofs.YtffkgndghbdgnaaGreat.FFnExactPacketSize
