-- Functions and their contracts, written by a program of this claim (wip/tools/oprint.py) out of the translation.
import Derived.Test.YtdbiejkaplndgaaGFnExactUpperReadx0
import Derived.Test.YtdbiejkaplndgaaVFnExactUpperRead
import Derived.Test.YtdbiejkaplndgaaGFnExactUpperReadx9
import Derived.Test.YtdbiejkaplndgaaGFnExactUpperReadx11
namespace Go.Proofs.Ytdbiejkaplndgaa.FFnExactUpperRead
open Go.RowKit Go.Proofs.YtdbiejkaplndgaaW.PrintWords Go.Proofs.YtdbiejkaplndgaaW.PrintLast Go.Proofs.YtdbiejkaplndgaaW.PrintMore Go.Proofs.Ytdbiejkaplndgaa.Frame
attribute [local go_sem] max2_int min2_int max_two min_two max_three min_three max_four min_four   -- for this text's walks alone
set_option linter.unusedVariables false
set_option linter.unusedSimpArgs false

/-! ### impl_AddrBytes: function 63 -/
def impl_AddrBytes.f (k : Nat) (a0_0 : Int) (a0_1 : Int) (a0_2 : Int) (a0_3 : Int) (a0_4 : Int) : Option (List Int) := (impl_AddrOk.f a0_0 a0_1 a0_2 a0_3 a0_4).bind fun t553 => (if t553 = true then (if a0_0 = 4 then ((impl_Put32.f k a0_4).bind fun t554 => (some t554)) else ((impl_Put32.f k a0_1).bind fun t557 => ((impl_Put32.f k a0_2).bind fun t560 => ((impl_Put32.f k a0_3).bind fun t563 => ((impl_Put32.f k a0_4).bind fun t566 => ((slices_Concat_byte_byte.f k (([t557, t560, t563, t566] : List (List Int)))).bind fun t572 => (some t572))))))) else (some ([] : List Int)))
theorem impl_AddrBytes.mono : ∀ a0 a1 a2 a3 a4 k, LeO (impl_AddrBytes.f k a0 a1 a2 a3 a4) (impl_AddrBytes.f (k + 1) a0 a1 a2 a3 a4) := by
 intro a0 a1 a2 a3 a4 k
 unfold impl_AddrBytes.f
 repeat' first
   | (with_reducible exact impl_Put32.mono _ _)
   | (with_reducible exact slices_Concat_byte_byte.mono _ _)
   | (with_reducible exact LeO.refl _)
   | (with_reducible exact LeO.none _)
   | (with_reducible refine LeO.ite ?_ ?_)
   | (with_reducible refine LeO.bind ?_ (fun _ => ?_))
   | exact impl_Put32.mono _ _
   | exact slices_Concat_byte_byte.mono _ _
   | exact LeO.none _
   | refine LeO.ite ?_ ?_
   | refine LeO.bind ?_ (fun _ => ?_)
def impl_AddrBytes.T5 : Bool × List (List Nat × List Nat) := (true, [([], []), ([0], [0]), ([1], [1]), ([], []), ([3], [3]), ([4, 2], [4]), ([], []), ([6], [6]), ([7, 5], [7]), ([], []), ([9], [9]), ([10, 8], [10]), ([2, 5, 8, 11], [2, 5, 8, 11]), ([12, 11], [12]), ([13, 13, 0, 1, 2, 3, 4, 5, 6, 7, 8, 9, 10, 11, 12, 13], [13])])
def impl_AddrBytes.B5 : List Nat := [0, 1, 3, 0, 8, 31, 0, 64, 255, 0, 512, 2047, 4095, 8191, 16383]
theorem impl_AddrBytes.tab5 : rtab .any (opsOf Try.f63 5) = impl_AddrBytes.T5 := by kernel_rfl
theorem impl_AddrBytes.bits5 : waitsOk impl_AddrBytes.T5.2 impl_AddrBytes.B5 = true := by kernel_rfl
set_option maxHeartbeats 8000000 in
set_option maxRecDepth 100000 in
theorem impl_AddrBytes.calls (k : Nat) (a0_0 : Int) (a0_1 : Int) (a0_2 : Int) (a0_3 : Int) (a0_4 : Int) (r : List Int) (w : World) (h : impl_AddrBytes.f k a0_0 a0_1 a0_2 a0_3 a0_4 = some r) :
  Calls Try.prog 63 #[.agg #[.int .i64 a0_0, .int .i64 a0_1, .int .i64 a0_2, .int .i64 a0_3, .int .i64 a0_4]] w fun e w' => ∃ v0_ : Value, e = .returned (v0_) ∧ Kd.R (Kd.int .u8) 5 w' w.heap.size (fun _ => True) v0_ r ∧ Below w.heap.size w w' := by
 have hu24 := Try.underlying24
 have hu103 := Try.underlying103
 have O3_ : IsOne Try.prog 3 := ⟨⟨_, Try.underlying3, rfl⟩, by kernel_rfl⟩
 have R24_ : IsRow Try.prog 24 5 := ⟨⟨_, Try.underlying24, rfl⟩, by kernel_rfl⟩
 have HF := Fr.start [24] w
 have HP := Aside0.mk True.intro
 unfold impl_AddrBytes.f at h
 have HH := Aside0.mk h
 clear h
 go_enter Try.func63, Try.ntmps63
 repeat' (first | ((with_reducible have h_ := iW HH); clear HH; rcases h_ with ⟨c_, h_⟩ | ⟨c_, h_⟩ <;> (have HH := Aside0.mk h_; clear h_; first | (with_reducible exact (none_ne HH.out).elim) | (replace HP := Aside0.mk (And.intro c_ HP.out); first | (replace c_ := kT c_; subst c_) | (replace c_ := kF c_; subst c_) | (replace c_ := kE c_; subst c_) | (replace c_ := kT c_; try have := kN c_) | (replace c_ := kF c_) | (have := kA c_; have := kB c_; clear c_) | (have := kC c_; have := kD c_; clear c_) | (have := kL c_; clear c_) | (have := kS c_; clear c_) | (have := kM c_; clear c_) | (have := kU c_; clear c_)))) | (with_reducible exact (none_ne HH.out).elim) | (with_reducible exact (ft_ne HH.out).elim) | fail)
 all_goals (repeat' (first
    | (((with_reducible refine gate_region (id := 0) ?_); apply plain_region) <;>
    ((with_reducible apply Fr.lbox HF rfl rfl rfl); (go_simp; rfl); decide; clear HF; intro g_ w_ HF; (refine lnorm (a' := ?_) ?_ ?_; rotate_left; (simp only [nP, nT, nZ, nS, xA, xB, xC, xD, Int.reduceToNat]; rfl))) <;>
    (apply lpure rfl rfl; (go_simp; with_reducible rfl); (simp only [nP, nT, nZ, nS, xA, xB, xC, xD, Int.reduceToNat]; rfl)) <;>
    (apply lend))
    | (((with_reducible refine gate_region (id := 1) ?_); apply plain_region) <;>
    (apply HF.lrow rfl rfl rfl R24_ rfl; (repeat (first | exact At.head | apply At.tail)); (simp only [List.drop_succ_cons, List.drop_zero, List.take_succ_cons, List.take_zero]; rfl); rfl; (simp only [nP, nT, nZ, nS, xA, xB, xC, xD, Int.reduceToNat]; rfl)) <;>
    ((with_reducible have h_ := bE HH); clear HH; obtain ⟨_, A_, h_⟩ := h_; (try dsimp only at h_); have HH := Aside0.mk h_; clear h_; have A5_ := Aside0.mk A_; clear A_) <;>
    (repeat' (first | ((with_reducible have h_ := iW HH); clear HH; rcases h_ with ⟨c_, h_⟩ | ⟨c_, h_⟩ <;> (have HH := Aside0.mk h_; clear h_; first | (with_reducible exact (none_ne HH.out).elim) | (replace HP := Aside0.mk (And.intro c_ HP.out); first | (replace c_ := kT c_; subst c_) | (replace c_ := kF c_; subst c_) | (replace c_ := kE c_; subst c_) | (replace c_ := kT c_; try have := kN c_) | (replace c_ := kF c_) | (have := kA c_; have := kB c_; clear c_) | (have := kC c_; have := kD c_; clear c_) | (have := kL c_; clear c_) | (have := kS c_; clear c_) | (have := kM c_; clear c_) | (have := kU c_; clear c_)))) | (with_reducible exact (none_ne HH.out).elim) | (with_reducible exact (ft_ne HH.out).elim) | fail)) <;>
    (apply lcall rfl rfl rfl Try.func90 (by kernel_rfl) rfl; (with_reducible apply Calls.mono); (with_reducible apply impl_AddrOk.calls (h := A5_.out)); rintro e w_ ⟨rfl, hb_⟩; refine ⟨_, rfl, ?_⟩; replace HF := HF.call hb_; clear hb_; rotate_left; (first | rfl | (simp only [mT, mC, mN]; first | done | rfl)); clear A5_; (refine lnorm (a' := ?_) ?_ ?_; rotate_left; (simp only [nP, nT, nZ, nS, xA, xB, xC, xD, Int.reduceToNat]; rfl))) <;>
    (apply lpure rfl rfl; (go_simp; with_reducible rfl); (simp only [nP, nT, nZ, nS, xA, xB, xC, xD, Int.reduceToNat]; rfl)) <;>
    (apply lpure rfl rfl; (go_simp; with_reducible rfl); (simp only [nP, nT, nZ, nS, xA, xB, xC, xD, Int.reduceToNat]; rfl)) <;>
    (apply lend))
    | (((with_reducible refine gate_region (id := 2) ?_); apply plain_region) <;>
    (apply lpure rfl rfl; (go_simp; with_reducible rfl); (simp only [nP, nT, nZ, nS, xA, xB, xC, xD, Int.reduceToNat]; rfl)) <;>
    (apply lend))
    | (((with_reducible refine gate_region (id := 3) ?_); apply plain_region) <;>
    (apply lpure rfl rfl; (go_simp; with_reducible rfl); (simp only [nP, nT, nZ, nS, xA, xB, xC, xD, Int.reduceToNat]; rfl)) <;>
    (apply HF.lone rfl rfl rfl O3_ rfl; (repeat (first | exact At.head | apply At.tail)); rfl; (simp only [nP, nT, nZ, nS, xA, xB, xC, xD, Int.reduceToNat]; rfl)) <;>
    (apply lpure rfl rfl; (go_simp; with_reducible rfl); (simp only [nP, nT, nZ, nS, xA, xB, xC, xD, Int.reduceToNat]; rfl)) <;>
    (apply lpure rfl rfl; (go_simp; with_reducible rfl); (simp only [nP, nT, nZ, nS, xA, xB, xC, xD, Int.reduceToNat]; rfl)) <;>
    (apply lend))
    | (((with_reducible refine gate_region (id := 4) ?_); apply plain_region) <;>
    (apply lpure rfl rfl; (go_simp; with_reducible rfl); (simp only [nP, nT, nZ, nS, xA, xB, xC, xD, Int.reduceToNat]; rfl)) <;>
    (apply HF.lone rfl rfl rfl O3_ rfl; (repeat (first | exact At.head | apply At.tail)); rfl; (simp only [nP, nT, nZ, nS, xA, xB, xC, xD, Int.reduceToNat]; rfl)) <;>
    ((with_reducible have h_ := bE HH); clear HH; obtain ⟨_, A_, h_⟩ := h_; (try dsimp only at h_); have HH := Aside0.mk h_; clear h_; have A13_ := Aside0.mk A_; clear A_) <;>
    (repeat' (first | ((with_reducible have h_ := iW HH); clear HH; rcases h_ with ⟨c_, h_⟩ | ⟨c_, h_⟩ <;> (have HH := Aside0.mk h_; clear h_; first | (with_reducible exact (none_ne HH.out).elim) | (replace HP := Aside0.mk (And.intro c_ HP.out); first | (replace c_ := kT c_; subst c_) | (replace c_ := kF c_; subst c_) | (replace c_ := kE c_; subst c_) | (replace c_ := kT c_; try have := kN c_) | (replace c_ := kF c_) | (have := kA c_; have := kB c_; clear c_) | (have := kC c_; have := kD c_; clear c_) | (have := kL c_; clear c_) | (have := kS c_; clear c_) | (have := kM c_; clear c_) | (have := kU c_; clear c_)))) | (with_reducible exact (none_ne HH.out).elim) | (with_reducible exact (ft_ne HH.out).elim) | fail)) <;>
    (apply lcall rfl rfl rfl Try.func61 (by kernel_rfl) rfl; (with_reducible apply Calls.mono); (with_reducible apply impl_Put32.calls (h := A13_.out)); rintro e w_ ⟨v0_, rfl, hov0_, hb_⟩; obtain ⟨Av13_0, cv13_0, rfl⟩ := Kd.R_slice hov0_; have HO13_0 := HF.row2 hov0_; have HB13 := Aside0.mk hb_.size; clear hov0_; refine ⟨_, rfl, ?_⟩; replace HF := (HF.call hb_).mark; clear hb_; rotate_left; (first | rfl | (simp only [mT, mC, mN]; first | done | rfl)); clear A13_; (refine lnorm (a' := ?_) ?_ ?_; rotate_left; (simp only [nP, nT, nZ, nS, xA, xB, xC, xD, Int.reduceToNat]; rfl))) <;>
    ((apply lpure rfl rfl; (go_simp; with_reducible rfl); (simp only [nP, nT, nZ, nS, xA, xB, xC, xD, Int.reduceToNat]; rfl)); (try clear HO2_0); have HO2_0 := HO13_0) <;>
    (apply lend))
    | (((with_reducible refine gate_region (id := 5) ?_); have HG := HF; refine HG.region2 HF (by kernel_rfl) rfl ?_; clear HF HG; intro w_ HF HG; refine with_tabW impl_AddrBytes.tab5 impl_AddrBytes.bits5 (fun HT_ HW_ => ?_)) <;>
    (repeat' (first | ((with_reducible have h_ := iW HH); clear HH; rcases h_ with ⟨c_, h_⟩ | ⟨c_, h_⟩ <;> (have HH := Aside0.mk h_; clear h_; first | (with_reducible exact (none_ne HH.out).elim) | (replace HP := Aside0.mk (And.intro c_ HP.out); first | (replace c_ := kT c_; subst c_) | (replace c_ := kF c_; subst c_) | (replace c_ := kE c_; subst c_) | (replace c_ := kT c_; try have := kN c_) | (replace c_ := kF c_) | (have := kA c_; have := kB c_; clear c_) | (have := kC c_; have := kD c_; clear c_) | (have := kL c_; clear c_) | (have := kS c_; clear c_) | (have := kM c_; clear c_) | (have := kU c_; clear c_)))) | (with_reducible exact (none_ne HH.out).elim) | (with_reducible exact (ft_ne HH.out).elim) | fail)) <;>
    ((with_reducible have h_ := bE HH); clear HH; obtain ⟨_, A_, h_⟩ := h_; (try dsimp only at h_); have HH := Aside0.mk h_; clear h_; have A16_ := Aside0.mk A_; clear A_) <;>
    (repeat' (first | ((with_reducible have h_ := iW HH); clear HH; rcases h_ with ⟨c_, h_⟩ | ⟨c_, h_⟩ <;> (have HH := Aside0.mk h_; clear h_; first | (with_reducible exact (none_ne HH.out).elim) | (replace HP := Aside0.mk (And.intro c_ HP.out); first | (replace c_ := kT c_; subst c_) | (replace c_ := kF c_; subst c_) | (replace c_ := kE c_; subst c_) | (replace c_ := kT c_; try have := kN c_) | (replace c_ := kF c_) | (have := kA c_; have := kB c_; clear c_) | (have := kC c_; have := kD c_; clear c_) | (have := kL c_; clear c_) | (have := kS c_; clear c_) | (have := kM c_; clear c_) | (have := kU c_; clear c_)))) | (with_reducible exact (none_ne HH.out).elim) | (with_reducible exact (ft_ne HH.out).elim) | fail)) <;>
    ((with_reducible have h_ := bE HH); clear HH; obtain ⟨_, A_, h_⟩ := h_; (try dsimp only at h_); have HH := Aside0.mk h_; clear h_; have A19_ := Aside0.mk A_; clear A_) <;>
    (repeat' (first | ((with_reducible have h_ := iW HH); clear HH; rcases h_ with ⟨c_, h_⟩ | ⟨c_, h_⟩ <;> (have HH := Aside0.mk h_; clear h_; first | (with_reducible exact (none_ne HH.out).elim) | (replace HP := Aside0.mk (And.intro c_ HP.out); first | (replace c_ := kT c_; subst c_) | (replace c_ := kF c_; subst c_) | (replace c_ := kE c_; subst c_) | (replace c_ := kT c_; try have := kN c_) | (replace c_ := kF c_) | (have := kA c_; have := kB c_; clear c_) | (have := kC c_; have := kD c_; clear c_) | (have := kL c_; clear c_) | (have := kS c_; clear c_) | (have := kM c_; clear c_) | (have := kU c_; clear c_)))) | (with_reducible exact (none_ne HH.out).elim) | (with_reducible exact (ft_ne HH.out).elim) | fail)) <;>
    ((with_reducible have h_ := bE HH); clear HH; obtain ⟨_, A_, h_⟩ := h_; (try dsimp only at h_); have HH := Aside0.mk h_; clear h_; have A22_ := Aside0.mk A_; clear A_) <;>
    (repeat' (first | ((with_reducible have h_ := iW HH); clear HH; rcases h_ with ⟨c_, h_⟩ | ⟨c_, h_⟩ <;> (have HH := Aside0.mk h_; clear h_; first | (with_reducible exact (none_ne HH.out).elim) | (replace HP := Aside0.mk (And.intro c_ HP.out); first | (replace c_ := kT c_; subst c_) | (replace c_ := kF c_; subst c_) | (replace c_ := kE c_; subst c_) | (replace c_ := kT c_; try have := kN c_) | (replace c_ := kF c_) | (have := kA c_; have := kB c_; clear c_) | (have := kC c_; have := kD c_; clear c_) | (have := kL c_; clear c_) | (have := kS c_; clear c_) | (have := kM c_; clear c_) | (have := kU c_; clear c_)))) | (with_reducible exact (none_ne HH.out).elim) | (with_reducible exact (ft_ne HH.out).elim) | fail)) <;>
    ((with_reducible have h_ := bE HH); clear HH; obtain ⟨_, A_, h_⟩ := h_; (try dsimp only at h_); have HH := Aside0.mk h_; clear h_; have A25_ := Aside0.mk A_; clear A_) <;>
    (repeat' (first | ((with_reducible have h_ := iW HH); clear HH; rcases h_ with ⟨c_, h_⟩ | ⟨c_, h_⟩ <;> (have HH := Aside0.mk h_; clear h_; first | (with_reducible exact (none_ne HH.out).elim) | (replace HP := Aside0.mk (And.intro c_ HP.out); first | (replace c_ := kT c_; subst c_) | (replace c_ := kF c_; subst c_) | (replace c_ := kE c_; subst c_) | (replace c_ := kT c_; try have := kN c_) | (replace c_ := kF c_) | (have := kA c_; have := kB c_; clear c_) | (have := kC c_; have := kD c_; clear c_) | (have := kL c_; clear c_) | (have := kS c_; clear c_) | (have := kM c_; clear c_) | (have := kU c_; clear c_)))) | (with_reducible exact (none_ne HH.out).elim) | (with_reducible exact (ft_ne HH.out).elim) | fail)) <;>
    ((with_reducible have h_ := bE HH); clear HH; obtain ⟨_, A_, h_⟩ := h_; (try dsimp only at h_); have HH := Aside0.mk h_; clear h_; have A27_ := Aside0.mk A_; clear A_) <;>
    (repeat' (first | ((with_reducible have h_ := iW HH); clear HH; rcases h_ with ⟨c_, h_⟩ | ⟨c_, h_⟩ <;> (have HH := Aside0.mk h_; clear h_; first | (with_reducible exact (none_ne HH.out).elim) | (replace HP := Aside0.mk (And.intro c_ HP.out); first | (replace c_ := kT c_; subst c_) | (replace c_ := kF c_; subst c_) | (replace c_ := kE c_; subst c_) | (replace c_ := kT c_; try have := kN c_) | (replace c_ := kF c_) | (have := kA c_; have := kB c_; clear c_) | (have := kC c_; have := kD c_; clear c_) | (have := kL c_; clear c_) | (have := kS c_; clear c_) | (have := kM c_; clear c_) | (have := kU c_; clear c_)))) | (with_reducible exact (none_ne HH.out).elim) | (with_reducible exact (ft_ne HH.out).elim) | fail)) <;>
    (apply Fr.rpure 0 rfl rfl rfl (any_of HT_.out (by kernel_rfl)) (fun _ _ _ h => h); (intro w_; go_simp; with_reducible rfl); (simp only [nP, nT, nZ, nS, xA, xB, xC, xD, Int.reduceToNat]; rfl)) <;>
    (apply HF.rone 1 rfl rfl rfl rfl (take_ofW HT_.out HW_.out (by kernel_rfl)) (fun _ _ _ h => h) O3_ rfl; (repeat (first | exact At.head | apply At.tail)); rfl; (simp only [nP, nT, nZ, nS, xA, xB, xC, xD, Int.reduceToNat]; rfl)) <;>
    (apply Fr.rpure 3 rfl rfl rfl (any_of HT_.out (by kernel_rfl)) (fun _ _ _ h => h); (intro w_; go_simp; with_reducible rfl); (simp only [nP, nT, nZ, nS, xA, xB, xC, xD, Int.reduceToNat]; rfl)) <;>
    (apply HF.rone 4 rfl rfl rfl rfl (take_ofW HT_.out HW_.out (by kernel_rfl)) (fun _ _ _ h => h) O3_ rfl; (repeat (first | exact At.head | apply At.tail)); rfl; (simp only [nP, nT, nZ, nS, xA, xB, xC, xD, Int.reduceToNat]; rfl)) <;>
    (apply Fr.rpure 6 rfl rfl rfl (any_of HT_.out (by kernel_rfl)) (fun _ _ _ h => h); (intro w_; go_simp; with_reducible rfl); (simp only [nP, nT, nZ, nS, xA, xB, xC, xD, Int.reduceToNat]; rfl)) <;>
    (apply HF.rone 7 rfl rfl rfl rfl (take_ofW HT_.out HW_.out (by kernel_rfl)) (fun _ _ _ h => h) O3_ rfl; (repeat (first | exact At.head | apply At.tail)); rfl; (simp only [nP, nT, nZ, nS, xA, xB, xC, xD, Int.reduceToNat]; rfl)) <;>
    (apply Fr.rpure 9 rfl rfl rfl (any_of HT_.out (by kernel_rfl)) (fun _ _ _ h => h); (intro w_; go_simp; with_reducible rfl); (simp only [nP, nT, nZ, nS, xA, xB, xC, xD, Int.reduceToNat]; rfl)) <;>
    (apply HF.rone 10 rfl rfl rfl rfl (take_ofW HT_.out HW_.out (by kernel_rfl)) (fun _ _ _ h => h) O3_ rfl; (repeat (first | exact At.head | apply At.tail)); rfl; (simp only [nP, nT, nZ, nS, xA, xB, xC, xD, Int.reduceToNat]; rfl)) <;>
    (apply rcall 2 rfl rfl rfl rfl (one_of HT_.out (by kernel_rfl)) (by simp) Try.func61 (by kernel_rfl) rfl; (with_reducible apply Calls.mono); (with_reducible apply impl_Put32.calls (h := A16_.out)); rintro e w_ ⟨v0_, rfl, hov0_, hb_⟩; obtain ⟨Av16_0, cv16_0, rfl⟩ := Kd.R_slice hov0_; have HO16_0 := HG.row2 hov0_; have HB16 := Aside0.mk hb_.size; clear hov0_; refine ⟨_, rfl, HF.call hb_, ?_⟩; replace HG := (HG.call hb_).mark; clear HF hb_; intro HF; rotate_left; (first | rfl | (simp only [mT, mC, mN]; first | done | rfl)); clear A16_; (refine norm_ (a' := ?_) ?_ ?_; rotate_left; (simp only [nP, nT, nZ, nS, xA, xB, xC, xD, Int.reduceToNat]; rfl))) <;>
    (apply rcall 5 rfl rfl rfl rfl (one_of HT_.out (by kernel_rfl)) (by simp) Try.func61 (by kernel_rfl) rfl; (with_reducible apply Calls.mono); (with_reducible apply impl_Put32.calls (h := A19_.out)); have HS19 := HG.since; rintro e w_ ⟨v0_, rfl, hov0_, hb_⟩; obtain ⟨Av19_0, cv19_0, rfl⟩ := Kd.R_slice hov0_; have HO19_0 := HG.row2 hov0_; have HB19 := Aside0.mk hb_.size; clear hov0_; refine ⟨_, rfl, HF.call hb_, ?_⟩; replace HG := (HG.call hb_).mark; clear HF hb_; intro HF; rotate_left; (first | rfl | (simp only [mT, mC, mN]; first | done | rfl)); clear A19_; (refine norm_ (a' := ?_) ?_ ?_; rotate_left; (simp only [nP, nT, nZ, nS, xA, xB, xC, xD, Int.reduceToNat]; rfl))) <;>
    (apply rcall 8 rfl rfl rfl rfl (one_of HT_.out (by kernel_rfl)) (by simp) Try.func61 (by kernel_rfl) rfl; (with_reducible apply Calls.mono); (with_reducible apply impl_Put32.calls (h := A22_.out)); have HS22 := HG.since; rintro e w_ ⟨v0_, rfl, hov0_, hb_⟩; obtain ⟨Av22_0, cv22_0, rfl⟩ := Kd.R_slice hov0_; have HO22_0 := HG.row2 hov0_; have HB22 := Aside0.mk hb_.size; clear hov0_; refine ⟨_, rfl, HF.call hb_, ?_⟩; replace HG := (HG.call hb_).mark; clear HF hb_; intro HF; rotate_left; (first | rfl | (simp only [mT, mC, mN]; first | done | rfl)); clear A22_; (refine norm_ (a' := ?_) ?_ ?_; rotate_left; (simp only [nP, nT, nZ, nS, xA, xB, xC, xD, Int.reduceToNat]; rfl))) <;>
    (apply rcall 11 rfl rfl rfl rfl (one_of HT_.out (by kernel_rfl)) (by simp) Try.func61 (by kernel_rfl) rfl; (with_reducible apply Calls.mono); (with_reducible apply impl_Put32.calls (h := A25_.out)); have HS25 := HG.since; rintro e w_ ⟨v0_, rfl, hov0_, hb_⟩; obtain ⟨Av25_0, cv25_0, rfl⟩ := Kd.R_slice hov0_; have HO25_0 := HG.row2 hov0_; have HB25 := Aside0.mk hb_.size; clear hov0_; refine ⟨_, rfl, HF.call hb_, ?_⟩; replace HG := (HG.call hb_).mark; clear HF hb_; intro HF; rotate_left; (first | rfl | (simp only [mT, mC, mN]; first | done | rfl)); clear A25_; (refine norm_ (a' := ?_) ?_ ?_; rotate_left; (simp only [nP, nT, nZ, nS, xA, xB, xC, xD, Int.reduceToNat]; rfl))) <;>
    (apply rbuild HF 12 rfl rfl rfl (one_of HT_.out (by kernel_rfl)) (by simp); (go_simp; first | exact ⟨rfl, rfl⟩ | exact ⟨rfl, rfl, rfl⟩ | rfl); clear HF; intro g_ w_ hg_ hb_ hh_ HF; replace HG := (HG.call hb_).mark; have HL26 := Aside0.mk hh_; clear hg_ hb_ hh_; (refine norm_ (a' := ?_) ?_ ?_; rotate_left; (simp only [nP, nT, nZ, nS, xA, xB, xC, xD, Int.reduceToNat]; rfl))) <;>
    (apply rcall 13 rfl rfl rfl rfl (one_of HT_.out (by kernel_rfl)) (by simp) Try.func60 (by kernel_rfl) rfl; (with_reducible apply Calls.mono); (with_reducible apply slices_Concat_byte_byte.calls (A0 := some ⟨_, 0, none⟩) (c0 := 4) (h := A27_.out)); exact (rowsC (HG.lit HL26 (by simp) (by decide)) (by (repeat' (first | exact RowsAt.nil | refine RowsAt.cons rfl ?_ ?_ ?_)); exact (HG.rowC HO16_0 (by simp) (by decide)).2; exact (HG.rowC HO16_0 (by simp) (by decide)).1; exact (HG.rowC HO19_0 (by simp) (by decide)).2; exact (HG.rowC HO19_0 (by simp) (by decide)).1; exact (HG.rowC HO22_0 (by simp) (by decide)).2; exact (HG.rowC HO22_0 (by simp) (by decide)).1; exact (HG.rowC HO25_0 (by simp) (by decide)).2; exact (HG.rowC HO25_0 (by simp) (by decide)).1) (by simp)); exact (Nat.le_refl _); have HS27 := HG.since; rintro e w_ ⟨v0_, rfl, hov0_, hb_⟩; obtain ⟨Av27_0, cv27_0, rfl⟩ := Kd.R_slice hov0_; have HO27_0 := HG.row2 hov0_; have HB27 := Aside0.mk hb_.size; clear hov0_; refine ⟨_, rfl, HF.call hb_, ?_⟩; replace HG := (HG.call hb_).mark; clear HF hb_; intro HF; rotate_left; (first | rfl | (simp only [mT, mC, mN]; first | done | rfl)); clear A27_; (refine norm_ (a' := ?_) ?_ ?_; rotate_left; (simp only [nP, nT, nZ, nS, xA, xB, xC, xD, Int.reduceToNat]; rfl))) <;>
    ((apply Fr.rpure 14 rfl rfl rfl (any_of HT_.out (by kernel_rfl)) (fun _ _ _ h => h); (intro w_; go_simp; with_reducible rfl); (simp only [nP, nT, nZ, nS, xA, xB, xC, xD, Int.reduceToNat]; rfl)); (try clear HO2_0); have HO2_0 := HO27_0) <;>
    (refine done_ (done_of HT_.out (by kernel_rfl)) ?_; clear HF; have HF := HG; clear HG))
    | go_step | fail))
 all_goals (have h_ := HH.out; clear HH; cases h_ <;> (go_ret; first
   | exact ⟨_, rfl, (Kd.R_nil _ _ _ _ _), HF.below⟩
   | exact ⟨_, rfl, (Kd.R_mono (HF.row_now HO2_0.out (by simp) (by decide)) (fun k_ hk_ => True.intro)), HF.below⟩))

/-! ### impl_sum: function 105 -/
def impl_sum.f (a0 : Int) (a1 : Int) : Option (Int) := if (wrap64 (a0 + a1)) > 65535 then (some (wrap64 ((wrap64 (a0 + a1)) - 65535))) else (some (wrap64 (a0 + a1)))
set_option maxHeartbeats 8000000 in
set_option maxRecDepth 100000 in
theorem impl_sum.calls (a0 : Int) (a1 : Int) (r : Int) (w : World) (h : impl_sum.f a0 a1 = some r) :
  Calls Try.prog 105 #[.int .i64 a0, .int .i64 a1] w fun e w' => e = .returned (.int .i64 r) ∧ Drawn0 w w' := by
 have H : (if (wrap64 (a0 + a1)) > 65535 then (some (wrap64 ((wrap64 (a0 + a1)) - 65535))) else (some (wrap64 (a0 + a1)))) = some r := h
 clear h
 by_cases c3 : (wrap64 (a0 + a1)) > 65535
 ·rw [if_pos c3] at H
  have c3b0 : decide (65535 < (wrap64 (a0 + a1))) = true := decide_eq_true c3
  clear c3
  obtain rfl := Option.some.inj H
  go_enter Try.func105, Try.ntmps105
  go_wp2
  go_ret
  exact ⟨by first | rfl | (simp; done) | (simp [*]; done), by repeat (first | exact Drawn0.refl _ | apply Drawn0.step)⟩
 ·rw [if_neg c3] at H
  have c3b0 : decide (65535 < (wrap64 (a0 + a1))) = false := decide_eq_false c3
  clear c3
  obtain rfl := Option.some.inj H
  go_enter Try.func105, Try.ntmps105
  go_wp2
  go_ret
  exact ⟨by first | rfl | (simp; done) | (simp [*]; done), by repeat (first | exact Drawn0.refl _ | apply Drawn0.step)⟩

/-! ### impl_onesSum: function 106 -/
def impl_onesSum.l0 : Nat → List Int → Int → Int → Option (Int)
 | 0, _, _, _ => none
 | k + 1, x0, x3, x4 => if x4 < (x0.length : Int) then (if 0 ≤ x4 then (if (wrap64 (x4 + 1)) < (x0.length : Int) then (if 0 ≤ (wrap64 (x4 + 1)) then ((impl_sum.f x3 (Go.bits .or .i64 (wrap64 ((wrap64 (rd x0 x4)) * 256)) (wrap64 (rd x0 (wrap64 (x4 + 1)))))).bind fun t577 => (impl_onesSum.l0 k x0 t577 (wrap64 (x4 + 2)))) else (none)) else ((impl_sum.f x3 (wrap64 ((wrap64 (rd x0 x4)) * 256))).bind fun t578 => (impl_onesSum.l0 k x0 t578 (wrap64 (x4 + 2))))) else (none)) else (some x3)
def impl_onesSum.f (k : Nat) (l0 : List Int) : Option (Int) := impl_onesSum.l0 k l0 0 0
theorem impl_onesSum.mono_l : ∀ k, (∀ y0 y1 y2, LeO (impl_onesSum.l0 k y0 y1 y2) (impl_onesSum.l0 (k + 1) y0 y1 y2))
 | 0 => fun _ _ _ r h => by simp [impl_onesSum.l0] at h
 | k + 1 => by
  have ih0 := impl_onesSum.mono_l k
  ·intro y0 y1 y2
   unfold impl_onesSum.l0
   repeat' first
   | (with_reducible exact ih0 _ _ _)
   | (with_reducible exact LeO.refl _)
   | (with_reducible exact LeO.none _)
   | (with_reducible refine LeO.ite ?_ ?_)
   | (with_reducible refine LeO.bind ?_ (fun _ => ?_))
   | exact ih0 _ _ _
   | exact LeO.none _
   | refine LeO.ite ?_ ?_
   | refine LeO.bind ?_ (fun _ => ?_)
theorem impl_onesSum.mono : ∀ a0 k, LeO (impl_onesSum.f k a0) (impl_onesSum.f (k + 1) a0) := by
 intro a0 k
 have ih0 := impl_onesSum.mono_l k
 unfold impl_onesSum.f
 repeat' first
   | (with_reducible exact ih0 _ _ _)
   | (with_reducible exact LeO.refl _)
   | (with_reducible exact LeO.none _)
   | (with_reducible refine LeO.ite ?_ ?_)
   | (with_reducible refine LeO.bind ?_ (fun _ => ?_))
   | exact ih0 _ _ _
   | exact LeO.none _
   | refine LeO.ite ?_ ?_
   | refine LeO.bind ?_ (fun _ => ?_)
set_option maxHeartbeats 8000000 in
set_option maxRecDepth 100000 in
theorem impl_onesSum.calls (k : Nat) (A0 : Option Addr) (c0 : Nat) (l0 : List Int) (r : Int) (w : World) (hr0 : Kd.C (Kd.int .u8) w A0 l0.length l0) (hc0 : l0.length ≤ c0) (h : impl_onesSum.f k l0 = some r) :
  Calls Try.prog 106 #[.slice A0 l0.length c0] w fun e w' => e = .returned (.int .i64 r) ∧ Drawn0 w w' := by
 have HR0 := Aside0.mk hr0
 have HC0 := Aside0.mk hc0
 clear hr0 hc0
 have H : (impl_onesSum.l0 k l0 0 0) = some r := h
 clear h
 have H' := Aside0.mk H
 clear H
 go_enter Try.func106, Try.ntmps106
 go_wp2
 go_loopg [3, 4] k (fun kq v3 v4 w' => ∃ (x3_1 : Int) (x4_1 : Int), v3 = .int .i64 x3_1 ∧ v4 = .int .i64 x4_1 ∧ Aside0 (impl_onesSum.l0 kq l0 x3_1 x4_1 = some r) ∧ Aside0 (kq ≤ k) ∧ Drawn0 w w')
 case atStart => exact ⟨(0), (0), (by first | rfl | (simp; done) | (simp [*]; done)), (by first | rfl | (simp; done) | (simp [*]; done)), H', ⟨Nat.le_refl _⟩, by repeat (first | exact Drawn0.refl _ | apply Drawn0.step)⟩
 case round =>
  clear H'
  try clear c1
  obtain ⟨x3_1, x4_1, rfl, rfl, HA, HK1, ⟨m1, rfl⟩⟩ := hrel
  cases gk with
  | zero => exact absurd HA.out (by simp [impl_onesSum.l0])
  | succ k1 =>
   have H := HA.out
   clear HA
   simp only [impl_onesSum.l0] at H
   by_cases c2 : x4_1 < (l0.length : Int)
   ·rw [if_pos c2] at H
    have c2b0 : decide (x4_1 < (l0.length : Int)) = true := decide_eq_true c2
    clear c2
    by_cases c3 : 0 ≤ x4_1
    ·rw [if_pos c3] at H
     have c3b0 : decide (0 ≤ x4_1) = true := decide_eq_true c3
     clear c3
     by_cases c4 : (wrap64 (x4_1 + 1)) < (l0.length : Int)
     ·rw [if_pos c4] at H
      have c4b0 : decide ((wrap64 (x4_1 + 1)) < (l0.length : Int)) = true := decide_eq_true c4
      clear c4
      obtain ⟨ji5, hji5⟩ : ∃ j_ : Int, (wrap64 (x4_1 + 1)) = j_ := ⟨_, rfl⟩
      replace H : (if 0 ≤ (ji5) then ((impl_sum.f x3_1 (Go.bits .or .i64 (wrap64 ((wrap64 (rd l0 x4_1)) * 256)) (wrap64 (rd l0 (ji5))))).bind fun t577 => (impl_onesSum.l0 k1 l0 t577 (wrap64 (x4_1 + 2)))) else (none)) = some r := by first | (rw [hji5] at H; exact H) | (simp only [hji5] at H ⊢; exact H)
      (try rw [hji5] at c4b0)
      have hji5w : (IntKind.i64.wrap (x4_1 + 1)) = ji5 := (i64_w _).trans hji5
      by_cases c6 : 0 ≤ (ji5)
      ·rw [if_pos c6] at H
       have c6b0 : decide (0 ≤ (ji5)) = true := decide_eq_true c6
       clear c6
       replace H := Option.bind_eq_some_iff.mp H
       obtain ⟨t577, A70, H⟩ := H
       replace H : (impl_onesSum.l0 k1 l0 t577 (wrap64 (x4_1 + 2))) = some r := H
       have A7 := Aside0.mk A70
       clear A70
       have H' := Aside0.mk H
       clear H
       have p575 : 0 ≤ (x4_1 : Int) := of_decide_eq_true (by first | (with_reducible assumption) | assumption)
       have q575 : x4_1 < (l0.length : Int) := of_decide_eq_true (by first | (with_reducible assumption) | assumption)
       obtain ⟨ad575, e575, hx575_0⟩ := Kd.at_int HR0.out x4_1 p575 q575
       cases e575
       replace p575 := eq_true p575
       replace q575 := eq_true q575
       have p576 : 0 ≤ ((ji5) : Int) := of_decide_eq_true (by first | (with_reducible assumption) | assumption)
       have q576 : (ji5) < (l0.length : Int) := of_decide_eq_true (by first | (with_reducible assumption) | assumption)
       obtain ⟨ad576, e576, hx576_0⟩ := Kd.at_int HR0.out (ji5) p576 q576
       obtain rfl : ad575 = ad576 := (by injection e576)
       replace p576 := eq_true p576
       replace q576 := eq_true q576
       go_wp2_with (first | ((with_reducible refine gate_callee (f := 105) rfl ?_); refine goesL_ (some 33) rfl rfl Try.func105 (by kernel_rfl) rfl #[.int .i64 x3_1, .int .i64 (Go.bits .or .i64 (wrap64 ((wrap64 (rd l0 x4_1)) * 256)) (wrap64 (rd l0 (ji5))))] rfl (by (try simp only [List.map_toArray, List.map_cons, List.map_nil]); first | done | (simp only [hji5]; rfl) | rfl | (simp only [List.length_drop, List.length_take]; rfl)) ?_; (with_reducible refine (impl_sum.calls x3_1 (Go.bits .or .i64 (wrap64 ((wrap64 (rd l0 x4_1)) * 256)) (wrap64 (rd l0 (ji5)))) t577 _ A7.out).mono ?_); rintro e w' ⟨rfl, ⟨nd, rfl⟩⟩; refine ⟨_, rfl, ?_⟩))
       go_roundg k1
       case measure => have := HK1.out; omega
       case rel => exact ⟨(t577), (wrap64 (x4_1 + 2)), (by first | rfl | (simp; done) | (simp [*]; done)), (by first | rfl | (simp; done) | (simp [*]; done)), H', ⟨by have := HK1.out; omega⟩, by repeat (first | exact Drawn0.refl _ | apply Drawn0.step)⟩
      ·rw [if_neg c6] at H
       exact absurd H (by simp)
     ·rw [if_neg c4] at H
      have c4b0 : decide ((wrap64 (x4_1 + 1)) < (l0.length : Int)) = false := decide_eq_false c4
      clear c4
      replace H := Option.bind_eq_some_iff.mp H
      obtain ⟨t578, A80, H⟩ := H
      replace H : (impl_onesSum.l0 k1 l0 t578 (wrap64 (x4_1 + 2))) = some r := H
      have A8 := Aside0.mk A80
      clear A80
      have H' := Aside0.mk H
      clear H
      have p575 : 0 ≤ (x4_1 : Int) := of_decide_eq_true (by first | (with_reducible assumption) | assumption)
      have q575 : x4_1 < (l0.length : Int) := of_decide_eq_true (by first | (with_reducible assumption) | assumption)
      obtain ⟨ad575, e575, hx575_0⟩ := Kd.at_int HR0.out x4_1 p575 q575
      cases e575
      replace p575 := eq_true p575
      replace q575 := eq_true q575
      go_wp2_with (first | ((with_reducible refine gate_callee (f := 105) rfl ?_); refine goesL_ (some 33) rfl rfl Try.func105 (by kernel_rfl) rfl #[.int .i64 x3_1, .int .i64 (wrap64 ((wrap64 (rd l0 x4_1)) * 256))] rfl (by (try simp only [List.map_toArray, List.map_cons, List.map_nil]); first | done | rfl | (simp only [List.length_drop, List.length_take]; rfl)) ?_; (with_reducible refine (impl_sum.calls x3_1 (wrap64 ((wrap64 (rd l0 x4_1)) * 256)) t578 _ A8.out).mono ?_); rintro e w' ⟨rfl, ⟨nd, rfl⟩⟩; refine ⟨_, rfl, ?_⟩))
      go_roundg k1
      case measure => have := HK1.out; omega
      case rel => exact ⟨(t578), (wrap64 (x4_1 + 2)), (by first | rfl | (simp; done) | (simp [*]; done)), (by first | rfl | (simp; done) | (simp [*]; done)), H', ⟨by have := HK1.out; omega⟩, by repeat (first | exact Drawn0.refl _ | apply Drawn0.step)⟩
    ·rw [if_neg c3] at H
     exact absurd H (by simp)
   ·rw [if_neg c2] at H
    have c2b0 : decide (x4_1 < (l0.length : Int)) = false := decide_eq_false c2
    clear c2
    obtain rfl := Option.some.inj H
    go_wp2
    go_ret
    exact ⟨by first | rfl | (simp; done) | (simp [*]; done), by repeat (first | exact Drawn0.refl _ | apply Drawn0.step)⟩

end Go.Proofs.Ytdbiejkaplndgaa.FFnExactUpperRead
