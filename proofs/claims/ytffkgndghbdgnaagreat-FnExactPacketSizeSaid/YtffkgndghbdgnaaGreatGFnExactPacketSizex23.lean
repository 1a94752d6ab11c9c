-- Functions and their contracts, written by a program of this claim (wip/tools/oprint.py) out of the translation.
import Derived.Test.YtffkgndghbdgnaaGreatGFnExactPacketSizex22
namespace Go.Proofs.YtffkgndghbdgnaaGreat.FFnExactPacketSize
open Go.RowKit Go.Proofs.YtffkgndghbdgnaaGreatW.PrintWords Go.Proofs.YtffkgndghbdgnaaGreatW.PrintLast Go.Proofs.YtffkgndghbdgnaaGreatW.PrintMore Go.Proofs.YtffkgndghbdgnaaGreat.Frame
attribute [local go_sem] max2_int min2_int max_two min_two max_three min_three max_four min_four   -- for this text's walks alone
set_option linter.unusedVariables false
set_option maxHeartbeats 8000000
set_option maxRecDepth 100000
set_option linter.unusedSimpArgs false

/-! ### impl_pseudoSum: function 108 -/
def impl_pseudoSum.f (k : Nat) (a0_0 a0_1 : Int) (a0_2 a0_3 : Int) (a0_4 a1_0 : Int) (a1_1 a1_2 : Int) (a1_3 a1_4 : Int) (a2 a3 : Int) : Option (Int) := (impl_Put16.f k a3).bind fun t817 => ((slices_Concat_byte_byte.f k (([(([0, (a2) % 256] : List Int)), t817] : List (List Int)))).bind fun t823 => (if a0_0 = 6 then ((impl_Put32.f k a3).bind fun t826 => ((slices_Concat_byte_byte.f k (([t826, (([0, 0, 0, (a2) % 256] : List Int))] : List (List Int)))).bind fun t835 => ((impl_AddrBytes.f k a0_0 a0_1 a0_2 a0_3 a0_4).bind fun t838 => ((impl_AddrBytes.f k a1_0 a1_1 a1_2 a1_3 a1_4).bind fun t841 => ((slices_Concat_byte_byte.f k (([t838, t841, t835] : List (List Int)))).bind fun t847 => ((impl_onesSum.f k t847).bind fun t850 => (some t850))))))) else ((impl_AddrBytes.f k a0_0 a0_1 a0_2 a0_3 a0_4).bind fun t851 => ((impl_AddrBytes.f k a1_0 a1_1 a1_2 a1_3 a1_4).bind fun t854 => ((slices_Concat_byte_byte.f k (([t851, t854, t823] : List (List Int)))).bind fun t860 => ((impl_onesSum.f k t860).bind fun t863 => (some t863)))))))
def impl_pseudoSum.T4 : Bool × List (List Nat × List Nat) := (true, [([], []), ([0], [0]), ([], []), ([2, 1], [2]), ([], []), ([1, 3, 4], [1, 3, 4]), ([5, 3], [5]), ([6, 6], [6]), ([7, 7, 0, 1, 2, 3, 4, 5, 6, 7], [7])])
def impl_pseudoSum.B4 : List Nat := [0, 1, 0, 7, 0, 31, 63, 127, 255]
theorem impl_pseudoSum.tab4 : rtab .any (opsOf Tryz.f108 4) = impl_pseudoSum.T4 := by kernel_rfl
theorem impl_pseudoSum.bits4 : waitsOk impl_pseudoSum.T4.2 impl_pseudoSum.B4 = true := by kernel_rfl
theorem impl_pseudoSum.calls (k : Nat) (a0_0 a0_1 : Int) (a0_2 a0_3 : Int) (a0_4 a1_0 : Int) (a1_1 a1_2 : Int) (a1_3 a1_4 : Int) (a2 a3 r : Int) (w : World) (h : impl_pseudoSum.f k a0_0 a0_1 a0_2 a0_3 a0_4 a1_0 a1_1 a1_2 a1_3 a1_4 a2 a3 = some r) :
  Calls Tryz.prog 108 #[.agg #[.int .i64 a0_0, .int .i64 a0_1, .int .i64 a0_2, .int .i64 a0_3, .int .i64 a0_4], .agg #[.int .i64 a1_0, .int .i64 a1_1, .int .i64 a1_2, .int .i64 a1_3, .int .i64 a1_4], .int .i64 a2, .int .i64 a3] w fun e w' => e = .returned (.int .i64 r) ∧ Below w.heap.size w w' := by
 have hu22 := Tryz.underlying22
 have hu39 := Tryz.underlying39
 have hu109 := Tryz.underlying109
 have HF := Fr.start [39] w
 have HP := Aside0.mk True.intro
 unfold impl_pseudoSum.f at h
 have HH := Aside0.mk h
 clear h
 go_enter Tryz.func108, Tryz.ntmps108
 repeat' (with_reducible first | exact xE HH | (replace HH := iA HP HH; clear HP; rcases HH with ⟨p, HP, HH⟩ | ⟨p, HP, HH⟩ <;> first | subst p | cases p | skip) | fail)
 all_goals (repeat' (first
    | ((with_reducible refine gA 0 ?_) <;> (refine HF.bA ?_; clear HF; intro g_ w_ HF; refine nA ?_) <;> (refine HF.bA ?_; clear HF; intro g_ w_ HF; refine nA ?_) <;> (refine sA ?_) <;> (apply lend))
    | ((with_reducible refine gA 1 ?_) <;> (iterate 2 refine sA ?_) <;> (refine HF.nP ?_; clear HF; intro g_ w_ HL12 HF; (try simp only [u8_wr, i64_w] at HL12); refine nA ?_) <;> (refine sA ?_) <;> ((replace HH := bA HH); obtain ⟨_, A14_, HH⟩ := HH; (try dsimp only at HH)) <;> (repeat' (with_reducible first | exact xE HH | (replace HH := iA HP HH; clear HP; rcases HH with ⟨p, HP, HH⟩ | ⟨p, HP, HH⟩ <;> first | subst p | cases p | skip) | fail)) <;> (have HS14 := HF.since; refine HF.rB Tryz.func68 (by (with_reducible apply impl_Put16.calls (h := A14_.out))) ?_; clear HF A14_; intro Av14_0 cv14_0 w_ HO14_0 HB14 HF; refine nA ?_) <;> (refine HF.nP ?_; clear HF; intro g_ w_ HL15 HF; refine nA ?_) <;> ((replace HH := bA HH); obtain ⟨_, A16_, HH⟩ := HH; (try dsimp only at HH)) <;> (repeat' (with_reducible first | exact xE HH | (replace HH := iA HP HH; clear HP; rcases HH with ⟨p, HP, HH⟩ | ⟨p, HP, HH⟩ <;> first | subst p | cases p | skip) | fail)) <;> (have HS16 := HF.since; refine HF.rB Tryz.func49 (by (with_reducible apply slices_Concat_byte_byte.calls (A0 := some ⟨_, 0, none⟩) (c0 := 2) (h := A16_.out)); exact (rowsC (HF.lit HL15 (by simp) (by decide)) (by (repeat' (first | exact RowsAt.nil | refine RowsAt.cons rfl ?_ ?_ ?_)); exact (Nat.le_refl _); exact (bytesC (xs := [_, _]) (HF.lit HL12 (by simp) (by decide)) (by simp)); exact (HF.r2 HO14_0); exact (HF.r1 HO14_0)) (by simp)); exact (Nat.le_refl _)) ?_; clear HF A16_; intro Av16_0 cv16_0 w_ HO16_0 HB16 HF; refine nA ?_) <;> ((refine pA ?_); (try clear HO9_0); have HO9_0 := HO16_0) <;> (apply lend))
    | ((with_reducible refine gA 2 ?_; have k_ := HO9_0; clear k_) <;> (iterate 3 refine sA ?_) <;> (apply lend))
    | ((with_reducible refine gA 3 ?_; have k_ := HO9_0; clear k_) <;> (refine sA ?_) <;> ((replace HH := bA HH); obtain ⟨_, A21_, HH⟩ := HH; (try dsimp only at HH)) <;> (repeat' (with_reducible first | exact xE HH | (replace HH := iA HP HH; clear HP; rcases HH with ⟨p, HP, HH⟩ | ⟨p, HP, HH⟩ <;> first | subst p | cases p | skip) | fail)) <;> (have HS21 := HF.since; refine HF.rB Tryz.func121 (by (with_reducible apply impl_Put32.calls (h := A21_.out))) ?_; clear HF A21_; intro Av21_0 cv21_0 w_ HO21_0 HB21 HF; refine nA ?_) <;> (iterate 2 refine sA ?_) <;> (refine HF.nP ?_; clear HF; intro g_ w_ HL24 HF; (try simp only [u8_wr, i64_w] at HL24); refine nA ?_) <;> (refine HF.nP ?_; clear HF; intro g_ w_ HL25 HF; refine nA ?_) <;> ((replace HH := bA HH); obtain ⟨_, A26_, HH⟩ := HH; (try dsimp only at HH)) <;> (repeat' (with_reducible first | exact xE HH | (replace HH := iA HP HH; clear HP; rcases HH with ⟨p, HP, HH⟩ | ⟨p, HP, HH⟩ <;> first | subst p | cases p | skip) | fail)) <;> (have HS26 := HF.since; refine HF.rB Tryz.func49 (by (with_reducible apply slices_Concat_byte_byte.calls (A0 := some ⟨_, 0, none⟩) (c0 := 2) (h := A26_.out)); exact (rowsC (HF.lit HL25 (by simp) (by decide)) (by (repeat' (first | exact RowsAt.nil | refine RowsAt.cons rfl ?_ ?_ ?_)); exact (HF.r2 HO21_0); exact (HF.r1 HO21_0); exact (Nat.le_refl _); exact (bytesC (xs := [_, _, _, _]) (HF.lit HL24 (by simp) (by decide)) (by simp))) (by simp)); exact (Nat.le_refl _)) ?_; clear HF A26_; intro Av26_0 cv26_0 w_ HO26_0 HB26 HF; refine nA ?_) <;> ((refine pA ?_); (try clear HO9_0); have HO9_0 := HO26_0) <;> (apply lend))
    | (((with_reducible refine gate_region (id := 4) ?_); have k_ := HO9_0; clear k_; have HG := HF; refine HG.region2 HF (by kernel_rfl) rfl ?_; clear HF HG; intro w_ HF HG; refine with_tabW impl_pseudoSum.tab4 impl_pseudoSum.bits4 (fun HT_ HW_ => ?_)) <;> (repeat' (with_reducible first | exact xE HH | (replace HH := iA HP HH; clear HP; rcases HH with ⟨p, HP, HH⟩ | ⟨p, HP, HH⟩ <;> first | subst p | cases p | skip) | fail)) <;> ((replace HH := bA HH); obtain ⟨_, A28_, HH⟩ := HH; (try dsimp only at HH)) <;> (repeat' (with_reducible first | exact xE HH | (replace HH := iA HP HH; clear HP; rcases HH with ⟨p, HP, HH⟩ | ⟨p, HP, HH⟩ <;> first | subst p | cases p | skip) | fail)) <;> ((replace HH := bA HH); obtain ⟨_, A30_, HH⟩ := HH; (try dsimp only at HH)) <;> (repeat' (with_reducible first | exact xE HH | (replace HH := iA HP HH; clear HP; rcases HH with ⟨p, HP, HH⟩ | ⟨p, HP, HH⟩ <;> first | subst p | cases p | skip) | fail)) <;> ((replace HH := bA HH); obtain ⟨_, A33_, HH⟩ := HH; (try dsimp only at HH)) <;> (repeat' (with_reducible first | exact xE HH | (replace HH := iA HP HH; clear HP; rcases HH with ⟨p, HP, HH⟩ | ⟨p, HP, HH⟩ <;> first | subst p | cases p | skip) | fail)) <;> ((replace HH := bA HH); obtain ⟨_, A34_, HH⟩ := HH; (try dsimp only at HH)) <;> (repeat' (with_reducible first | exact xE HH | (replace HH := iA HP HH; clear HP; rcases HH with ⟨p, HP, HH⟩ | ⟨p, HP, HH⟩ <;> first | subst p | cases p | skip) | fail)) <;> (refine dA 0 ?_; refine dA 2 ?_; refine dA 4 ?_) <;> (have HS28 := HG.since; refine HF.rD HG 1 Tryz.func122 (by (with_reducible apply impl_AddrBytes.calls (h := A28_.out))) ?_; clear HF HG A28_; intro Av28_0 cv28_0 w_ HO28_0 HB28 HG HF; refine mA ?_) <;> (have HS30 := HG.since; refine HF.rD HG 3 Tryz.func122 (by (with_reducible apply impl_AddrBytes.calls (h := A30_.out))) ?_; clear HF HG A30_; intro Av30_0 cv30_0 w_ HO30_0 HB30 HG HF; refine mA ?_) <;> (refine HF.nD HG 5 ?_; clear HF HG; intro g_ w_ HL32 HG HF; refine mA ?_) <;> (have HS33 := HG.since; refine HF.rD HG 6 Tryz.func49 (by (with_reducible apply slices_Concat_byte_byte.calls (A0 := some ⟨_, 0, none⟩) (c0 := 3) (h := A33_.out)); exact (rowsC (HG.lit HL32 (by simp) (by decide)) (by (repeat' (first | exact RowsAt.nil | refine RowsAt.cons rfl ?_ ?_ ?_)); exact (HG.r2 HO28_0); exact (HG.r1 HO28_0); exact (HG.r2 HO30_0); exact (HG.r1 HO30_0); exact (HG.r2 HO9_0); exact (HG.r1 HO9_0)) (by simp)); exact (Nat.le_refl _)) ?_; clear HF HG A33_; intro Av33_0 cv33_0 w_ HO33_0 HB33 HG HF; refine mA ?_) <;> (refine HF.dD HG 7 Tryz.func111 (by (with_reducible apply impl_onesSum.calls (h := A34_.out)) <;> exact gP) ?_; clear HF HG A34_; intro w_ HG HF) <;> (refine dA 8 ?_) <;> (refine done_ (done_of HT_.out (by kernel_rfl)) ?_; clear HF; have HF := HG; clear HG))
    | go_step | fail))
 all_goals (have h_ := HH.out; clear HH; cases h_ <;> (go_ret; first
   | exact ⟨vE, HF.below⟩))

/-! ### slices_Clone_byte_byte: function 132 -/
def slices_Clone_byte_byte.f (l0 : List Int) : Option (List Int) := if l0.length ≤ 140737488355328 then some l0 else none
set_option maxHeartbeats 4000000 in
set_option maxRecDepth 100000 in
theorem slices_Clone_byte_byte.calls (A0 : Option Addr) (c0 : Nat) (l0 r : List Int) (w : World) (hr0 : Kd.C (Kd.int .u8) w A0 l0.length l0) (_hc0 : l0.length ≤ c0) (h : slices_Clone_byte_byte.f l0 = some r) :
  Calls Tryz.prog 132 #[.slice A0 l0.length c0] w fun e w' => ∃ v0_ : Value, e = .returned (v0_) ∧ Kd.R (Kd.int .u8) 5 w' w.heap.size (fun _ => True) v0_ r ∧ Below w.heap.size w w' := by
 unfold slices_Clone_byte_byte.f at h
 by_cases hl : l0.length ≤ 140737488355328
 ·rw [if_pos hl] at h
  obtain rfl := Option.some.inj h
  clear h
  have infoC : (Tryz.prog.info? 5).map (fun i => (i.zero, i.size, i.bytes)) = some (some (.int .u8 0), 1, 1) := by kernel_rfl
  have q22 : ∀ (w : World) (a : Option Addr) (n c n' c' : Nat), (binOp .eql 22 (.slice a n c) (.slice none n' c')).run Tryz.prog w = .ok (.bool a.isNone) w := fun w a n c n' c' => Lib.run_eql_slice_nil w _ _ a n c n' c' Tryz.underlying22
  have HR0 := Aside0.mk hr0
  have HL := Aside0.mk hl
  clear hr0 hl _hc0
  cases A0 with
  | none =>
   have h0 : l0 = [] := by
    cases hh : l0 with
    | nil => rfl
    | cons a t =>
     obtain ⟨ad, he, _⟩ := HR0.out.2.2 (by rw [hh]; simp)
     cases he
   subst h0
   go_enter Tryz.func132, Tryz.ntmps132
   go_wp2
   go_ret
   exact ⟨_, rfl, Kd.R_nil _ _ _ _ _, Below.refl _ _⟩
  | some ad =>
   go_enter Tryz.func132, Tryz.ntmps132
   go_wp2_with ((with_reducible refine gate_builtin (b := .append) (xs := #[.tmp 5, .tmp 6]) rfl ?_); at_builtin; refine Kd.R_append_rows (Kd.int .u8) (w0 := w) w.heap.size rfl (.tmp 5) (.tmp 6) 22 5 (.int .u8 0) 1 rfl Tryz.underlying22 infoC rfl (by decide) (by omega) _ [] l0 _ _ _ (fun _ => True) (fun _ => False) rfl rfl ?aO ?aR (fun _ _ h => h) (fun _ h => h.elim) ?aF ?aB ?aS ?aL ?_; (case aR => exact Kd.C_alloc HR0.out _); (case aB => exact below_alloc (Below.refl _ _) _); (case aF => exact (fun _ _ => trivial)); (case aO => exact ⟨fun _ _ => trivial, [], World.ownsRow_made w #[] 0 (Nat.le_refl _) (Nat.zero_le _) (by simp), Reps.none _ _⟩); (case aS => exact below_size (below_alloc (Below.refl _ _) _)); (case aL => have := HL.out; simp; omega); intro v1 w1 ho hb hg hat; rw [List.nil_append] at ho; have HO1 := Aside0.mk ho; have HB1 := Aside0.mk hb; clear ho hb hg hat)
   go_ret
   exact ⟨_, rfl, HO1.out, HB1.out⟩
 ·rw [if_neg hl] at h
  exact absurd h (by simp)


end Go.Proofs.YtffkgndghbdgnaaGreat.FFnExactPacketSize
