-- Functions and their contracts, written by a program of this claim (wip/tools/oprint.py) out of the translation.
import Derived.Shelf.SlicesE.IndexFunc
import Derived.Test.YtffkgndghbdgnaaGreatGFnExactPacketSizex1
namespace Go.Proofs.YtffkgndghbdgnaaGreat.FFnExactPacketSize
open Go.RowKit Go.Proofs.YtffkgndghbdgnaaGreatW.PrintWords Go.Proofs.YtffkgndghbdgnaaGreatW.PrintLast Go.Proofs.YtffkgndghbdgnaaGreatW.PrintMore Go.Proofs.YtffkgndghbdgnaaGreat.Frame
attribute [local go_sem] max2_int min2_int max_two min_two max_three min_three max_four min_four   -- for this text's walks alone
set_option linter.unusedVariables false
set_option maxHeartbeats 8000000
set_option maxRecDepth 100000
set_option linter.unusedSimpArgs false

attribute [local go_sem high] eqA39
-- NOT PRINTED: function 105 (slices_IndexFunc_int_int)

-- NOT PRINTED: function 73 (slices_ContainsFunc_int_int)

/-! ### impl_areZero: function 47 -/
def impl_areZero.ren : Go.Shelf.Ren := ⟨fun | 6 => 105 | 8 => 73 | n => n, fun | 0 => 0 | 3 => 3 | 4 => 4 | 22 => 104 | 23 => 3 | 25 => 106 | n => n, fun n => n⟩
theorem impl_areZero.lays : SlLaysH.n8 Tryz.prog impl_areZero.ren := {
 mixed := by kernel_rfl
 f6 := ⟨Tryz.f105.name, by decide, Tryz.func105.trans (congrArg some (by kernel_rfl))⟩
 f8 := ⟨Tryz.f73.name, by decide, Tryz.func73.trans (congrArg some (by kernel_rfl))⟩
 t0 := by kernel_rfl
 a0 := Tryz.isAgg0
 z0 := Tryz.sizeOf0
 v0 := Tryz.zeroValue0
 t3 := Tryz.underlying3
 a3 := Tryz.isAgg3
 z3 := Tryz.sizeOf3
 v3 := Tryz.zeroValue3
 t4 := Tryz.underlying4
 a4 := Tryz.isAgg4
 z4 := Tryz.sizeOf4
 v4 := Tryz.zeroValue4
 t22 := Tryz.underlying104
 a22 := Tryz.isAgg104
 z22 := Tryz.sizeOf104
 v22 := Tryz.zeroValue104
 a23 := Tryz.isAgg3
 z23 := Tryz.sizeOf3
 t25 := Tryz.underlying106
 a25 := Tryz.isAgg106
 z25 := Tryz.sizeOf106
 v25 := Tryz.zeroValue106 }
theorem impl_areZero.lit (w : World) : PredAt Tryz.prog 74 #[] (Value.int .i64) (fun x => x != 0) w := fun W x hb => by
 show Calls Tryz.prog 74 #[.int .i64 x] W _
 go_enter Tryz.func74, Tryz.ntmps74
 go_wp2
 go_ret
 exact ⟨rfl, 0, rfl⟩
section
variable {P : Program} {ρ : Go.Shelf.Ren}
set_option maxHeartbeats 2000000 in
theorem impl_areZero.index (L : SlLaysH.n6 P ρ) (p : Int → Bool) (g : Nat) (eg : ∀ args w, (callFunc g args).run P w = .ok (.enter g args) w) (ad : Addr) (c : Nat) (zs : List Int) (w : World) (hp : PredAt P g #[] (Value.int .i64) p w) (hbig : zs.length ≤ 140737488355328)
  (hc : ∀ j : Nat, j < zs.length → w.cell? (ad.add j) = some (.int .i64 (zs.getD j 0))) :
  Calls P (ρ.f 6) #[.slice (some ad) zs.length c, .func (.func g) #[] #[]] w fun e w' => ∃ r : Int, e = .returned (.int .i64 r) ∧ decide (0 ≤ r) = zs.any p ∧ ∃ q, w' = w.drewN q := by
 have mixed := L.mixed; have t0 := L.t0; have a0 := L.a0; have z0 := L.z0; have v0 := L.v0; have t3 := L.t3; have a3 := L.a3; have z3 := L.z3; have v3 := L.v3; have t4 := L.t4; have a4 := L.a4; have z4 := L.z4; have v4 := L.v4; have t22 := L.t22; have a22 := L.a22; have z22 := L.z22; have v22 := L.v22; have a23 := L.a23; have z23 := L.z23; have t25 := L.t25; have a25 := L.a25; have z25 := L.z25; have v25 := L.v25
 have hpAt : ∀ (x : Int) (q : Nat), Calls P g #[.int .i64 x] (w.drewN q) fun e w' => e = .returned (.bool (p x)) ∧ ∃ q', w' = (w.drewN q).drewN q' := fun x q => hp _ x (below_drewN' (Below.refl _ w) q)
 clear hp
 obtain ⟨n, hn⟩ : ∃ n, zs.length = n := ⟨_, rfl⟩
 have HN := Aside0.mk hn
 rw [hn] at hc hbig ⊢
 clear hn
 obtain ⟨_, _, FG⟩ := L.f6
 go_enter FG, SlBodyH.n6_ntmps ρ
 go_wp2
 go_loopg [5, 8] n (fun gg _ s8 wr => ∃ kk q : Nat, kk ≤ n ∧ n - kk ≤ gg ∧ s8 = .int .i64 kk ∧ wr = w.drewN q ∧ Aside0 (∀ j, j < kk → p (zs.getD j 0) = false))
 case atStart => exact ⟨0, 0, Nat.zero_le _, by omega, rfl, rfl, ⟨fun j hj => absurd hj (Nat.not_lt_zero _)⟩⟩
 case round =>
  obtain ⟨kk, q, hkk, hg, rfl, rfl, A⟩ := hrel
  by_cases hlt : kk < n
  ·have hltz : (kk : Int) < (n : Int) := by omega
   have hcell : w.cell? (ad.add kk) = some (.int .i64 (zs.getD kk 0)) := hc kk (by omega)
   clear hc
   generalize hy : zs.getD kk 0 = y at hcell
   have B : Aside0 (zs.getD kk 0 = y) := ⟨hy⟩
   clear hy
   have hcall := hpAt y
   cases hq : p y with
   | true =>
    rw [hq] at hcall
    go_wp2_with (go_at_fn g; refine (hcall _).mono ?_; rintro e w' ⟨rfl, q', rfl⟩)
    go_ret
    refine ⟨_, rfl, ?_, _, rfl⟩
    have h1 : zs.any p = true := by
     rw [List.any_eq_true]
     refine ⟨y, ?_, hq⟩
     have h2 := B.out
     rw [List.getD_eq_getElem?_getD, List.getElem?_eq_getElem (by rw [HN.out]; exact hlt)] at h2
     rw [← h2]
     exact List.getElem_mem _
    rw [h1]
    exact decide_eq_true (by omega)
   | false =>
    rw [hq] at hcall
    go_wp2_with (go_at_fn g; refine (hcall _).mono ?_; rintro e w' ⟨rfl, q', rfl⟩)
    go_roundg (n - (kk + 1))
    case measure => omega
    case rel =>
     refine ⟨kk + 1, _, by omega, by omega, by go_num, rfl, ⟨fun j hj => ?_⟩⟩
     by_cases e : j = kk
     ·subst e
      rw [B.out]; exact hq
     ·exact A.out j (by omega)
  ·have hltz : ¬ (kk : Int) < (n : Int) := by omega
   have : kk = n := by omega
   subst this
   go_wp2
   go_ret
   refine ⟨_, rfl, ?_, q, rfl⟩
   have h1 : zs.any p = false := by
    rw [List.any_eq_false]
    intro x hx
    obtain ⟨j, hj, e⟩ := List.getElem_of_mem hx
    have h2 := A.out j (by rw [← HN.out]; exact hj)
    rw [List.getD_eq_getElem?_getD, List.getElem?_eq_getElem hj] at h2
    rw [← e]
    simpa using h2
   rw [h1]
   rfl
theorem impl_areZero.contains (L : SlLaysH.n8 P ρ) (p : Int → Bool) (g : Nat) (eg : ∀ args w, (callFunc g args).run P w = .ok (.enter g args) w) (ad : Addr) (c : Nat) (zs : List Int) (w : World) (hp : PredAt P g #[] (Value.int .i64) p w) (hbig : zs.length ≤ 140737488355328)
  (hc : ∀ j : Nat, j < zs.length → w.cell? (ad.add j) = some (.int .i64 (zs.getD j 0))) :
  Calls P (ρ.f 8) #[.slice (some ad) zs.length c, .func (.func g) #[] #[]] w fun e w' => e = .returned (.bool (zs.any p)) ∧ ∃ q, w' = w.drewN q := by
 have mixed := L.mixed; have t0 := L.t0; have a0 := L.a0; have z0 := L.z0; have v0 := L.v0; have t3 := L.t3; have a3 := L.a3; have z3 := L.z3; have v3 := L.v3; have t4 := L.t4; have a4 := L.a4; have z4 := L.z4; have v4 := L.v4; have t22 := L.t22; have a22 := L.a22; have z22 := L.z22; have v22 := L.v22; have a23 := L.a23; have z23 := L.z23; have t25 := L.t25; have a25 := L.a25; have z25 := L.z25; have v25 := L.v25
 have e6 : ∀ args w, (callFunc (ρ.f 6) args).run P w = .ok (.enter (ρ.f 6) args) w := L.f6.enters rfl
 have hcon := fun w1 h1 h2 => impl_areZero.index { L with } p g eg ad c zs w1 h1 hbig h2
 obtain ⟨_, _, FG⟩ := L.f8
 go_enter FG, SlBodyH.n8_ntmps ρ
 go_wp2_with (go_at_fn (ρ.f 6); refine (hcon _ hp hc).mono ?_; rintro e w' ⟨r, rfl, hr, q, rfl⟩)
 all_goals (go_ret; exact ⟨by rw [← hr]; rfl, q, rfl⟩)
end
def impl_areZero.f (l0 : List Int) : Option Bool := if l0.length ≤ 140737488355328 then some (!l0.any (· != 0)) else none
set_option maxHeartbeats 4000000 in
theorem impl_areZero.calls (A0 : Option Addr) (c0 : Nat) (l0 : List Int) (r : Bool) (w : World) (hr0 : Kd.C (Kd.int .i64) w A0 l0.length l0) (_hc0 : l0.length ≤ c0) (h : impl_areZero.f l0 = some r) :
  Calls Tryz.prog 47 #[.slice A0 l0.length c0] w fun e w' => e = .returned (.bool r) ∧ Drawn0 w w' := by
 unfold impl_areZero.f at h
 by_cases hl : l0.length ≤ 140737488355328
 ·rw [if_pos hl] at h
  obtain rfl := Option.some.inj h
  clear h
  have eg : ∀ args w, (callFunc 74 args).run Tryz.prog w = .ok (.enter 74 args) w := enters_of Tryz.func74 (by kernel_rfl) rfl
  have hcon : Calls Tryz.prog 73 #[.slice A0 l0.length c0, .func (.func 74) #[] #[]] w fun e w' => e = .returned (.bool (l0.any (· != 0))) ∧ ∃ q, w' = w.drewN q := by
   cases l0 with
   | nil => exact (AnyE.slices_ContainsFunc_empty impl_areZero.lays A0 c0 _ w).mono fun e w' hh => ⟨hh.1, 0, hh.2⟩
   | cons x t =>
    obtain ⟨ad, rfl, hc⟩ := (Kd.reads_of_C (d := 0) hr0).2.2 (by simp)
    exact impl_areZero.contains impl_areZero.lays _ 74 eg ad c0 (x :: t) w (impl_areZero.lit w) hl hc
  clear hr0 _hc0 hl eg
  generalize l0.any (· != 0) = b at hcon ⊢
  go_enter Tryz.func47, Tryz.ntmps47
  go_wp2_with (go_at_call 73; refine hcon.mono ?_; rintro e w' ⟨rfl, q, rfl⟩)
  all_goals (go_ret; exact ⟨rfl, ⟨q, rfl⟩⟩)
 ·rw [if_neg hl] at h
  exact absurd h (by simp)


/-! ### impl_isZeroSix: function 45 -/
def impl_isZeroSix.f (a0_0 a0_1 : Int) (a0_2 a0_3 : Int) (a0_4 a0_5 : Int) (a0_6 a0_7 : Int) (a0_8 a0_9 : Int) (a0_10 a0_11 : Int) (a0_12 a0_13 : Int) (l0_14 : List (S102)) (l0_15 : List Int) : Option (Bool) := (impl_areZero.f (([a0_0, a0_1, a0_2, a0_3, (l0_14.length : Int), (l0_15.length : Int)] : List Int))).bind fun t741 => (if t741 = true then (if (a0_4 == 0 && (a0_5 == 0 && (a0_6 == 0 && (a0_7 == 0 && (a0_8 == 0))))) = true then (some (a0_9 == 0 && (a0_10 == 0 && (a0_11 == 0 && (a0_12 == 0 && (a0_13 == 0)))))) else (some false)) else (some false))
theorem impl_isZeroSix.calls (a0_0 a0_1 : Int) (a0_2 a0_3 : Int) (a0_4 a0_5 : Int) (a0_6 a0_7 : Int) (a0_8 a0_9 : Int) (a0_10 a0_11 : Int) (a0_12 a0_13 : Int) (A0_14 : Option Addr) (c0_14 : Nat) (l0_14 : List (S102)) (A0_15 : Option Addr) (c0_15 : Nat) (l0_15 : List Int) (r : Bool) (w : World) (hr0_14 : Kd.C k102 w A0_14 l0_14.length l0_14) (hc0_14 : l0_14.length ≤ c0_14) (hr0_15 : Kd.C (Kd.int .u8) w A0_15 l0_15.length l0_15) (hc0_15 : l0_15.length ≤ c0_15) (h : impl_isZeroSix.f a0_0 a0_1 a0_2 a0_3 a0_4 a0_5 a0_6 a0_7 a0_8 a0_9 a0_10 a0_11 a0_12 a0_13 l0_14 l0_15 = some r) :
  Calls Tryz.prog 45 #[.agg #[.int .i64 a0_0, .int .i64 a0_1, .int .i64 a0_2, .int .i64 a0_3, .int .i64 a0_4, .int .i64 a0_5, .int .i64 a0_6, .int .i64 a0_7, .int .i64 a0_8, .int .i64 a0_9, .int .i64 a0_10, .int .i64 a0_11, .int .i64 a0_12, .int .i64 a0_13, .slice A0_14 l0_14.length c0_14, .slice A0_15 l0_15.length c0_15]] w fun e w' => e = .returned (.bool r) ∧ Below w.heap.size w w' := by
 have hu22 := Tryz.underlying22
 have hu39 := Tryz.underlying39
 have hu42 := Tryz.underlying42
 have hu44 := Tryz.underlying44
 have hu104 := Tryz.underlying104
 have HR0_14 := Aside0.mk hr0_14
 have HC0_14 := Aside0.mk hc0_14
 have HR0_15 := Aside0.mk hr0_15
 have HC0_15 := Aside0.mk hc0_15
 clear hr0_14 hc0_14 hr0_15 hc0_15
 have HF := Fr.start [44] w
 have HP := Aside0.mk True.intro
 unfold impl_isZeroSix.f at h
 have HH := Aside0.mk h
 clear h
 go_enter Tryz.func45, Tryz.ntmps45
 repeat' (with_reducible first | exact xE HH | (replace HH := iA HP HH; clear HP; rcases HH with ⟨p, HP, HH⟩ | ⟨p, HP, HH⟩ <;> first | subst p | cases p | skip) | fail)
 all_goals (repeat' (first
    | ((with_reducible refine gA 0 ?_) <;> (refine HF.bA ?_; clear HF; intro g_ w_ HF; refine nA ?_) <;> (refine sA ?_) <;> (apply lend))
    | ((with_reducible refine gA 1 ?_) <;> (iterate 14 refine sA ?_) <;> (refine HF.nP ?_; clear HF; intro g_ w_ HL17 HF; (try simp only [u8_wr, i64_w] at HL17); refine nA ?_) <;> ((replace HH := bA HH); obtain ⟨_, A18_, HH⟩ := HH; (try dsimp only at HH)) <;> (repeat' (with_reducible first | exact xE HH | (replace HH := iA HP HH; clear HP; rcases HH with ⟨p, HP, HH⟩ | ⟨p, HP, HH⟩ <;> first | subst p | cases p | skip) | fail)) <;> (refine HF.dB Tryz.func47 (by (with_reducible apply impl_areZero.calls (A0 := some ⟨_, 0, none⟩) (c0 := 6) (h := A18_.out)); exact (bytesC (xs := [_, _, _, _, _, _]) (HF.lit HL17 (by simp) (by decide)) (by simp)); exact (Nat.le_refl _)) ?_; clear HF A18_; intro w_ HF) <;> (iterate 13 refine sA ?_) <;> (apply lend))
    | go_step | fail))
 all_goals (have h_ := HH.out; clear HH; cases h_ <;> (go_ret; first
   | exact ⟨vE, HF.below⟩))

/-! ### impl_isZeroFour: function 46 -/
def impl_isZeroFour.f (a0_0 a0_1 : Int) (a0_2 a0_3 : Int) (a0_4 a0_5 : Int) (a0_6 a0_7 : Int) (a0_8 a0_9 : Int) (a0_10 a0_11 : Int) (a0_12 a0_13 : Int) (a0_14 a0_15 a0_16 : Int) (l0_17 l0_18 : List Int) : Option (Bool) := (impl_areZero.f (([a0_0, a0_1, a0_2, a0_3, a0_4, a0_5, a0_6, (l0_17.length : Int), (l0_18.length : Int)] : List Int))).bind fun t746 => (if t746 = true then (if (a0_7 == 0 && (a0_8 == 0 && (a0_9 == 0 && (a0_10 == 0 && (a0_11 == 0))))) = true then (some (a0_12 == 0 && (a0_13 == 0 && (a0_14 == 0 && (a0_15 == 0 && (a0_16 == 0)))))) else (some false)) else (some false))
theorem impl_isZeroFour.calls (a0_0 a0_1 : Int) (a0_2 a0_3 : Int) (a0_4 a0_5 : Int) (a0_6 a0_7 : Int) (a0_8 a0_9 : Int) (a0_10 a0_11 : Int) (a0_12 a0_13 : Int) (a0_14 a0_15 a0_16 : Int) (A0_17 : Option Addr) (c0_17 : Nat) (l0_17 : List Int) (A0_18 : Option Addr) (c0_18 : Nat) (l0_18 : List Int) (r : Bool) (w : World) (hr0_17 : Kd.C (Kd.int .u8) w A0_17 l0_17.length l0_17) (hc0_17 : l0_17.length ≤ c0_17) (hr0_18 : Kd.C (Kd.int .u8) w A0_18 l0_18.length l0_18) (hc0_18 : l0_18.length ≤ c0_18) (h : impl_isZeroFour.f a0_0 a0_1 a0_2 a0_3 a0_4 a0_5 a0_6 a0_7 a0_8 a0_9 a0_10 a0_11 a0_12 a0_13 a0_14 a0_15 a0_16 l0_17 l0_18 = some r) :
  Calls Tryz.prog 46 #[.agg #[.int .i64 a0_0, .int .i64 a0_1, .int .i64 a0_2, .int .i64 a0_3, .int .i64 a0_4, .int .i64 a0_5, .int .i64 a0_6, .int .i64 a0_7, .int .i64 a0_8, .int .i64 a0_9, .int .i64 a0_10, .int .i64 a0_11, .int .i64 a0_12, .int .i64 a0_13, .int .i64 a0_14, .int .i64 a0_15, .int .i64 a0_16, .slice A0_17 l0_17.length c0_17, .slice A0_18 l0_18.length c0_18]] w fun e w' => e = .returned (.bool r) ∧ Below w.heap.size w w' := by
 have hu22 := Tryz.underlying22
 have hu39 := Tryz.underlying39
 have hu41 := Tryz.underlying41
 have hu104 := Tryz.underlying104
 have HR0_17 := Aside0.mk hr0_17
 have HC0_17 := Aside0.mk hc0_17
 have HR0_18 := Aside0.mk hr0_18
 have HC0_18 := Aside0.mk hc0_18
 clear hr0_17 hc0_17 hr0_18 hc0_18
 have HF := Fr.start [41] w
 have HP := Aside0.mk True.intro
 unfold impl_isZeroFour.f at h
 have HH := Aside0.mk h
 clear h
 go_enter Tryz.func46, Tryz.ntmps46
 repeat' (with_reducible first | exact xE HH | (replace HH := iA HP HH; clear HP; rcases HH with ⟨p, HP, HH⟩ | ⟨p, HP, HH⟩ <;> first | subst p | cases p | skip) | fail)
 all_goals (repeat' (first
    | ((with_reducible refine gA 0 ?_) <;> (refine HF.bA ?_; clear HF; intro g_ w_ HF; refine nA ?_) <;> (refine sA ?_) <;> (apply lend))
    | ((with_reducible refine gA 1 ?_) <;> (iterate 20 refine sA ?_) <;> (refine HF.nP ?_; clear HF; intro g_ w_ HL23 HF; (try simp only [u8_wr, i64_w] at HL23); refine nA ?_) <;> ((replace HH := bA HH); obtain ⟨_, A24_, HH⟩ := HH; (try dsimp only at HH)) <;> (repeat' (with_reducible first | exact xE HH | (replace HH := iA HP HH; clear HP; rcases HH with ⟨p, HP, HH⟩ | ⟨p, HP, HH⟩ <;> first | subst p | cases p | skip) | fail)) <;> (refine HF.dB Tryz.func47 (by (with_reducible apply impl_areZero.calls (A0 := some ⟨_, 0, none⟩) (c0 := 9) (h := A24_.out)); exact (bytesC (xs := [_, _, _, _, _, _, _, _, _]) (HF.lit HL23 (by simp) (by decide)) (by simp)); exact (Nat.le_refl _)) ?_; clear HF A24_; intro w_ HF) <;> (iterate 13 refine sA ?_) <;> (apply lend))
    | go_step | fail))
 all_goals (have h_ := HH.out; clear HH; cases h_ <;> (go_ret; first
   | exact ⟨vE, HF.below⟩))

/-! ### impl_Packet_ends: function 75 -/
def impl_Packet_ends.f (a0_0 a0_1 : Int) (a0_2 a0_3 a0_4 : Int) (l0_5 : List Int) (a0_6 a0_7 : Int) (a0_8 a0_9 : Int) (a0_10 a0_11 : Int) (a0_12 a0_13 : Int) (a0_14 a0_15 : Int) (a0_16 a0_17 : Int) (a0_18 a0_19 : Int) (a0_20 a0_21 a0_22 : Int) (l0_23 l0_24 : List Int) (a0_25 a0_26 : Int) (a0_27 a0_28 : Int) (a0_29 a0_30 : Int) (a0_31 a0_32 : Int) (a0_33 a0_34 : Int) (a0_35 a0_36 : Int) (a0_37 a0_38 : Int) (l0_39 : List (S102)) (l0_40 : List Int) (a0_41 a0_42 : Int) (a0_43 a0_44 : Int) (a0_45 a0_46 : Int) (a0_47 a0_48 : Int) (a0_49 a0_50 a0_51 : Int) (a0_52 : Bool) (l0_53 l0_54 l0_55 : List Int) : Option (Int × Int × Int × Int × Int × Int × Int × Int × Int × Int) := if a0_0 = 4 then (some (a0_13, a0_14, a0_15, a0_16, a0_17, a0_18, a0_19, a0_20, a0_21, a0_22)) else (some (a0_29, a0_30, a0_31, a0_32, a0_33, a0_34, a0_35, a0_36, a0_37, a0_38))
def impl_Packet_ends.T2 : Bool × List (List Nat × List Nat) := (true, [([], []), ([0], [0]), ([1], [1]), ([], []), ([3], [3]), ([4], [4]), ([2, 0, 1, 2], [2]), ([5, 6, 0, 1, 2, 3, 4, 5, 6], [5])])
def impl_Packet_ends.B2 : List Nat := [0, 1, 3, 0, 8, 24, 7, 127]
theorem impl_Packet_ends.tab2 : rtab .any (opsOf Tryz.f75 2) = impl_Packet_ends.T2 := by kernel_rfl
theorem impl_Packet_ends.bits2 : waitsOk impl_Packet_ends.T2.2 impl_Packet_ends.B2 = true := by kernel_rfl
def impl_Packet_ends.T3 : Bool × List (List Nat × List Nat) := (true, [([], []), ([0], [0]), ([1], [1]), ([], []), ([3], [3]), ([4], [4]), ([2, 0, 1, 2], [2]), ([5, 6, 0, 1, 2, 3, 4, 5, 6], [5])])
def impl_Packet_ends.B3 : List Nat := [0, 1, 3, 0, 8, 24, 7, 127]
theorem impl_Packet_ends.tab3 : rtab .any (opsOf Tryz.f75 3) = impl_Packet_ends.T3 := by kernel_rfl
theorem impl_Packet_ends.bits3 : waitsOk impl_Packet_ends.T3.2 impl_Packet_ends.B3 = true := by kernel_rfl
theorem impl_Packet_ends.calls (a0_0 a0_1 : Int) (a0_2 a0_3 a0_4 : Int) (A0_5 : Option Addr) (c0_5 : Nat) (l0_5 : List Int) (a0_6 a0_7 : Int) (a0_8 a0_9 : Int) (a0_10 a0_11 : Int) (a0_12 a0_13 : Int) (a0_14 a0_15 : Int) (a0_16 a0_17 : Int) (a0_18 a0_19 : Int) (a0_20 a0_21 a0_22 : Int) (A0_23 : Option Addr) (c0_23 : Nat) (l0_23 : List Int) (A0_24 : Option Addr) (c0_24 : Nat) (l0_24 : List Int) (a0_25 a0_26 : Int) (a0_27 a0_28 : Int) (a0_29 a0_30 : Int) (a0_31 a0_32 : Int) (a0_33 a0_34 : Int) (a0_35 a0_36 : Int) (a0_37 a0_38 : Int) (A0_39 : Option Addr) (c0_39 : Nat) (l0_39 : List (S102)) (A0_40 : Option Addr) (c0_40 : Nat) (l0_40 : List Int) (a0_41 a0_42 : Int) (a0_43 a0_44 : Int) (a0_45 a0_46 : Int) (a0_47 a0_48 : Int) (a0_49 a0_50 a0_51 : Int) (a0_52 : Bool) (A0_53 : Option Addr) (c0_53 : Nat) (l0_53 : List Int) (A0_54 : Option Addr) (c0_54 : Nat) (l0_54 : List Int) (A0_55 : Option Addr) (c0_55 : Nat) (l0_55 : List Int) (r1 r2 : Int) (r3 r4 : Int) (r5 r6 : Int) (r7 r8 : Int) (r9 r10 : Int) (w : World) (hr0_5 : Kd.C (Kd.int .u8) w A0_5 l0_5.length l0_5) (hc0_5 : l0_5.length ≤ c0_5) (hr0_23 : Kd.C (Kd.int .u8) w A0_23 l0_23.length l0_23) (hc0_23 : l0_23.length ≤ c0_23) (hr0_24 : Kd.C (Kd.int .u8) w A0_24 l0_24.length l0_24) (hc0_24 : l0_24.length ≤ c0_24) (hr0_39 : Kd.C k102 w A0_39 l0_39.length l0_39) (hc0_39 : l0_39.length ≤ c0_39) (hr0_40 : Kd.C (Kd.int .u8) w A0_40 l0_40.length l0_40) (hc0_40 : l0_40.length ≤ c0_40) (hr0_53 : Kd.C (Kd.int .u8) w A0_53 l0_53.length l0_53) (hc0_53 : l0_53.length ≤ c0_53) (hr0_54 : Kd.C (Kd.int .u8) w A0_54 l0_54.length l0_54) (hc0_54 : l0_54.length ≤ c0_54) (hr0_55 : Kd.C (Kd.int .u8) w A0_55 l0_55.length l0_55) (hc0_55 : l0_55.length ≤ c0_55) (h : impl_Packet_ends.f a0_0 a0_1 a0_2 a0_3 a0_4 l0_5 a0_6 a0_7 a0_8 a0_9 a0_10 a0_11 a0_12 a0_13 a0_14 a0_15 a0_16 a0_17 a0_18 a0_19 a0_20 a0_21 a0_22 l0_23 l0_24 a0_25 a0_26 a0_27 a0_28 a0_29 a0_30 a0_31 a0_32 a0_33 a0_34 a0_35 a0_36 a0_37 a0_38 l0_39 l0_40 a0_41 a0_42 a0_43 a0_44 a0_45 a0_46 a0_47 a0_48 a0_49 a0_50 a0_51 a0_52 l0_53 l0_54 l0_55 = some (r1, r2, r3, r4, r5, r6, r7, r8, r9, r10)) :
  Calls Tryz.prog 75 #[.agg #[.int .i64 a0_0, .int .i64 a0_1, .int .i64 a0_2, .int .i64 a0_3, .int .i64 a0_4, .slice A0_5 l0_5.length c0_5, .int .i64 a0_6, .int .i64 a0_7, .int .i64 a0_8, .int .i64 a0_9, .int .i64 a0_10, .int .i64 a0_11, .int .i64 a0_12, .int .i64 a0_13, .int .i64 a0_14, .int .i64 a0_15, .int .i64 a0_16, .int .i64 a0_17, .int .i64 a0_18, .int .i64 a0_19, .int .i64 a0_20, .int .i64 a0_21, .int .i64 a0_22, .slice A0_23 l0_23.length c0_23, .slice A0_24 l0_24.length c0_24, .int .i64 a0_25, .int .i64 a0_26, .int .i64 a0_27, .int .i64 a0_28, .int .i64 a0_29, .int .i64 a0_30, .int .i64 a0_31, .int .i64 a0_32, .int .i64 a0_33, .int .i64 a0_34, .int .i64 a0_35, .int .i64 a0_36, .int .i64 a0_37, .int .i64 a0_38, .slice A0_39 l0_39.length c0_39, .slice A0_40 l0_40.length c0_40, .int .i64 a0_41, .int .i64 a0_42, .int .i64 a0_43, .int .i64 a0_44, .int .i64 a0_45, .int .i64 a0_46, .int .i64 a0_47, .int .i64 a0_48, .int .i64 a0_49, .int .i64 a0_50, .int .i64 a0_51, .bool a0_52, .slice A0_53 l0_53.length c0_53, .slice A0_54 l0_54.length c0_54, .slice A0_55 l0_55.length c0_55]] w fun e w' => e = .returned (.tuple #[.agg #[.int .i64 r1, .int .i64 r2, .int .i64 r3, .int .i64 r4, .int .i64 r5], .agg #[.int .i64 r6, .int .i64 r7, .int .i64 r8, .int .i64 r9, .int .i64 r10]]) ∧ Below w.heap.size w w' := by
 have hu41 := Tryz.underlying41
 have hu44 := Tryz.underlying44
 have hu47 := Tryz.underlying47
 have O3_ : IsOne Tryz.prog 3 := ⟨⟨_, Tryz.underlying3, rfl⟩, by kernel_rfl⟩
 have R39_ : IsRow Tryz.prog 39 5 := ⟨⟨_, Tryz.underlying39, rfl⟩, by kernel_rfl⟩
 have HR0_5 := Aside0.mk hr0_5
 have HC0_5 := Aside0.mk hc0_5
 have HR0_23 := Aside0.mk hr0_23
 have HC0_23 := Aside0.mk hc0_23
 have HR0_24 := Aside0.mk hr0_24
 have HC0_24 := Aside0.mk hc0_24
 have HR0_39 := Aside0.mk hr0_39
 have HC0_39 := Aside0.mk hc0_39
 have HR0_40 := Aside0.mk hr0_40
 have HC0_40 := Aside0.mk hc0_40
 have HR0_53 := Aside0.mk hr0_53
 have HC0_53 := Aside0.mk hc0_53
 have HR0_54 := Aside0.mk hr0_54
 have HC0_54 := Aside0.mk hc0_54
 have HR0_55 := Aside0.mk hr0_55
 have HC0_55 := Aside0.mk hc0_55
 clear hr0_5 hc0_5 hr0_23 hc0_23 hr0_24 hc0_24 hr0_39 hc0_39 hr0_40 hc0_40 hr0_53 hc0_53 hr0_54 hc0_54 hr0_55 hc0_55
 have HF := Fr.start [39, 47] w
 have HP := Aside0.mk True.intro
 unfold impl_Packet_ends.f at h
 have HH := Aside0.mk h
 clear h
 go_enter Tryz.func75, Tryz.ntmps75
 repeat' (with_reducible first | exact xE HH | (replace HH := iA HP HH; clear HP; rcases HH with ⟨p, HP, HH⟩ | ⟨p, HP, HH⟩ <;> first | subst p | cases p | skip) | fail)
 all_goals (repeat' (first
    | ((with_reducible refine gA 0 ?_) <;> (refine HF.bA ?_; clear HF; intro g_ w_ HF; refine nA ?_) <;> (refine HF.aA ?_; clear HF; intro g_ w_ HF; refine nA ?_) <;> (refine HF.aA ?_; clear HF; intro g_ w_ HF; refine nA ?_) <;> (apply lend))
    | ((with_reducible refine gA 1 ?_) <;> (iterate 3 refine sA ?_) <;> (apply lend))
    | (((with_reducible refine gate_region (id := 2) ?_); have HG := HF; replace HF := HF.erase 1; replace HF := HF.erase 0; (try simp only [List.eraseIdx_cons_zero, List.eraseIdx_cons_succ] at HF); refine HG.region2 HF (by kernel_rfl) rfl ?_; clear HF HG; intro w_ HF HG; refine with_tabW impl_Packet_ends.tab2 impl_Packet_ends.bits2 (fun HT_ HW_ => ?_)) <;> (repeat' (with_reducible first | exact xE HH | (replace HH := iA HP HH; clear HP; rcases HH with ⟨p, HP, HH⟩ | ⟨p, HP, HH⟩ <;> first | subst p | cases p | skip) | fail)) <;> (refine dA 0 ?_; refine dA 1 ?_; refine dA 2 ?_; refine dA 3 ?_; refine dA 4 ?_; refine dA 5 ?_) <;> (apply rstoreRow HG 6 rfl rfl rfl rfl (one_of HT_.out (by kernel_rfl)) (by simp); assumption; rfl; (go_simp; rfl); rfl; rfl; (repeat (first | apply At.head | apply At.tail)); (simp only [List.drop_succ_cons, List.drop_zero, List.drop_nil, List.take_succ_cons, List.take_zero, List.cons_append, List.nil_append, List.append_nil]; rfl); simp; (intro w_ F_; exact F_.part (by repeat (first | exact List.Sublist.slnil | apply List.Sublist.cons_cons | apply List.Sublist.cons)) (by intro M_ h_; repeat (first | exact h_ | apply List.mem_cons_of_mem))); clear HF HG; intro w_ HF HG) <;> (apply rstoreRow HG 7 rfl rfl rfl rfl (one_of HT_.out (by kernel_rfl)) (by simp); assumption; rfl; (go_simp; rfl); rfl; rfl; (repeat (first | apply At.head | apply At.tail)); (simp only [List.drop_succ_cons, List.drop_zero, List.drop_nil, List.take_succ_cons, List.take_zero, List.cons_append, List.nil_append, List.append_nil]; rfl); simp; (intro w_ F_; exact F_.part (by repeat (first | exact List.Sublist.slnil | apply List.Sublist.cons_cons | apply List.Sublist.cons)) (by intro M_ h_; repeat (first | exact h_ | apply List.mem_cons_of_mem))); clear HF HG; intro w_ HF HG) <;> (refine done_ (done_of HT_.out (by kernel_rfl)) ?_; clear HF; have HF := HG; clear HG))
    | (((with_reducible refine gate_region (id := 3) ?_); have HG := HF; replace HF := HF.erase 1; replace HF := HF.erase 0; (try simp only [List.eraseIdx_cons_zero, List.eraseIdx_cons_succ] at HF); refine HG.region2 HF (by kernel_rfl) rfl ?_; clear HF HG; intro w_ HF HG; refine with_tabW impl_Packet_ends.tab3 impl_Packet_ends.bits3 (fun HT_ HW_ => ?_)) <;> (repeat' (with_reducible first | exact xE HH | (replace HH := iA HP HH; clear HP; rcases HH with ⟨p, HP, HH⟩ | ⟨p, HP, HH⟩ <;> first | subst p | cases p | skip) | fail)) <;> (refine dA 0 ?_; refine dA 1 ?_; refine dA 2 ?_; refine dA 3 ?_; refine dA 4 ?_; refine dA 5 ?_) <;> (apply rstoreRow HG 6 rfl rfl rfl rfl (one_of HT_.out (by kernel_rfl)) (by simp); assumption; rfl; (go_simp; rfl); rfl; rfl; (repeat (first | apply At.head | apply At.tail)); (simp only [List.drop_succ_cons, List.drop_zero, List.drop_nil, List.take_succ_cons, List.take_zero, List.cons_append, List.nil_append, List.append_nil]; rfl); simp; (intro w_ F_; exact F_.part (by repeat (first | exact List.Sublist.slnil | apply List.Sublist.cons_cons | apply List.Sublist.cons)) (by intro M_ h_; repeat (first | exact h_ | apply List.mem_cons_of_mem))); clear HF HG; intro w_ HF HG) <;> (apply rstoreRow HG 7 rfl rfl rfl rfl (one_of HT_.out (by kernel_rfl)) (by simp); assumption; rfl; (go_simp; rfl); rfl; rfl; (repeat (first | apply At.head | apply At.tail)); (simp only [List.drop_succ_cons, List.drop_zero, List.drop_nil, List.take_succ_cons, List.take_zero, List.cons_append, List.nil_append, List.append_nil]; rfl); simp; (intro w_ F_; exact F_.part (by repeat (first | exact List.Sublist.slnil | apply List.Sublist.cons_cons | apply List.Sublist.cons)) (by intro M_ h_; repeat (first | exact h_ | apply List.mem_cons_of_mem))); clear HF HG; intro w_ HF HG) <;> (refine done_ (done_of HT_.out (by kernel_rfl)) ?_; clear HF; have HF := HG; clear HG))
    | go_step | fail))
 all_goals (have h_ := HH.out; clear HH; cases h_ <;> (refine bodyPost_ret (results_cc rfl _ _ _ _ 39 39 _ _ (0, 0) (0, 0) _ _ rfl (HF.get (by repeat (first | exact At.head | apply At.tail))) Tryz.underlying39 rfl (by kernel_rfl) rfl (HF.get (by repeat (first | exact At.head | apply At.tail))) Tryz.underlying39 rfl (by kernel_rfl)) rfl ?_; first
   | exact ⟨vE, HF.below⟩))

end Go.Proofs.YtffkgndghbdgnaaGreat.FFnExactPacketSize
