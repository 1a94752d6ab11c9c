-- Functions and their contracts, written by a program of this claim (wip/tools/oprint.py) out of the translation.
import Derived.Test.YtdbiejkaplndgaaGFnExactSixBytesx0
import Derived.Test.YtdbiejkaplndgaaGFnExactSixBytesx2
namespace Go.Proofs.Ytdbiejkaplndgaa.FFnExactSixBytes
open Go.RowKit Go.Proofs.YtdbiejkaplndgaaW.PrintWords Go.Proofs.YtdbiejkaplndgaaW.PrintLast Go.Proofs.YtdbiejkaplndgaaW.PrintMore
attribute [local go_sem] max2_int min2_int max_two min_two max_three min_three max_four min_four   -- for this text's walks alone
set_option linter.unusedVariables false
set_option linter.unusedSimpArgs false

/-! ### spec_SixOk: function 50 -/
def spec_SixOk.l0 : Nat → Int → Int → Int → Int → Int → Int → Int → Int → Int → Int → Int → Int → Int → Int → Int → Int → List (S69) → List Int → Option (Bool)
 | 0, _, _, _, _, _, _, _, _, _, _, _, _, _, _, _, _, _, _ => none
 | k + 1, x3, x4, x133000, x133001, x133002, x133003, x133004, x133005, x133006, x133007, x133008, x133009, x133010, x133011, x133012, x133013, x133014, x133015 => if x4 < (x133014.length : Int) then (if 0 ≤ x4 then ((spec_l06Inner.f ((rd_T69 x133014 x4).f0)).bind fun t142 => (if t142 = true then (if ((rd_T69 x133014 x4).f0) = 0 then (if x4 > 0 then (some false) else (if (((rd_T69 x133014 x4).f1).length : Int) > 62 then (some false) else (if ((((rd_T69 x133014 x4).f1).length : Int) % 8) = 6 then (spec_SixOk.l0 k (wrap64 ((wrap64 (x3 - (((rd_T69 x133014 x4).f1).length : Int))) - 2)) (wrap64 (x4 + 1)) x133000 x133001 x133002 x133003 x133004 x133005 x133006 x133007 x133008 x133009 x133010 x133011 x133012 x133013 x133014 x133015) else (some false)))) else (if (((rd_T69 x133014 x4).f1).length : Int) > 62 then (some false) else (if ((((rd_T69 x133014 x4).f1).length : Int) % 8) = 6 then (spec_SixOk.l0 k (wrap64 ((wrap64 (x3 - (((rd_T69 x133014 x4).f1).length : Int))) - 2)) (wrap64 (x4 + 1)) x133000 x133001 x133002 x133003 x133004 x133005 x133006 x133007 x133008 x133009 x133010 x133011 x133012 x133013 x133014 x133015) else (some false)))) else (some false))) else (none)) else (some (decide ((x133015.length : Int) ≤ x3)))
def spec_SixOk.f (k : Nat) (a0_0 : Int) (a0_1 : Int) (a0_2 : Int) (a0_3 : Int) (a0_4 : Int) (a0_5 : Int) (a0_6 : Int) (a0_7 : Int) (a0_8 : Int) (a0_9 : Int) (a0_10 : Int) (a0_11 : Int) (a0_12 : Int) (a0_13 : Int) (l0_14 : List (S69)) (l0_15 : List Int) : Option (Bool) := (spec_l05In.f a0_0 255).bind fun t133 => (if t133 = true then ((spec_l05In.f a0_1 1048575).bind fun t134 => (if t134 = true then ((spec_l05In.f a0_2 255).bind fun t135 => (if t135 = true then ((spec_l05In.f a0_3 255).bind fun t136 => (if t136 = true then ((spec_l06Inner.f a0_3).bind fun t137 => (if t137 = true then (some false) else (if a0_4 = 6 then (if a0_9 = 6 then ((spec_AddrOk.f a0_4 a0_5 a0_6 a0_7 a0_8).bind fun t138 => (if t138 = true then ((spec_AddrOk.f a0_9 a0_10 a0_11 a0_12 a0_13).bind fun t139 => (if t139 = true then (if (l0_14.length : Int) > 3 then (some false) else (spec_SixOk.l0 k 1460 0 a0_0 a0_1 a0_2 a0_3 a0_4 a0_5 a0_6 a0_7 a0_8 a0_9 a0_10 a0_11 a0_12 a0_13 l0_14 l0_15)) else (some false))) else (some false))) else (some false)) else (some false)))) else (some false))) else (some false))) else (some false))) else (some false))
theorem spec_SixOk.mono_l : ∀ k, (∀ y0 y1 y2 y3 y4 y5 y6 y7 y8 y9 y10 y11 y12 y13 y14 y15 y16 y17, LeO (spec_SixOk.l0 k y0 y1 y2 y3 y4 y5 y6 y7 y8 y9 y10 y11 y12 y13 y14 y15 y16 y17) (spec_SixOk.l0 (k + 1) y0 y1 y2 y3 y4 y5 y6 y7 y8 y9 y10 y11 y12 y13 y14 y15 y16 y17))
 | 0 => fun _ _ _ _ _ _ _ _ _ _ _ _ _ _ _ _ _ _ r h => by simp [spec_SixOk.l0] at h
 | k + 1 => by
  have ih0 := spec_SixOk.mono_l k
  ·intro y0 y1 y2 y3 y4 y5 y6 y7 y8 y9 y10 y11 y12 y13 y14 y15 y16 y17
   unfold spec_SixOk.l0
   repeat' first
   | (with_reducible exact ih0 _ _ _ _ _ _ _ _ _ _ _ _ _ _ _ _ _ _)
   | (with_reducible exact LeO.refl _)
   | (with_reducible exact LeO.none _)
   | (with_reducible refine LeO.ite ?_ ?_)
   | (with_reducible refine LeO.bind ?_ (fun _ => ?_))
   | exact ih0 _ _ _ _ _ _ _ _ _ _ _ _ _ _ _ _ _ _
   | exact LeO.none _
   | refine LeO.ite ?_ ?_
   | refine LeO.bind ?_ (fun _ => ?_)
theorem spec_SixOk.mono : ∀ a0 a1 a2 a3 a4 a5 a6 a7 a8 a9 a10 a11 a12 a13 a14 a15 k, LeO (spec_SixOk.f k a0 a1 a2 a3 a4 a5 a6 a7 a8 a9 a10 a11 a12 a13 a14 a15) (spec_SixOk.f (k + 1) a0 a1 a2 a3 a4 a5 a6 a7 a8 a9 a10 a11 a12 a13 a14 a15) := by
 intro a0 a1 a2 a3 a4 a5 a6 a7 a8 a9 a10 a11 a12 a13 a14 a15 k
 have ih0 := spec_SixOk.mono_l k
 unfold spec_SixOk.f
 repeat' first
   | (with_reducible exact ih0 _ _ _ _ _ _ _ _ _ _ _ _ _ _ _ _ _ _)
   | (with_reducible exact LeO.refl _)
   | (with_reducible exact LeO.none _)
   | (with_reducible refine LeO.ite ?_ ?_)
   | (with_reducible refine LeO.bind ?_ (fun _ => ?_))
   | exact ih0 _ _ _ _ _ _ _ _ _ _ _ _ _ _ _ _ _ _
   | exact LeO.none _
   | refine LeO.ite ?_ ?_
   | refine LeO.bind ?_ (fun _ => ?_)
set_option maxHeartbeats 8000000 in
set_option maxRecDepth 100000 in
theorem spec_SixOk.calls (k : Nat) (a0_0 : Int) (a0_1 : Int) (a0_2 : Int) (a0_3 : Int) (a0_4 : Int) (a0_5 : Int) (a0_6 : Int) (a0_7 : Int) (a0_8 : Int) (a0_9 : Int) (a0_10 : Int) (a0_11 : Int) (a0_12 : Int) (a0_13 : Int) (A0_14 : Option Addr) (c0_14 : Nat) (l0_14 : List (S69)) (A0_15 : Option Addr) (c0_15 : Nat) (l0_15 : List Int) (r : Bool) (w : World) (hr0_14 : Kd.C k69 w A0_14 l0_14.length l0_14) (hc0_14 : l0_14.length ≤ c0_14) (hr0_15 : Kd.C (Kd.int .u8) w A0_15 l0_15.length l0_15) (hc0_15 : l0_15.length ≤ c0_15) (h : spec_SixOk.f k a0_0 a0_1 a0_2 a0_3 a0_4 a0_5 a0_6 a0_7 a0_8 a0_9 a0_10 a0_11 a0_12 a0_13 l0_14 l0_15 = some r) :
  Calls Try.prog 50 #[.agg #[.int .i64 a0_0, .int .i64 a0_1, .int .i64 a0_2, .int .i64 a0_3, .int .i64 a0_4, .int .i64 a0_5, .int .i64 a0_6, .int .i64 a0_7, .int .i64 a0_8, .int .i64 a0_9, .int .i64 a0_10, .int .i64 a0_11, .int .i64 a0_12, .int .i64 a0_13, .slice A0_14 l0_14.length c0_14, .slice A0_15 l0_15.length c0_15]] w fun e w' => e = .returned (.bool r) ∧ Below w.heap.size w w' := by
 have hu27 := Try.underlying27
 have hu24 := Try.underlying24
 have HR0_14 := Aside0.mk hr0_14
 have HC0_14 := Aside0.mk hc0_14
 clear hr0_14 hc0_14
 have HR0_15 := Aside0.mk hr0_15
 have HC0_15 := Aside0.mk hc0_15
 clear hr0_15 hc0_15
 have HB := Aside0.mk (Below.refl w.heap.size w)
 have H : ((spec_l05In.f a0_0 255).bind fun t133 => (if t133 = true then ((spec_l05In.f a0_1 1048575).bind fun t134 => (if t134 = true then ((spec_l05In.f a0_2 255).bind fun t135 => (if t135 = true then ((spec_l05In.f a0_3 255).bind fun t136 => (if t136 = true then ((spec_l06Inner.f a0_3).bind fun t137 => (if t137 = true then (some false) else (if a0_4 = 6 then (if a0_9 = 6 then ((spec_AddrOk.f a0_4 a0_5 a0_6 a0_7 a0_8).bind fun t138 => (if t138 = true then ((spec_AddrOk.f a0_9 a0_10 a0_11 a0_12 a0_13).bind fun t139 => (if t139 = true then (if (l0_14.length : Int) > 3 then (some false) else (spec_SixOk.l0 k 1460 0 a0_0 a0_1 a0_2 a0_3 a0_4 a0_5 a0_6 a0_7 a0_8 a0_9 a0_10 a0_11 a0_12 a0_13 l0_14 l0_15)) else (some false))) else (some false))) else (some false)) else (some false)))) else (some false))) else (some false))) else (some false))) else (some false))) = some r := h
 clear h
 replace H := Option.bind_eq_some_iff.mp H
 obtain ⟨t133, A20, H⟩ := H
 replace H : (if t133 = true then ((spec_l05In.f a0_1 1048575).bind fun t134 => (if t134 = true then ((spec_l05In.f a0_2 255).bind fun t135 => (if t135 = true then ((spec_l05In.f a0_3 255).bind fun t136 => (if t136 = true then ((spec_l06Inner.f a0_3).bind fun t137 => (if t137 = true then (some false) else (if a0_4 = 6 then (if a0_9 = 6 then ((spec_AddrOk.f a0_4 a0_5 a0_6 a0_7 a0_8).bind fun t138 => (if t138 = true then ((spec_AddrOk.f a0_9 a0_10 a0_11 a0_12 a0_13).bind fun t139 => (if t139 = true then (if (l0_14.length : Int) > 3 then (some false) else (spec_SixOk.l0 k 1460 0 a0_0 a0_1 a0_2 a0_3 a0_4 a0_5 a0_6 a0_7 a0_8 a0_9 a0_10 a0_11 a0_12 a0_13 l0_14 l0_15)) else (some false))) else (some false))) else (some false)) else (some false)))) else (some false))) else (some false))) else (some false))) else (some false)) = some r := H
 have A2 := Aside0.mk A20
 clear A20
 by_cases c3 : t133 = true
 ·subst c3
  have H1 : ((spec_l05In.f a0_1 1048575).bind fun t134 => (if t134 = true then ((spec_l05In.f a0_2 255).bind fun t135 => (if t135 = true then ((spec_l05In.f a0_3 255).bind fun t136 => (if t136 = true then ((spec_l06Inner.f a0_3).bind fun t137 => (if t137 = true then (some false) else (if a0_4 = 6 then (if a0_9 = 6 then ((spec_AddrOk.f a0_4 a0_5 a0_6 a0_7 a0_8).bind fun t138 => (if t138 = true then ((spec_AddrOk.f a0_9 a0_10 a0_11 a0_12 a0_13).bind fun t139 => (if t139 = true then (if (l0_14.length : Int) > 3 then (some false) else (spec_SixOk.l0 k 1460 0 a0_0 a0_1 a0_2 a0_3 a0_4 a0_5 a0_6 a0_7 a0_8 a0_9 a0_10 a0_11 a0_12 a0_13 l0_14 l0_15)) else (some false))) else (some false))) else (some false)) else (some false)))) else (some false))) else (some false))) else (some false))) = some r := by rw [if_pos rfl] at H; exact H
  clear H
  have H := H1
  clear H1
  replace H := Option.bind_eq_some_iff.mp H
  obtain ⟨t134, A40, H⟩ := H
  replace H : (if t134 = true then ((spec_l05In.f a0_2 255).bind fun t135 => (if t135 = true then ((spec_l05In.f a0_3 255).bind fun t136 => (if t136 = true then ((spec_l06Inner.f a0_3).bind fun t137 => (if t137 = true then (some false) else (if a0_4 = 6 then (if a0_9 = 6 then ((spec_AddrOk.f a0_4 a0_5 a0_6 a0_7 a0_8).bind fun t138 => (if t138 = true then ((spec_AddrOk.f a0_9 a0_10 a0_11 a0_12 a0_13).bind fun t139 => (if t139 = true then (if (l0_14.length : Int) > 3 then (some false) else (spec_SixOk.l0 k 1460 0 a0_0 a0_1 a0_2 a0_3 a0_4 a0_5 a0_6 a0_7 a0_8 a0_9 a0_10 a0_11 a0_12 a0_13 l0_14 l0_15)) else (some false))) else (some false))) else (some false)) else (some false)))) else (some false))) else (some false))) else (some false)) = some r := H
  have A4 := Aside0.mk A40
  clear A40
  by_cases c5 : t134 = true
  ·subst c5
   have H1 : ((spec_l05In.f a0_2 255).bind fun t135 => (if t135 = true then ((spec_l05In.f a0_3 255).bind fun t136 => (if t136 = true then ((spec_l06Inner.f a0_3).bind fun t137 => (if t137 = true then (some false) else (if a0_4 = 6 then (if a0_9 = 6 then ((spec_AddrOk.f a0_4 a0_5 a0_6 a0_7 a0_8).bind fun t138 => (if t138 = true then ((spec_AddrOk.f a0_9 a0_10 a0_11 a0_12 a0_13).bind fun t139 => (if t139 = true then (if (l0_14.length : Int) > 3 then (some false) else (spec_SixOk.l0 k 1460 0 a0_0 a0_1 a0_2 a0_3 a0_4 a0_5 a0_6 a0_7 a0_8 a0_9 a0_10 a0_11 a0_12 a0_13 l0_14 l0_15)) else (some false))) else (some false))) else (some false)) else (some false)))) else (some false))) else (some false))) = some r := by rw [if_pos rfl] at H; exact H
   clear H
   have H := H1
   clear H1
   replace H := Option.bind_eq_some_iff.mp H
   obtain ⟨t135, A60, H⟩ := H
   replace H : (if t135 = true then ((spec_l05In.f a0_3 255).bind fun t136 => (if t136 = true then ((spec_l06Inner.f a0_3).bind fun t137 => (if t137 = true then (some false) else (if a0_4 = 6 then (if a0_9 = 6 then ((spec_AddrOk.f a0_4 a0_5 a0_6 a0_7 a0_8).bind fun t138 => (if t138 = true then ((spec_AddrOk.f a0_9 a0_10 a0_11 a0_12 a0_13).bind fun t139 => (if t139 = true then (if (l0_14.length : Int) > 3 then (some false) else (spec_SixOk.l0 k 1460 0 a0_0 a0_1 a0_2 a0_3 a0_4 a0_5 a0_6 a0_7 a0_8 a0_9 a0_10 a0_11 a0_12 a0_13 l0_14 l0_15)) else (some false))) else (some false))) else (some false)) else (some false)))) else (some false))) else (some false)) = some r := H
   have A6 := Aside0.mk A60
   clear A60
   by_cases c7 : t135 = true
   ·subst c7
    have H1 : ((spec_l05In.f a0_3 255).bind fun t136 => (if t136 = true then ((spec_l06Inner.f a0_3).bind fun t137 => (if t137 = true then (some false) else (if a0_4 = 6 then (if a0_9 = 6 then ((spec_AddrOk.f a0_4 a0_5 a0_6 a0_7 a0_8).bind fun t138 => (if t138 = true then ((spec_AddrOk.f a0_9 a0_10 a0_11 a0_12 a0_13).bind fun t139 => (if t139 = true then (if (l0_14.length : Int) > 3 then (some false) else (spec_SixOk.l0 k 1460 0 a0_0 a0_1 a0_2 a0_3 a0_4 a0_5 a0_6 a0_7 a0_8 a0_9 a0_10 a0_11 a0_12 a0_13 l0_14 l0_15)) else (some false))) else (some false))) else (some false)) else (some false)))) else (some false))) = some r := by rw [if_pos rfl] at H; exact H
    clear H
    have H := H1
    clear H1
    replace H := Option.bind_eq_some_iff.mp H
    obtain ⟨t136, A80, H⟩ := H
    replace H : (if t136 = true then ((spec_l06Inner.f a0_3).bind fun t137 => (if t137 = true then (some false) else (if a0_4 = 6 then (if a0_9 = 6 then ((spec_AddrOk.f a0_4 a0_5 a0_6 a0_7 a0_8).bind fun t138 => (if t138 = true then ((spec_AddrOk.f a0_9 a0_10 a0_11 a0_12 a0_13).bind fun t139 => (if t139 = true then (if (l0_14.length : Int) > 3 then (some false) else (spec_SixOk.l0 k 1460 0 a0_0 a0_1 a0_2 a0_3 a0_4 a0_5 a0_6 a0_7 a0_8 a0_9 a0_10 a0_11 a0_12 a0_13 l0_14 l0_15)) else (some false))) else (some false))) else (some false)) else (some false)))) else (some false)) = some r := H
    have A8 := Aside0.mk A80
    clear A80
    by_cases c9 : t136 = true
    ·subst c9
     have H1 : ((spec_l06Inner.f a0_3).bind fun t137 => (if t137 = true then (some false) else (if a0_4 = 6 then (if a0_9 = 6 then ((spec_AddrOk.f a0_4 a0_5 a0_6 a0_7 a0_8).bind fun t138 => (if t138 = true then ((spec_AddrOk.f a0_9 a0_10 a0_11 a0_12 a0_13).bind fun t139 => (if t139 = true then (if (l0_14.length : Int) > 3 then (some false) else (spec_SixOk.l0 k 1460 0 a0_0 a0_1 a0_2 a0_3 a0_4 a0_5 a0_6 a0_7 a0_8 a0_9 a0_10 a0_11 a0_12 a0_13 l0_14 l0_15)) else (some false))) else (some false))) else (some false)) else (some false)))) = some r := by rw [if_pos rfl] at H; exact H
     clear H
     have H := H1
     clear H1
     replace H := Option.bind_eq_some_iff.mp H
     obtain ⟨t137, A100, H⟩ := H
     replace H : (if t137 = true then (some false) else (if a0_4 = 6 then (if a0_9 = 6 then ((spec_AddrOk.f a0_4 a0_5 a0_6 a0_7 a0_8).bind fun t138 => (if t138 = true then ((spec_AddrOk.f a0_9 a0_10 a0_11 a0_12 a0_13).bind fun t139 => (if t139 = true then (if (l0_14.length : Int) > 3 then (some false) else (spec_SixOk.l0 k 1460 0 a0_0 a0_1 a0_2 a0_3 a0_4 a0_5 a0_6 a0_7 a0_8 a0_9 a0_10 a0_11 a0_12 a0_13 l0_14 l0_15)) else (some false))) else (some false))) else (some false)) else (some false))) = some r := H
     have A10 := Aside0.mk A100
     clear A100
     by_cases c11 : t137 = true
     ·subst c11
      have H1 : (some false) = some r := by rw [if_pos rfl] at H; exact H
      clear H
      have H := H1
      clear H1
      obtain rfl := Option.some.inj H
      go_enter Try.func50, Try.ntmps50
      go_wp2_with (first | ((with_reducible refine gate_dst (N := 1) rfl ?_); (try (refine gate_guard (by rfl) ?_; dsimp only)); refine box_event ?hg (N := 1) ?hd (cs := #[.int .i64 a0_0, .int .i64 a0_1, .int .i64 a0_2, .int .i64 a0_3, .int .i64 a0_4, .int .i64 a0_5, .int .i64 a0_6, .int .i64 a0_7, .int .i64 a0_8, .int .i64 a0_9, .int .i64 a0_10, .int .i64 a0_11, .int .i64 a0_12, .int .i64 a0_13, .slice A0_14 l0_14.length c0_14, .slice A0_15 l0_15.length c0_15]) (t := 27) ?hr ?_; (case hd => rfl); (case hg => rfl); (case hr => first | (go_simp; done) | (go_simp; rfl)); intro gb132 hg w12 hbox hb; have n0_ := Aside0.mk (below_step (by repeat (first | (with_reducible first | exact HB.out | apply below_alloc | apply pw_below_drewN | apply below_drew1) | exact HB.out)) hb); have n1_ := Aside0.mk (hbox); have n2_ := Aside0.mk ((by rw [hg]; exact (below_size (by repeat (first | (with_reducible first | exact HB.out | apply below_alloc | apply pw_below_drewN | apply below_drew1) | exact HB.out))) : w.heap.size ≤ gb132)); have n3_ := Aside0.mk ((by rw [hg]; exact (below_size (by repeat (first | (with_reducible first | exact HB.out | apply below_alloc | apply pw_below_drewN | apply below_drew1) | exact HB.out))) : w.heap.size ≤ gb132)); clear HB; have HB := n0_; have BK132 := n1_; have GW132 := n2_; have GE132 := n3_; clear n0_ n1_ n2_ n3_; clear hb hbox hg; have hcz13_0 : w12.cell? ⟨gb132, 0, none⟩ = some (.int .i64 a0_0) := (blk_cell BK132.out 0).trans rfl; have hcz13_1 : w12.cell? ⟨gb132, 1, none⟩ = some (.int .i64 a0_1) := (blk_cell BK132.out 1).trans rfl; have hcz13_2 : w12.cell? ⟨gb132, 2, none⟩ = some (.int .i64 a0_2) := (blk_cell BK132.out 2).trans rfl; have hcz13_3 : w12.cell? ⟨gb132, 3, none⟩ = some (.int .i64 a0_3) := (blk_cell BK132.out 3).trans rfl; have hcz13_4 : w12.cell? ⟨gb132, 4, none⟩ = some (.int .i64 a0_4) := (blk_cell BK132.out 4).trans rfl; have hcz13_5 : w12.cell? ⟨gb132, 5, none⟩ = some (.int .i64 a0_5) := (blk_cell BK132.out 5).trans rfl; have hcz13_6 : w12.cell? ⟨gb132, 6, none⟩ = some (.int .i64 a0_6) := (blk_cell BK132.out 6).trans rfl; have hcz13_7 : w12.cell? ⟨gb132, 7, none⟩ = some (.int .i64 a0_7) := (blk_cell BK132.out 7).trans rfl; have hcz13_8 : w12.cell? ⟨gb132, 8, none⟩ = some (.int .i64 a0_8) := (blk_cell BK132.out 8).trans rfl; have hcz13_9 : w12.cell? ⟨gb132, 9, none⟩ = some (.int .i64 a0_9) := (blk_cell BK132.out 9).trans rfl; have hcz13_10 : w12.cell? ⟨gb132, 10, none⟩ = some (.int .i64 a0_10) := (blk_cell BK132.out 10).trans rfl; have hcz13_11 : w12.cell? ⟨gb132, 11, none⟩ = some (.int .i64 a0_11) := (blk_cell BK132.out 11).trans rfl; have hcz13_12 : w12.cell? ⟨gb132, 12, none⟩ = some (.int .i64 a0_12) := (blk_cell BK132.out 12).trans rfl; have hcz13_13 : w12.cell? ⟨gb132, 13, none⟩ = some (.int .i64 a0_13) := (blk_cell BK132.out 13).trans rfl; have hcz13_14 : w12.cell? ⟨gb132, 14, none⟩ = some (.slice A0_14 l0_14.length c0_14) := (blk_cell BK132.out 14).trans rfl; have hcz13_15 : w12.cell? ⟨gb132, 15, none⟩ = some (.slice A0_15 l0_15.length c0_15) := (blk_cell BK132.out 15).trans rfl; have hfz13_0 := blk_frozen BK132.out 0; have hfz13_1 := blk_frozen BK132.out 1; have hfz13_2 := blk_frozen BK132.out 2; have hfz13_3 := blk_frozen BK132.out 3; have hfz13_4 := blk_frozen BK132.out 4; have hfz13_5 := blk_frozen BK132.out 5; have hfz13_6 := blk_frozen BK132.out 6; have hfz13_7 := blk_frozen BK132.out 7; have hfz13_8 := blk_frozen BK132.out 8; have hfz13_9 := blk_frozen BK132.out 9; have hfz13_10 := blk_frozen BK132.out 10; have hfz13_11 := blk_frozen BK132.out 11; have hfz13_12 := blk_frozen BK132.out 12; have hfz13_13 := blk_frozen BK132.out 13; have hfz13_14 := blk_frozen BK132.out 14; have hfz13_15 := blk_frozen BK132.out 15) | ((with_reducible refine gate_callee (f := 72) rfl ?_); refine goesL_ (some 8) rfl rfl Try.func72 (by kernel_rfl) rfl #[.int .i64 a0_0, .int .i64 255] rfl (by (try simp only [List.map_toArray, List.map_cons, List.map_nil]); first | done | rfl | (simp only [List.length_drop, List.length_take]; rfl)) ?_; (with_reducible refine (spec_l05In.calls a0_0 255 true _ A2.out).mono ?_); rintro e w' ⟨rfl, ⟨nd, rfl⟩⟩; refine ⟨_, rfl, ?_⟩) | (go_at_call 72; (with_reducible refine (spec_l05In.calls a0_1 1048575 true _ A4.out).mono ?_); rintro e w' ⟨rfl, ⟨nd, rfl⟩⟩) | (go_at_call 72; (with_reducible refine (spec_l05In.calls a0_2 255 true _ A6.out).mono ?_); rintro e w' ⟨rfl, ⟨nd, rfl⟩⟩) | (go_at_call 72; (with_reducible refine (spec_l05In.calls a0_3 255 true _ A8.out).mono ?_); rintro e w' ⟨rfl, ⟨nd, rfl⟩⟩) | (go_at_call 39; (with_reducible refine (spec_l06Inner.calls a0_3 true _ A10.out).mono ?_); rintro e w' ⟨rfl, ⟨nd, rfl⟩⟩))
      go_ret
      exact ⟨by first | rfl | (simp [errW_none, errW_some] <;> rfl) | (simp [*, errW_none, errW_some] <;> rfl), by repeat (first | (with_reducible first | exact HB.out | apply below_alloc | apply pw_below_drewN | apply below_drew1 | refine below_set ?_ GE132.out) | exact HB.out)⟩
     ·replace c11 := Bool.eq_false_iff.mpr c11
      subst c11
      have H1 : (if a0_4 = 6 then (if a0_9 = 6 then ((spec_AddrOk.f a0_4 a0_5 a0_6 a0_7 a0_8).bind fun t138 => (if t138 = true then ((spec_AddrOk.f a0_9 a0_10 a0_11 a0_12 a0_13).bind fun t139 => (if t139 = true then (if (l0_14.length : Int) > 3 then (some false) else (spec_SixOk.l0 k 1460 0 a0_0 a0_1 a0_2 a0_3 a0_4 a0_5 a0_6 a0_7 a0_8 a0_9 a0_10 a0_11 a0_12 a0_13 l0_14 l0_15)) else (some false))) else (some false))) else (some false)) else (some false)) = some r := by rw [if_neg (show ¬ (false = true) by decide)] at H; exact H
      clear H
      have H := H1
      clear H1
      by_cases c14 : a0_4 = 6
      ·rw [if_pos c14] at H
       have c14b0 : (a0_4 == 6) = true := beq_iff_eq.mpr c14
       have c14b1 : (a0_4 != 6) = false := bne_eq_false_iff_eq.mpr c14
       clear c14
       by_cases c15 : a0_9 = 6
       ·rw [if_pos c15] at H
        have c15b0 : (a0_9 == 6) = true := beq_iff_eq.mpr c15
        have c15b1 : (a0_9 != 6) = false := bne_eq_false_iff_eq.mpr c15
        clear c15
        replace H := Option.bind_eq_some_iff.mp H
        obtain ⟨t138, A160, H⟩ := H
        replace H : (if t138 = true then ((spec_AddrOk.f a0_9 a0_10 a0_11 a0_12 a0_13).bind fun t139 => (if t139 = true then (if (l0_14.length : Int) > 3 then (some false) else (spec_SixOk.l0 k 1460 0 a0_0 a0_1 a0_2 a0_3 a0_4 a0_5 a0_6 a0_7 a0_8 a0_9 a0_10 a0_11 a0_12 a0_13 l0_14 l0_15)) else (some false))) else (some false)) = some r := H
        have A16 := Aside0.mk A160
        clear A160
        by_cases c17 : t138 = true
        ·subst c17
         have H1 : ((spec_AddrOk.f a0_9 a0_10 a0_11 a0_12 a0_13).bind fun t139 => (if t139 = true then (if (l0_14.length : Int) > 3 then (some false) else (spec_SixOk.l0 k 1460 0 a0_0 a0_1 a0_2 a0_3 a0_4 a0_5 a0_6 a0_7 a0_8 a0_9 a0_10 a0_11 a0_12 a0_13 l0_14 l0_15)) else (some false))) = some r := by rw [if_pos rfl] at H; exact H
         clear H
         have H := H1
         clear H1
         replace H := Option.bind_eq_some_iff.mp H
         obtain ⟨t139, A180, H⟩ := H
         replace H : (if t139 = true then (if (l0_14.length : Int) > 3 then (some false) else (spec_SixOk.l0 k 1460 0 a0_0 a0_1 a0_2 a0_3 a0_4 a0_5 a0_6 a0_7 a0_8 a0_9 a0_10 a0_11 a0_12 a0_13 l0_14 l0_15)) else (some false)) = some r := H
         have A18 := Aside0.mk A180
         clear A180
         by_cases c19 : t139 = true
         ·subst c19
          have H1 : (if (l0_14.length : Int) > 3 then (some false) else (spec_SixOk.l0 k 1460 0 a0_0 a0_1 a0_2 a0_3 a0_4 a0_5 a0_6 a0_7 a0_8 a0_9 a0_10 a0_11 a0_12 a0_13 l0_14 l0_15)) = some r := by rw [if_pos rfl] at H; exact H
          clear H
          have H := H1
          clear H1
          by_cases c20 : (l0_14.length : Int) > 3
          ·rw [if_pos c20] at H
           have c20b0 : decide (3 < (l0_14.length : Int)) = true := decide_eq_true c20
           have c20b1 : decide (3 < l0_14.length) = true := decide_eq_true (by omega)
           clear c20
           obtain rfl := Option.some.inj H
           go_enter Try.func50, Try.ntmps50
           go_wp2_with (first | ((with_reducible refine gate_dst (N := 1) rfl ?_); (try (refine gate_guard (by rfl) ?_; dsimp only)); refine box_event ?hg (N := 1) ?hd (cs := #[.int .i64 a0_0, .int .i64 a0_1, .int .i64 a0_2, .int .i64 a0_3, .int .i64 a0_4, .int .i64 a0_5, .int .i64 a0_6, .int .i64 a0_7, .int .i64 a0_8, .int .i64 a0_9, .int .i64 a0_10, .int .i64 a0_11, .int .i64 a0_12, .int .i64 a0_13, .slice A0_14 l0_14.length c0_14, .slice A0_15 l0_15.length c0_15]) (t := 27) ?hr ?_; (case hd => rfl); (case hg => rfl); (case hr => first | (go_simp; done) | (go_simp; rfl)); intro gb132 hg w21 hbox hb; have n0_ := Aside0.mk (below_step (by repeat (first | (with_reducible first | exact HB.out | apply below_alloc | apply pw_below_drewN | apply below_drew1) | exact HB.out)) hb); have n1_ := Aside0.mk (hbox); have n2_ := Aside0.mk ((by rw [hg]; exact (below_size (by repeat (first | (with_reducible first | exact HB.out | apply below_alloc | apply pw_below_drewN | apply below_drew1) | exact HB.out))) : w.heap.size ≤ gb132)); have n3_ := Aside0.mk ((by rw [hg]; exact (below_size (by repeat (first | (with_reducible first | exact HB.out | apply below_alloc | apply pw_below_drewN | apply below_drew1) | exact HB.out))) : w.heap.size ≤ gb132)); clear HB; have HB := n0_; have BK132 := n1_; have GW132 := n2_; have GE132 := n3_; clear n0_ n1_ n2_ n3_; clear hb hbox hg; have hcz22_0 : w21.cell? ⟨gb132, 0, none⟩ = some (.int .i64 a0_0) := (blk_cell BK132.out 0).trans rfl; have hcz22_1 : w21.cell? ⟨gb132, 1, none⟩ = some (.int .i64 a0_1) := (blk_cell BK132.out 1).trans rfl; have hcz22_2 : w21.cell? ⟨gb132, 2, none⟩ = some (.int .i64 a0_2) := (blk_cell BK132.out 2).trans rfl; have hcz22_3 : w21.cell? ⟨gb132, 3, none⟩ = some (.int .i64 a0_3) := (blk_cell BK132.out 3).trans rfl; have hcz22_4 : w21.cell? ⟨gb132, 4, none⟩ = some (.int .i64 a0_4) := (blk_cell BK132.out 4).trans rfl; have hcz22_5 : w21.cell? ⟨gb132, 5, none⟩ = some (.int .i64 a0_5) := (blk_cell BK132.out 5).trans rfl; have hcz22_6 : w21.cell? ⟨gb132, 6, none⟩ = some (.int .i64 a0_6) := (blk_cell BK132.out 6).trans rfl; have hcz22_7 : w21.cell? ⟨gb132, 7, none⟩ = some (.int .i64 a0_7) := (blk_cell BK132.out 7).trans rfl; have hcz22_8 : w21.cell? ⟨gb132, 8, none⟩ = some (.int .i64 a0_8) := (blk_cell BK132.out 8).trans rfl; have hcz22_9 : w21.cell? ⟨gb132, 9, none⟩ = some (.int .i64 a0_9) := (blk_cell BK132.out 9).trans rfl; have hcz22_10 : w21.cell? ⟨gb132, 10, none⟩ = some (.int .i64 a0_10) := (blk_cell BK132.out 10).trans rfl; have hcz22_11 : w21.cell? ⟨gb132, 11, none⟩ = some (.int .i64 a0_11) := (blk_cell BK132.out 11).trans rfl; have hcz22_12 : w21.cell? ⟨gb132, 12, none⟩ = some (.int .i64 a0_12) := (blk_cell BK132.out 12).trans rfl; have hcz22_13 : w21.cell? ⟨gb132, 13, none⟩ = some (.int .i64 a0_13) := (blk_cell BK132.out 13).trans rfl; have hcz22_14 : w21.cell? ⟨gb132, 14, none⟩ = some (.slice A0_14 l0_14.length c0_14) := (blk_cell BK132.out 14).trans rfl; have hcz22_15 : w21.cell? ⟨gb132, 15, none⟩ = some (.slice A0_15 l0_15.length c0_15) := (blk_cell BK132.out 15).trans rfl; have hfz22_0 := blk_frozen BK132.out 0; have hfz22_1 := blk_frozen BK132.out 1; have hfz22_2 := blk_frozen BK132.out 2; have hfz22_3 := blk_frozen BK132.out 3; have hfz22_4 := blk_frozen BK132.out 4; have hfz22_5 := blk_frozen BK132.out 5; have hfz22_6 := blk_frozen BK132.out 6; have hfz22_7 := blk_frozen BK132.out 7; have hfz22_8 := blk_frozen BK132.out 8; have hfz22_9 := blk_frozen BK132.out 9; have hfz22_10 := blk_frozen BK132.out 10; have hfz22_11 := blk_frozen BK132.out 11; have hfz22_12 := blk_frozen BK132.out 12; have hfz22_13 := blk_frozen BK132.out 13; have hfz22_14 := blk_frozen BK132.out 14; have hfz22_15 := blk_frozen BK132.out 15) | ((with_reducible refine gate_callee (f := 72) rfl ?_); refine goesL_ (some 8) rfl rfl Try.func72 (by kernel_rfl) rfl #[.int .i64 a0_0, .int .i64 255] rfl (by (try simp only [List.map_toArray, List.map_cons, List.map_nil]); first | done | rfl | (simp only [List.length_drop, List.length_take]; rfl)) ?_; (with_reducible refine (spec_l05In.calls a0_0 255 true _ A2.out).mono ?_); rintro e w' ⟨rfl, ⟨nd, rfl⟩⟩; refine ⟨_, rfl, ?_⟩) | (go_at_call 72; (with_reducible refine (spec_l05In.calls a0_1 1048575 true _ A4.out).mono ?_); rintro e w' ⟨rfl, ⟨nd, rfl⟩⟩) | (go_at_call 72; (with_reducible refine (spec_l05In.calls a0_2 255 true _ A6.out).mono ?_); rintro e w' ⟨rfl, ⟨nd, rfl⟩⟩) | (go_at_call 72; (with_reducible refine (spec_l05In.calls a0_3 255 true _ A8.out).mono ?_); rintro e w' ⟨rfl, ⟨nd, rfl⟩⟩) | (go_at_call 39; (with_reducible refine (spec_l06Inner.calls a0_3 false _ A10.out).mono ?_); rintro e w' ⟨rfl, ⟨nd, rfl⟩⟩) | (go_at_call 82; (with_reducible refine (spec_AddrOk.calls a0_4 a0_5 a0_6 a0_7 a0_8 true _ A16.out).mono ?_); rintro e w23 ⟨rfl, hb⟩; have n0_ := Aside0.mk (blk_below (g := gb132) (o := .cells #[.int .i64 a0_0, .int .i64 a0_1, .int .i64 a0_2, .int .i64 a0_3, .int .i64 a0_4, .int .i64 a0_5, .int .i64 a0_6, .int .i64 a0_7, .int .i64 a0_8, .int .i64 a0_9, .int .i64 a0_10, .int .i64 a0_11, .int .i64 a0_12, .int .i64 a0_13, .slice A0_14 l0_14.length c0_14, .slice A0_15 l0_15.length c0_15] 27 (0, 0)) (by (with_reducible repeat (first | refine blk_drewN ?_ _ | refine blk_drew ?_ | refine blk_alloc ?_ _)); exact BK132.out) hb); have n1_ := Aside0.mk (below_step (by repeat (first | (with_reducible first | exact HB.out | apply below_alloc | apply pw_below_drewN | apply below_drew1 | refine below_set ?_ GE132.out) | exact HB.out)) hb); clear BK132; clear HB; have BK132 := n0_; have HB := n1_; clear n0_ n1_; (try clear hb); (try clear hb2); (try clear hk); (try clear hi); have hcz24_0 : w23.cell? ⟨gb132, 0, none⟩ = some (.int .i64 a0_0) := (blk_cell BK132.out 0).trans rfl; have hcz24_1 : w23.cell? ⟨gb132, 1, none⟩ = some (.int .i64 a0_1) := (blk_cell BK132.out 1).trans rfl; have hcz24_2 : w23.cell? ⟨gb132, 2, none⟩ = some (.int .i64 a0_2) := (blk_cell BK132.out 2).trans rfl; have hcz24_3 : w23.cell? ⟨gb132, 3, none⟩ = some (.int .i64 a0_3) := (blk_cell BK132.out 3).trans rfl; have hcz24_4 : w23.cell? ⟨gb132, 4, none⟩ = some (.int .i64 a0_4) := (blk_cell BK132.out 4).trans rfl; have hcz24_5 : w23.cell? ⟨gb132, 5, none⟩ = some (.int .i64 a0_5) := (blk_cell BK132.out 5).trans rfl; have hcz24_6 : w23.cell? ⟨gb132, 6, none⟩ = some (.int .i64 a0_6) := (blk_cell BK132.out 6).trans rfl; have hcz24_7 : w23.cell? ⟨gb132, 7, none⟩ = some (.int .i64 a0_7) := (blk_cell BK132.out 7).trans rfl; have hcz24_8 : w23.cell? ⟨gb132, 8, none⟩ = some (.int .i64 a0_8) := (blk_cell BK132.out 8).trans rfl; have hcz24_9 : w23.cell? ⟨gb132, 9, none⟩ = some (.int .i64 a0_9) := (blk_cell BK132.out 9).trans rfl; have hcz24_10 : w23.cell? ⟨gb132, 10, none⟩ = some (.int .i64 a0_10) := (blk_cell BK132.out 10).trans rfl; have hcz24_11 : w23.cell? ⟨gb132, 11, none⟩ = some (.int .i64 a0_11) := (blk_cell BK132.out 11).trans rfl; have hcz24_12 : w23.cell? ⟨gb132, 12, none⟩ = some (.int .i64 a0_12) := (blk_cell BK132.out 12).trans rfl; have hcz24_13 : w23.cell? ⟨gb132, 13, none⟩ = some (.int .i64 a0_13) := (blk_cell BK132.out 13).trans rfl; have hcz24_14 : w23.cell? ⟨gb132, 14, none⟩ = some (.slice A0_14 l0_14.length c0_14) := (blk_cell BK132.out 14).trans rfl; have hcz24_15 : w23.cell? ⟨gb132, 15, none⟩ = some (.slice A0_15 l0_15.length c0_15) := (blk_cell BK132.out 15).trans rfl; have hfz24_0 := blk_frozen BK132.out 0; have hfz24_1 := blk_frozen BK132.out 1; have hfz24_2 := blk_frozen BK132.out 2; have hfz24_3 := blk_frozen BK132.out 3; have hfz24_4 := blk_frozen BK132.out 4; have hfz24_5 := blk_frozen BK132.out 5; have hfz24_6 := blk_frozen BK132.out 6; have hfz24_7 := blk_frozen BK132.out 7; have hfz24_8 := blk_frozen BK132.out 8; have hfz24_9 := blk_frozen BK132.out 9; have hfz24_10 := blk_frozen BK132.out 10; have hfz24_11 := blk_frozen BK132.out 11; have hfz24_12 := blk_frozen BK132.out 12; have hfz24_13 := blk_frozen BK132.out 13; have hfz24_14 := blk_frozen BK132.out 14; have hfz24_15 := blk_frozen BK132.out 15) | (go_at_call 82; (with_reducible refine (spec_AddrOk.calls a0_9 a0_10 a0_11 a0_12 a0_13 true _ A18.out).mono ?_); rintro e w25 ⟨rfl, hb⟩; have n0_ := Aside0.mk (blk_below (g := gb132) (o := .cells #[.int .i64 a0_0, .int .i64 a0_1, .int .i64 a0_2, .int .i64 a0_3, .int .i64 a0_4, .int .i64 a0_5, .int .i64 a0_6, .int .i64 a0_7, .int .i64 a0_8, .int .i64 a0_9, .int .i64 a0_10, .int .i64 a0_11, .int .i64 a0_12, .int .i64 a0_13, .slice A0_14 l0_14.length c0_14, .slice A0_15 l0_15.length c0_15] 27 (0, 0)) (by (with_reducible repeat (first | refine blk_drewN ?_ _ | refine blk_drew ?_ | refine blk_alloc ?_ _)); exact BK132.out) hb); have n1_ := Aside0.mk (below_step (by repeat (first | (with_reducible first | exact HB.out | apply below_alloc | apply pw_below_drewN | apply below_drew1 | refine below_set ?_ GE132.out) | exact HB.out)) hb); clear BK132; clear HB; have BK132 := n0_; have HB := n1_; clear n0_ n1_; (try clear hb); (try clear hb2); (try clear hk); (try clear hi); have hcz26_0 : w25.cell? ⟨gb132, 0, none⟩ = some (.int .i64 a0_0) := (blk_cell BK132.out 0).trans rfl; have hcz26_1 : w25.cell? ⟨gb132, 1, none⟩ = some (.int .i64 a0_1) := (blk_cell BK132.out 1).trans rfl; have hcz26_2 : w25.cell? ⟨gb132, 2, none⟩ = some (.int .i64 a0_2) := (blk_cell BK132.out 2).trans rfl; have hcz26_3 : w25.cell? ⟨gb132, 3, none⟩ = some (.int .i64 a0_3) := (blk_cell BK132.out 3).trans rfl; have hcz26_4 : w25.cell? ⟨gb132, 4, none⟩ = some (.int .i64 a0_4) := (blk_cell BK132.out 4).trans rfl; have hcz26_5 : w25.cell? ⟨gb132, 5, none⟩ = some (.int .i64 a0_5) := (blk_cell BK132.out 5).trans rfl; have hcz26_6 : w25.cell? ⟨gb132, 6, none⟩ = some (.int .i64 a0_6) := (blk_cell BK132.out 6).trans rfl; have hcz26_7 : w25.cell? ⟨gb132, 7, none⟩ = some (.int .i64 a0_7) := (blk_cell BK132.out 7).trans rfl; have hcz26_8 : w25.cell? ⟨gb132, 8, none⟩ = some (.int .i64 a0_8) := (blk_cell BK132.out 8).trans rfl; have hcz26_9 : w25.cell? ⟨gb132, 9, none⟩ = some (.int .i64 a0_9) := (blk_cell BK132.out 9).trans rfl; have hcz26_10 : w25.cell? ⟨gb132, 10, none⟩ = some (.int .i64 a0_10) := (blk_cell BK132.out 10).trans rfl; have hcz26_11 : w25.cell? ⟨gb132, 11, none⟩ = some (.int .i64 a0_11) := (blk_cell BK132.out 11).trans rfl; have hcz26_12 : w25.cell? ⟨gb132, 12, none⟩ = some (.int .i64 a0_12) := (blk_cell BK132.out 12).trans rfl; have hcz26_13 : w25.cell? ⟨gb132, 13, none⟩ = some (.int .i64 a0_13) := (blk_cell BK132.out 13).trans rfl; have hcz26_14 : w25.cell? ⟨gb132, 14, none⟩ = some (.slice A0_14 l0_14.length c0_14) := (blk_cell BK132.out 14).trans rfl; have hcz26_15 : w25.cell? ⟨gb132, 15, none⟩ = some (.slice A0_15 l0_15.length c0_15) := (blk_cell BK132.out 15).trans rfl; have hfz26_0 := blk_frozen BK132.out 0; have hfz26_1 := blk_frozen BK132.out 1; have hfz26_2 := blk_frozen BK132.out 2; have hfz26_3 := blk_frozen BK132.out 3; have hfz26_4 := blk_frozen BK132.out 4; have hfz26_5 := blk_frozen BK132.out 5; have hfz26_6 := blk_frozen BK132.out 6; have hfz26_7 := blk_frozen BK132.out 7; have hfz26_8 := blk_frozen BK132.out 8; have hfz26_9 := blk_frozen BK132.out 9; have hfz26_10 := blk_frozen BK132.out 10; have hfz26_11 := blk_frozen BK132.out 11; have hfz26_12 := blk_frozen BK132.out 12; have hfz26_13 := blk_frozen BK132.out 13; have hfz26_14 := blk_frozen BK132.out 14; have hfz26_15 := blk_frozen BK132.out 15))
           go_ret
           exact ⟨by first | rfl | (simp [errW_none, errW_some] <;> rfl) | (simp [*, errW_none, errW_some] <;> rfl), by repeat (first | (with_reducible first | exact HB.out | apply below_alloc | apply pw_below_drewN | apply below_drew1 | refine below_set ?_ GE132.out) | exact HB.out)⟩
          ·rw [if_neg c20] at H
           have c20b0 : decide (3 < (l0_14.length : Int)) = false := decide_eq_false c20
           have c20b1 : decide (3 < l0_14.length) = false := decide_eq_false (by omega)
           clear c20
           have H' := Aside0.mk H
           clear H
           go_enter Try.func50, Try.ntmps50
           go_wp2_with (first | ((with_reducible refine gate_dst (N := 1) rfl ?_); (try (refine gate_guard (by rfl) ?_; dsimp only)); refine box_event ?hg (N := 1) ?hd (cs := #[.int .i64 a0_0, .int .i64 a0_1, .int .i64 a0_2, .int .i64 a0_3, .int .i64 a0_4, .int .i64 a0_5, .int .i64 a0_6, .int .i64 a0_7, .int .i64 a0_8, .int .i64 a0_9, .int .i64 a0_10, .int .i64 a0_11, .int .i64 a0_12, .int .i64 a0_13, .slice A0_14 l0_14.length c0_14, .slice A0_15 l0_15.length c0_15]) (t := 27) ?hr ?_; (case hd => rfl); (case hg => rfl); (case hr => first | (go_simp; done) | (go_simp; rfl)); intro gb132 hg w27 hbox hb; have n0_ := Aside0.mk (below_step (by repeat (first | (with_reducible first | exact HB.out | apply below_alloc | apply pw_below_drewN | apply below_drew1) | exact HB.out)) hb); have n1_ := Aside0.mk (hbox); have n2_ := Aside0.mk ((by rw [hg]; exact (below_size (by repeat (first | (with_reducible first | exact HB.out | apply below_alloc | apply pw_below_drewN | apply below_drew1) | exact HB.out))) : w.heap.size ≤ gb132)); have n3_ := Aside0.mk ((by rw [hg]; exact (below_size (by repeat (first | (with_reducible first | exact HB.out | apply below_alloc | apply pw_below_drewN | apply below_drew1) | exact HB.out))) : w.heap.size ≤ gb132)); clear HB; have HB := n0_; have BK132 := n1_; have GW132 := n2_; have GE132 := n3_; clear n0_ n1_ n2_ n3_; clear hb hbox hg; have hcz28_0 : w27.cell? ⟨gb132, 0, none⟩ = some (.int .i64 a0_0) := (blk_cell BK132.out 0).trans rfl; have hcz28_1 : w27.cell? ⟨gb132, 1, none⟩ = some (.int .i64 a0_1) := (blk_cell BK132.out 1).trans rfl; have hcz28_2 : w27.cell? ⟨gb132, 2, none⟩ = some (.int .i64 a0_2) := (blk_cell BK132.out 2).trans rfl; have hcz28_3 : w27.cell? ⟨gb132, 3, none⟩ = some (.int .i64 a0_3) := (blk_cell BK132.out 3).trans rfl; have hcz28_4 : w27.cell? ⟨gb132, 4, none⟩ = some (.int .i64 a0_4) := (blk_cell BK132.out 4).trans rfl; have hcz28_5 : w27.cell? ⟨gb132, 5, none⟩ = some (.int .i64 a0_5) := (blk_cell BK132.out 5).trans rfl; have hcz28_6 : w27.cell? ⟨gb132, 6, none⟩ = some (.int .i64 a0_6) := (blk_cell BK132.out 6).trans rfl; have hcz28_7 : w27.cell? ⟨gb132, 7, none⟩ = some (.int .i64 a0_7) := (blk_cell BK132.out 7).trans rfl; have hcz28_8 : w27.cell? ⟨gb132, 8, none⟩ = some (.int .i64 a0_8) := (blk_cell BK132.out 8).trans rfl; have hcz28_9 : w27.cell? ⟨gb132, 9, none⟩ = some (.int .i64 a0_9) := (blk_cell BK132.out 9).trans rfl; have hcz28_10 : w27.cell? ⟨gb132, 10, none⟩ = some (.int .i64 a0_10) := (blk_cell BK132.out 10).trans rfl; have hcz28_11 : w27.cell? ⟨gb132, 11, none⟩ = some (.int .i64 a0_11) := (blk_cell BK132.out 11).trans rfl; have hcz28_12 : w27.cell? ⟨gb132, 12, none⟩ = some (.int .i64 a0_12) := (blk_cell BK132.out 12).trans rfl; have hcz28_13 : w27.cell? ⟨gb132, 13, none⟩ = some (.int .i64 a0_13) := (blk_cell BK132.out 13).trans rfl; have hcz28_14 : w27.cell? ⟨gb132, 14, none⟩ = some (.slice A0_14 l0_14.length c0_14) := (blk_cell BK132.out 14).trans rfl; have hcz28_15 : w27.cell? ⟨gb132, 15, none⟩ = some (.slice A0_15 l0_15.length c0_15) := (blk_cell BK132.out 15).trans rfl; have hfz28_0 := blk_frozen BK132.out 0; have hfz28_1 := blk_frozen BK132.out 1; have hfz28_2 := blk_frozen BK132.out 2; have hfz28_3 := blk_frozen BK132.out 3; have hfz28_4 := blk_frozen BK132.out 4; have hfz28_5 := blk_frozen BK132.out 5; have hfz28_6 := blk_frozen BK132.out 6; have hfz28_7 := blk_frozen BK132.out 7; have hfz28_8 := blk_frozen BK132.out 8; have hfz28_9 := blk_frozen BK132.out 9; have hfz28_10 := blk_frozen BK132.out 10; have hfz28_11 := blk_frozen BK132.out 11; have hfz28_12 := blk_frozen BK132.out 12; have hfz28_13 := blk_frozen BK132.out 13; have hfz28_14 := blk_frozen BK132.out 14; have hfz28_15 := blk_frozen BK132.out 15) | ((with_reducible refine gate_callee (f := 72) rfl ?_); refine goesL_ (some 8) rfl rfl Try.func72 (by kernel_rfl) rfl #[.int .i64 a0_0, .int .i64 255] rfl (by (try simp only [List.map_toArray, List.map_cons, List.map_nil]); first | done | rfl | (simp only [List.length_drop, List.length_take]; rfl)) ?_; (with_reducible refine (spec_l05In.calls a0_0 255 true _ A2.out).mono ?_); rintro e w' ⟨rfl, ⟨nd, rfl⟩⟩; refine ⟨_, rfl, ?_⟩) | (go_at_call 72; (with_reducible refine (spec_l05In.calls a0_1 1048575 true _ A4.out).mono ?_); rintro e w' ⟨rfl, ⟨nd, rfl⟩⟩) | (go_at_call 72; (with_reducible refine (spec_l05In.calls a0_2 255 true _ A6.out).mono ?_); rintro e w' ⟨rfl, ⟨nd, rfl⟩⟩) | (go_at_call 72; (with_reducible refine (spec_l05In.calls a0_3 255 true _ A8.out).mono ?_); rintro e w' ⟨rfl, ⟨nd, rfl⟩⟩) | (go_at_call 39; (with_reducible refine (spec_l06Inner.calls a0_3 false _ A10.out).mono ?_); rintro e w' ⟨rfl, ⟨nd, rfl⟩⟩) | (go_at_call 82; (with_reducible refine (spec_AddrOk.calls a0_4 a0_5 a0_6 a0_7 a0_8 true _ A16.out).mono ?_); rintro e w29 ⟨rfl, hb⟩; have n0_ := Aside0.mk (blk_below (g := gb132) (o := .cells #[.int .i64 a0_0, .int .i64 a0_1, .int .i64 a0_2, .int .i64 a0_3, .int .i64 a0_4, .int .i64 a0_5, .int .i64 a0_6, .int .i64 a0_7, .int .i64 a0_8, .int .i64 a0_9, .int .i64 a0_10, .int .i64 a0_11, .int .i64 a0_12, .int .i64 a0_13, .slice A0_14 l0_14.length c0_14, .slice A0_15 l0_15.length c0_15] 27 (0, 0)) (by (with_reducible repeat (first | refine blk_drewN ?_ _ | refine blk_drew ?_ | refine blk_alloc ?_ _)); exact BK132.out) hb); have n1_ := Aside0.mk (below_step (by repeat (first | (with_reducible first | exact HB.out | apply below_alloc | apply pw_below_drewN | apply below_drew1 | refine below_set ?_ GE132.out) | exact HB.out)) hb); clear BK132; clear HB; have BK132 := n0_; have HB := n1_; clear n0_ n1_; (try clear hb); (try clear hb2); (try clear hk); (try clear hi); have hcz30_0 : w29.cell? ⟨gb132, 0, none⟩ = some (.int .i64 a0_0) := (blk_cell BK132.out 0).trans rfl; have hcz30_1 : w29.cell? ⟨gb132, 1, none⟩ = some (.int .i64 a0_1) := (blk_cell BK132.out 1).trans rfl; have hcz30_2 : w29.cell? ⟨gb132, 2, none⟩ = some (.int .i64 a0_2) := (blk_cell BK132.out 2).trans rfl; have hcz30_3 : w29.cell? ⟨gb132, 3, none⟩ = some (.int .i64 a0_3) := (blk_cell BK132.out 3).trans rfl; have hcz30_4 : w29.cell? ⟨gb132, 4, none⟩ = some (.int .i64 a0_4) := (blk_cell BK132.out 4).trans rfl; have hcz30_5 : w29.cell? ⟨gb132, 5, none⟩ = some (.int .i64 a0_5) := (blk_cell BK132.out 5).trans rfl; have hcz30_6 : w29.cell? ⟨gb132, 6, none⟩ = some (.int .i64 a0_6) := (blk_cell BK132.out 6).trans rfl; have hcz30_7 : w29.cell? ⟨gb132, 7, none⟩ = some (.int .i64 a0_7) := (blk_cell BK132.out 7).trans rfl; have hcz30_8 : w29.cell? ⟨gb132, 8, none⟩ = some (.int .i64 a0_8) := (blk_cell BK132.out 8).trans rfl; have hcz30_9 : w29.cell? ⟨gb132, 9, none⟩ = some (.int .i64 a0_9) := (blk_cell BK132.out 9).trans rfl; have hcz30_10 : w29.cell? ⟨gb132, 10, none⟩ = some (.int .i64 a0_10) := (blk_cell BK132.out 10).trans rfl; have hcz30_11 : w29.cell? ⟨gb132, 11, none⟩ = some (.int .i64 a0_11) := (blk_cell BK132.out 11).trans rfl; have hcz30_12 : w29.cell? ⟨gb132, 12, none⟩ = some (.int .i64 a0_12) := (blk_cell BK132.out 12).trans rfl; have hcz30_13 : w29.cell? ⟨gb132, 13, none⟩ = some (.int .i64 a0_13) := (blk_cell BK132.out 13).trans rfl; have hcz30_14 : w29.cell? ⟨gb132, 14, none⟩ = some (.slice A0_14 l0_14.length c0_14) := (blk_cell BK132.out 14).trans rfl; have hcz30_15 : w29.cell? ⟨gb132, 15, none⟩ = some (.slice A0_15 l0_15.length c0_15) := (blk_cell BK132.out 15).trans rfl; have hfz30_0 := blk_frozen BK132.out 0; have hfz30_1 := blk_frozen BK132.out 1; have hfz30_2 := blk_frozen BK132.out 2; have hfz30_3 := blk_frozen BK132.out 3; have hfz30_4 := blk_frozen BK132.out 4; have hfz30_5 := blk_frozen BK132.out 5; have hfz30_6 := blk_frozen BK132.out 6; have hfz30_7 := blk_frozen BK132.out 7; have hfz30_8 := blk_frozen BK132.out 8; have hfz30_9 := blk_frozen BK132.out 9; have hfz30_10 := blk_frozen BK132.out 10; have hfz30_11 := blk_frozen BK132.out 11; have hfz30_12 := blk_frozen BK132.out 12; have hfz30_13 := blk_frozen BK132.out 13; have hfz30_14 := blk_frozen BK132.out 14; have hfz30_15 := blk_frozen BK132.out 15) | (go_at_call 82; (with_reducible refine (spec_AddrOk.calls a0_9 a0_10 a0_11 a0_12 a0_13 true _ A18.out).mono ?_); rintro e w31 ⟨rfl, hb⟩; have n0_ := Aside0.mk (blk_below (g := gb132) (o := .cells #[.int .i64 a0_0, .int .i64 a0_1, .int .i64 a0_2, .int .i64 a0_3, .int .i64 a0_4, .int .i64 a0_5, .int .i64 a0_6, .int .i64 a0_7, .int .i64 a0_8, .int .i64 a0_9, .int .i64 a0_10, .int .i64 a0_11, .int .i64 a0_12, .int .i64 a0_13, .slice A0_14 l0_14.length c0_14, .slice A0_15 l0_15.length c0_15] 27 (0, 0)) (by (with_reducible repeat (first | refine blk_drewN ?_ _ | refine blk_drew ?_ | refine blk_alloc ?_ _)); exact BK132.out) hb); have n1_ := Aside0.mk (below_step (by repeat (first | (with_reducible first | exact HB.out | apply below_alloc | apply pw_below_drewN | apply below_drew1 | refine below_set ?_ GE132.out) | exact HB.out)) hb); clear BK132; clear HB; have BK132 := n0_; have HB := n1_; clear n0_ n1_; (try clear hb); (try clear hb2); (try clear hk); (try clear hi); have hcz32_0 : w31.cell? ⟨gb132, 0, none⟩ = some (.int .i64 a0_0) := (blk_cell BK132.out 0).trans rfl; have hcz32_1 : w31.cell? ⟨gb132, 1, none⟩ = some (.int .i64 a0_1) := (blk_cell BK132.out 1).trans rfl; have hcz32_2 : w31.cell? ⟨gb132, 2, none⟩ = some (.int .i64 a0_2) := (blk_cell BK132.out 2).trans rfl; have hcz32_3 : w31.cell? ⟨gb132, 3, none⟩ = some (.int .i64 a0_3) := (blk_cell BK132.out 3).trans rfl; have hcz32_4 : w31.cell? ⟨gb132, 4, none⟩ = some (.int .i64 a0_4) := (blk_cell BK132.out 4).trans rfl; have hcz32_5 : w31.cell? ⟨gb132, 5, none⟩ = some (.int .i64 a0_5) := (blk_cell BK132.out 5).trans rfl; have hcz32_6 : w31.cell? ⟨gb132, 6, none⟩ = some (.int .i64 a0_6) := (blk_cell BK132.out 6).trans rfl; have hcz32_7 : w31.cell? ⟨gb132, 7, none⟩ = some (.int .i64 a0_7) := (blk_cell BK132.out 7).trans rfl; have hcz32_8 : w31.cell? ⟨gb132, 8, none⟩ = some (.int .i64 a0_8) := (blk_cell BK132.out 8).trans rfl; have hcz32_9 : w31.cell? ⟨gb132, 9, none⟩ = some (.int .i64 a0_9) := (blk_cell BK132.out 9).trans rfl; have hcz32_10 : w31.cell? ⟨gb132, 10, none⟩ = some (.int .i64 a0_10) := (blk_cell BK132.out 10).trans rfl; have hcz32_11 : w31.cell? ⟨gb132, 11, none⟩ = some (.int .i64 a0_11) := (blk_cell BK132.out 11).trans rfl; have hcz32_12 : w31.cell? ⟨gb132, 12, none⟩ = some (.int .i64 a0_12) := (blk_cell BK132.out 12).trans rfl; have hcz32_13 : w31.cell? ⟨gb132, 13, none⟩ = some (.int .i64 a0_13) := (blk_cell BK132.out 13).trans rfl; have hcz32_14 : w31.cell? ⟨gb132, 14, none⟩ = some (.slice A0_14 l0_14.length c0_14) := (blk_cell BK132.out 14).trans rfl; have hcz32_15 : w31.cell? ⟨gb132, 15, none⟩ = some (.slice A0_15 l0_15.length c0_15) := (blk_cell BK132.out 15).trans rfl; have hfz32_0 := blk_frozen BK132.out 0; have hfz32_1 := blk_frozen BK132.out 1; have hfz32_2 := blk_frozen BK132.out 2; have hfz32_3 := blk_frozen BK132.out 3; have hfz32_4 := blk_frozen BK132.out 4; have hfz32_5 := blk_frozen BK132.out 5; have hfz32_6 := blk_frozen BK132.out 6; have hfz32_7 := blk_frozen BK132.out 7; have hfz32_8 := blk_frozen BK132.out 8; have hfz32_9 := blk_frozen BK132.out 9; have hfz32_10 := blk_frozen BK132.out 10; have hfz32_11 := blk_frozen BK132.out 11; have hfz32_12 := blk_frozen BK132.out 12; have hfz32_13 := blk_frozen BK132.out 13; have hfz32_14 := blk_frozen BK132.out 14; have hfz32_15 := blk_frozen BK132.out 15))
           go_loopg [3, 4] k (fun kq v3 v4 w' => ∃ (x3_1 : Int) (x4_1 : Int), v3 = .int .i64 x3_1 ∧ v4 = .int .i64 x4_1 ∧ Aside0 (spec_SixOk.l0 kq x3_1 x4_1 a0_0 a0_1 a0_2 a0_3 a0_4 a0_5 a0_6 a0_7 a0_8 a0_9 a0_10 a0_11 a0_12 a0_13 l0_14 l0_15 = some r) ∧ Aside0 (kq ≤ k) ∧ Aside0 (w'.heap[gb132]? = some (.cells #[.int .i64 a0_0, .int .i64 a0_1, .int .i64 a0_2, .int .i64 a0_3, .int .i64 a0_4, .int .i64 a0_5, .int .i64 a0_6, .int .i64 a0_7, .int .i64 a0_8, .int .i64 a0_9, .int .i64 a0_10, .int .i64 a0_11, .int .i64 a0_12, .int .i64 a0_13, (.slice A0_14 l0_14.length c0_14), (.slice A0_15 l0_15.length c0_15)] 27 (0, 0))) ∧ Aside0 (Below w.heap.size w w'))
           case atStart => exact ⟨(1460), (0), (by first | rfl | (simp; done) | (simp [*]; done)), (by first | rfl | (simp; done) | (simp [*]; done)), H', ⟨Nat.le_refl _⟩, ⟨by (with_reducible repeat (first | refine blk_drewN ?_ _ | refine blk_drew ?_ | refine blk_alloc ?_ _)); exact BK132.out⟩, ⟨by repeat (first | (with_reducible first | exact HB.out | apply below_alloc | apply pw_below_drewN | apply below_drew1 | refine below_set ?_ GE132.out) | exact HB.out)⟩⟩
           case round =>
            clear H'
            try clear c1
            try clear c2
            try clear p2
            try clear c3
            try clear c5
            try clear c7
            try clear c9
            try clear c11
            try clear c14
            try clear c14b0
            try clear c14b1
            try clear c15
            try clear c15b0
            try clear c15b1
            try clear c17
            try clear c19
            try clear c20
            try clear c20b0
            try clear c20b1
            try clear hcz13_0
            try clear hcz13_1
            try clear hcz13_10
            try clear hcz13_11
            try clear hcz13_12
            try clear hcz13_13
            try clear hcz13_14
            try clear hcz13_15
            try clear hcz13_2
            try clear hcz13_3
            try clear hcz13_4
            try clear hcz13_5
            try clear hcz13_6
            try clear hcz13_7
            try clear hcz13_8
            try clear hcz13_9
            try clear hcz22_0
            try clear hcz22_1
            try clear hcz22_10
            try clear hcz22_11
            try clear hcz22_12
            try clear hcz22_13
            try clear hcz22_14
            try clear hcz22_15
            try clear hcz22_2
            try clear hcz22_3
            try clear hcz22_4
            try clear hcz22_5
            try clear hcz22_6
            try clear hcz22_7
            try clear hcz22_8
            try clear hcz22_9
            try clear hcz24_0
            try clear hcz24_1
            try clear hcz24_10
            try clear hcz24_11
            try clear hcz24_12
            try clear hcz24_13
            try clear hcz24_14
            try clear hcz24_15
            try clear hcz24_2
            try clear hcz24_3
            try clear hcz24_4
            try clear hcz24_5
            try clear hcz24_6
            try clear hcz24_7
            try clear hcz24_8
            try clear hcz24_9
            try clear hcz26_0
            try clear hcz26_1
            try clear hcz26_10
            try clear hcz26_11
            try clear hcz26_12
            try clear hcz26_13
            try clear hcz26_14
            try clear hcz26_15
            try clear hcz26_2
            try clear hcz26_3
            try clear hcz26_4
            try clear hcz26_5
            try clear hcz26_6
            try clear hcz26_7
            try clear hcz26_8
            try clear hcz26_9
            try clear hcz28_0
            try clear hcz28_1
            try clear hcz28_10
            try clear hcz28_11
            try clear hcz28_12
            try clear hcz28_13
            try clear hcz28_14
            try clear hcz28_15
            try clear hcz28_2
            try clear hcz28_3
            try clear hcz28_4
            try clear hcz28_5
            try clear hcz28_6
            try clear hcz28_7
            try clear hcz28_8
            try clear hcz28_9
            try clear hcz30_0
            try clear hcz30_1
            try clear hcz30_10
            try clear hcz30_11
            try clear hcz30_12
            try clear hcz30_13
            try clear hcz30_14
            try clear hcz30_15
            try clear hcz30_2
            try clear hcz30_3
            try clear hcz30_4
            try clear hcz30_5
            try clear hcz30_6
            try clear hcz30_7
            try clear hcz30_8
            try clear hcz30_9
            try clear hcz32_0
            try clear hcz32_1
            try clear hcz32_10
            try clear hcz32_11
            try clear hcz32_12
            try clear hcz32_13
            try clear hcz32_14
            try clear hcz32_15
            try clear hcz32_2
            try clear hcz32_3
            try clear hcz32_4
            try clear hcz32_5
            try clear hcz32_6
            try clear hcz32_7
            try clear hcz32_8
            try clear hcz32_9
            try clear hfz13_0
            try clear hfz13_1
            try clear hfz13_10
            try clear hfz13_11
            try clear hfz13_12
            try clear hfz13_13
            try clear hfz13_14
            try clear hfz13_15
            try clear hfz13_2
            try clear hfz13_3
            try clear hfz13_4
            try clear hfz13_5
            try clear hfz13_6
            try clear hfz13_7
            try clear hfz13_8
            try clear hfz13_9
            try clear hfz22_0
            try clear hfz22_1
            try clear hfz22_10
            try clear hfz22_11
            try clear hfz22_12
            try clear hfz22_13
            try clear hfz22_14
            try clear hfz22_15
            try clear hfz22_2
            try clear hfz22_3
            try clear hfz22_4
            try clear hfz22_5
            try clear hfz22_6
            try clear hfz22_7
            try clear hfz22_8
            try clear hfz22_9
            try clear hfz24_0
            try clear hfz24_1
            try clear hfz24_10
            try clear hfz24_11
            try clear hfz24_12
            try clear hfz24_13
            try clear hfz24_14
            try clear hfz24_15
            try clear hfz24_2
            try clear hfz24_3
            try clear hfz24_4
            try clear hfz24_5
            try clear hfz24_6
            try clear hfz24_7
            try clear hfz24_8
            try clear hfz24_9
            try clear hfz26_0
            try clear hfz26_1
            try clear hfz26_10
            try clear hfz26_11
            try clear hfz26_12
            try clear hfz26_13
            try clear hfz26_14
            try clear hfz26_15
            try clear hfz26_2
            try clear hfz26_3
            try clear hfz26_4
            try clear hfz26_5
            try clear hfz26_6
            try clear hfz26_7
            try clear hfz26_8
            try clear hfz26_9
            try clear hfz28_0
            try clear hfz28_1
            try clear hfz28_10
            try clear hfz28_11
            try clear hfz28_12
            try clear hfz28_13
            try clear hfz28_14
            try clear hfz28_15
            try clear hfz28_2
            try clear hfz28_3
            try clear hfz28_4
            try clear hfz28_5
            try clear hfz28_6
            try clear hfz28_7
            try clear hfz28_8
            try clear hfz28_9
            try clear hfz30_0
            try clear hfz30_1
            try clear hfz30_10
            try clear hfz30_11
            try clear hfz30_12
            try clear hfz30_13
            try clear hfz30_14
            try clear hfz30_15
            try clear hfz30_2
            try clear hfz30_3
            try clear hfz30_4
            try clear hfz30_5
            try clear hfz30_6
            try clear hfz30_7
            try clear hfz30_8
            try clear hfz30_9
            try clear hfz32_0
            try clear hfz32_1
            try clear hfz32_10
            try clear hfz32_11
            try clear hfz32_12
            try clear hfz32_13
            try clear hfz32_14
            try clear hfz32_15
            try clear hfz32_2
            try clear hfz32_3
            try clear hfz32_4
            try clear hfz32_5
            try clear hfz32_6
            try clear hfz32_7
            try clear hfz32_8
            try clear hfz32_9
            obtain ⟨x3_1, x4_1, rfl, rfl, HA, HK1, BK132, HB⟩ := hrel
            cases gk with
            | zero => exact absurd HA.out (by simp [spec_SixOk.l0])
            | succ k1 =>
             have H := HA.out
             clear HA
             simp only [spec_SixOk.l0] at H
             by_cases c33 : x4_1 < (l0_14.length : Int)
             ·rw [if_pos c33] at H
              have c33b0 : decide (x4_1 < (l0_14.length : Int)) = true := decide_eq_true c33
              clear c33
              by_cases c34 : 0 ≤ x4_1
              ·rw [if_pos c34] at H
               have c34b0 : decide (0 ≤ x4_1) = true := decide_eq_true c34
               clear c34
               replace H := Option.bind_eq_some_iff.mp H
               obtain ⟨t142, A350, H⟩ := H
               replace H : (if t142 = true then (if ((rd_T69 l0_14 x4_1).f0) = 0 then (if x4_1 > 0 then (some false) else (if (((rd_T69 l0_14 x4_1).f1).length : Int) > 62 then (some false) else (if ((((rd_T69 l0_14 x4_1).f1).length : Int) % 8) = 6 then (spec_SixOk.l0 k1 (wrap64 ((wrap64 (x3_1 - (((rd_T69 l0_14 x4_1).f1).length : Int))) - 2)) (wrap64 (x4_1 + 1)) a0_0 a0_1 a0_2 a0_3 a0_4 a0_5 a0_6 a0_7 a0_8 a0_9 a0_10 a0_11 a0_12 a0_13 l0_14 l0_15) else (some false)))) else (if (((rd_T69 l0_14 x4_1).f1).length : Int) > 62 then (some false) else (if ((((rd_T69 l0_14 x4_1).f1).length : Int) % 8) = 6 then (spec_SixOk.l0 k1 (wrap64 ((wrap64 (x3_1 - (((rd_T69 l0_14 x4_1).f1).length : Int))) - 2)) (wrap64 (x4_1 + 1)) a0_0 a0_1 a0_2 a0_3 a0_4 a0_5 a0_6 a0_7 a0_8 a0_9 a0_10 a0_11 a0_12 a0_13 l0_14 l0_15) else (some false)))) else (some false)) = some r := H
               have A35 := Aside0.mk A350
               clear A350
               by_cases c36 : t142 = true
               ·subst c36
                have H1 : (if ((rd_T69 l0_14 x4_1).f0) = 0 then (if x4_1 > 0 then (some false) else (if (((rd_T69 l0_14 x4_1).f1).length : Int) > 62 then (some false) else (if ((((rd_T69 l0_14 x4_1).f1).length : Int) % 8) = 6 then (spec_SixOk.l0 k1 (wrap64 ((wrap64 (x3_1 - (((rd_T69 l0_14 x4_1).f1).length : Int))) - 2)) (wrap64 (x4_1 + 1)) a0_0 a0_1 a0_2 a0_3 a0_4 a0_5 a0_6 a0_7 a0_8 a0_9 a0_10 a0_11 a0_12 a0_13 l0_14 l0_15) else (some false)))) else (if (((rd_T69 l0_14 x4_1).f1).length : Int) > 62 then (some false) else (if ((((rd_T69 l0_14 x4_1).f1).length : Int) % 8) = 6 then (spec_SixOk.l0 k1 (wrap64 ((wrap64 (x3_1 - (((rd_T69 l0_14 x4_1).f1).length : Int))) - 2)) (wrap64 (x4_1 + 1)) a0_0 a0_1 a0_2 a0_3 a0_4 a0_5 a0_6 a0_7 a0_8 a0_9 a0_10 a0_11 a0_12 a0_13 l0_14 l0_15) else (some false)))) = some r := by rw [if_pos rfl] at H; exact H
                clear H
                have H := H1
                clear H1
                by_cases c37 : ((rd_T69 l0_14 x4_1).f0) = 0
                ·rw [if_pos c37] at H
                 have c37b0 : (((rd_T69 l0_14 x4_1).f0) == 0) = true := beq_iff_eq.mpr c37
                 have c37b1 : (((rd_T69 l0_14 x4_1).f0) != 0) = false := bne_eq_false_iff_eq.mpr c37
                 clear c37
                 by_cases c38 : x4_1 > 0
                 ·rw [if_pos c38] at H
                  have c38b0 : decide (0 < x4_1) = true := decide_eq_true c38
                  clear c38
                  obtain rfl := Option.some.inj H
                  have hcz39_0 : wr.cell? ⟨gb132, 0, none⟩ = some (.int .i64 a0_0) := (blk_cell BK132.out 0).trans rfl
                  have hcz39_1 : wr.cell? ⟨gb132, 1, none⟩ = some (.int .i64 a0_1) := (blk_cell BK132.out 1).trans rfl
                  have hcz39_2 : wr.cell? ⟨gb132, 2, none⟩ = some (.int .i64 a0_2) := (blk_cell BK132.out 2).trans rfl
                  have hcz39_3 : wr.cell? ⟨gb132, 3, none⟩ = some (.int .i64 a0_3) := (blk_cell BK132.out 3).trans rfl
                  have hcz39_4 : wr.cell? ⟨gb132, 4, none⟩ = some (.int .i64 a0_4) := (blk_cell BK132.out 4).trans rfl
                  have hcz39_5 : wr.cell? ⟨gb132, 5, none⟩ = some (.int .i64 a0_5) := (blk_cell BK132.out 5).trans rfl
                  have hcz39_6 : wr.cell? ⟨gb132, 6, none⟩ = some (.int .i64 a0_6) := (blk_cell BK132.out 6).trans rfl
                  have hcz39_7 : wr.cell? ⟨gb132, 7, none⟩ = some (.int .i64 a0_7) := (blk_cell BK132.out 7).trans rfl
                  have hcz39_8 : wr.cell? ⟨gb132, 8, none⟩ = some (.int .i64 a0_8) := (blk_cell BK132.out 8).trans rfl
                  have hcz39_9 : wr.cell? ⟨gb132, 9, none⟩ = some (.int .i64 a0_9) := (blk_cell BK132.out 9).trans rfl
                  have hcz39_10 : wr.cell? ⟨gb132, 10, none⟩ = some (.int .i64 a0_10) := (blk_cell BK132.out 10).trans rfl
                  have hcz39_11 : wr.cell? ⟨gb132, 11, none⟩ = some (.int .i64 a0_11) := (blk_cell BK132.out 11).trans rfl
                  have hcz39_12 : wr.cell? ⟨gb132, 12, none⟩ = some (.int .i64 a0_12) := (blk_cell BK132.out 12).trans rfl
                  have hcz39_13 : wr.cell? ⟨gb132, 13, none⟩ = some (.int .i64 a0_13) := (blk_cell BK132.out 13).trans rfl
                  have hcz39_14 : wr.cell? ⟨gb132, 14, none⟩ = some (.slice A0_14 l0_14.length c0_14) := (blk_cell BK132.out 14).trans rfl
                  have hcz39_15 : wr.cell? ⟨gb132, 15, none⟩ = some (.slice A0_15 l0_15.length c0_15) := (blk_cell BK132.out 15).trans rfl
                  have hfz39_0 := blk_frozen BK132.out 0
                  have hfz39_1 := blk_frozen BK132.out 1
                  have hfz39_2 := blk_frozen BK132.out 2
                  have hfz39_3 := blk_frozen BK132.out 3
                  have hfz39_4 := blk_frozen BK132.out 4
                  have hfz39_5 := blk_frozen BK132.out 5
                  have hfz39_6 := blk_frozen BK132.out 6
                  have hfz39_7 := blk_frozen BK132.out 7
                  have hfz39_8 := blk_frozen BK132.out 8
                  have hfz39_9 := blk_frozen BK132.out 9
                  have hfz39_10 := blk_frozen BK132.out 10
                  have hfz39_11 := blk_frozen BK132.out 11
                  have hfz39_12 := blk_frozen BK132.out 12
                  have hfz39_13 := blk_frozen BK132.out 13
                  have hfz39_14 := blk_frozen BK132.out 14
                  have hfz39_15 := blk_frozen BK132.out 15
                  have p140 : 0 ≤ (x4_1 : Int) := of_decide_eq_true (by first | (with_reducible assumption) | assumption)
                  have q140 : x4_1 < (l0_14.length : Int) := of_decide_eq_true (by first | (with_reducible assumption) | assumption)
                  obtain ⟨ad140, A140_1, c140_1, e140, hx140_0, hx140_1, hl140_1, hi140_1⟩ := at_T69 HR0_14.out x4_1 p140 q140
                  cases e140
                  replace hx140_0 := (HB.out.cell (World.block_lt_of_cell? w _ hx140_0)).trans hx140_0
                  replace hx140_1 := (HB.out.cell (World.block_lt_of_cell? w _ hx140_1)).trans hx140_1
                  have HR140_1 := Aside0.mk hi140_1
                  have HC140_1 := Aside0.mk hl140_1
                  clear hi140_1 hl140_1
                  replace p140 := eq_true p140
                  replace q140 := eq_true q140
                  have p141 : 0 ≤ (x4_1 : Int) := of_decide_eq_true (by first | (with_reducible assumption) | assumption)
                  have q141 : x4_1 < (l0_14.length : Int) := of_decide_eq_true (by first | (with_reducible assumption) | assumption)
                  obtain ⟨ad141, A141_1, c141_1, e141, hx141_0, hx141_1, hl141_1, hi141_1⟩ := at_T69 HR0_14.out x4_1 p141 q141
                  obtain rfl : ad140 = ad141 := (by injection e141)
                  replace hx141_0 := (HB.out.cell (World.block_lt_of_cell? w _ hx141_0)).trans hx141_0
                  replace hx141_1 := (HB.out.cell (World.block_lt_of_cell? w _ hx141_1)).trans hx141_1
                  have HR141_1 := Aside0.mk hi141_1
                  have HC141_1 := Aside0.mk hl141_1
                  clear hi141_1 hl141_1
                  replace p141 := eq_true p141
                  replace q141 := eq_true q141
                  have ea_ := Option.some.inj (hx140_1.symm.trans hx141_1)
                  injection ea_ with ea_ en_ ec_
                  subst ea_
                  subst ec_
                  clear en_
                  go_wp2_with (first | ((with_reducible refine gate_callee (f := 39) rfl ?_); refine goesL_ (some 81) rfl rfl Try.func39 (by kernel_rfl) rfl #[.int .i64 ((rd_T69 l0_14 x4_1).f0)] rfl (by (try simp only [List.map_toArray, List.map_cons, List.map_nil]); first | done | rfl | (simp only [List.length_drop, List.length_take]; rfl)) ?_; (with_reducible refine (spec_l06Inner.calls ((rd_T69 l0_14 x4_1).f0) true _ A35.out).mono ?_); rintro e w' ⟨rfl, ⟨nd, rfl⟩⟩; refine ⟨_, rfl, ?_⟩; have p143 : 0 ≤ (x4_1 : Int) := of_decide_eq_true (by first | (with_reducible assumption) | assumption); have q143 : x4_1 < (l0_14.length : Int) := of_decide_eq_true (by first | (with_reducible assumption) | assumption); obtain ⟨ad143, A143_1, c143_1, e143, hx143_0, hx143_1, hl143_1, hi143_1⟩ := at_T69 HR0_14.out x4_1 p143 q143; obtain rfl : ad140 = ad143 := (by injection e143); replace hx143_0 := (HB.out.cell (World.block_lt_of_cell? w _ hx143_0)).trans hx143_0; replace hx143_1 := (HB.out.cell (World.block_lt_of_cell? w _ hx143_1)).trans hx143_1; have HR143_1 := Aside0.mk hi143_1; have HC143_1 := Aside0.mk hl143_1; clear hi143_1 hl143_1; replace p143 := eq_true p143; replace q143 := eq_true q143; have ea_ := Option.some.inj (hx140_1.symm.trans hx143_1); injection ea_ with ea_ en_ ec_; subst ea_; subst ec_; clear en_))
                  go_ret
                  exact ⟨by first | rfl | (simp [errW_none, errW_some] <;> rfl) | (simp [*, errW_none, errW_some] <;> rfl), by repeat (first | (with_reducible first | exact HB.out | apply below_alloc | apply pw_below_drewN | apply below_drew1 | refine below_set ?_ GE132.out) | exact HB.out)⟩
                 ·rw [if_neg c38] at H
                  have c38b0 : decide (0 < x4_1) = false := decide_eq_false c38
                  clear c38
                  by_cases c40 : (((rd_T69 l0_14 x4_1).f1).length : Int) > 62
                  ·rw [if_pos c40] at H
                   have c40b0 : decide (62 < (((rd_T69 l0_14 x4_1).f1).length : Int)) = true := decide_eq_true c40
                   have c40b1 : decide (62 < ((rd_T69 l0_14 x4_1).f1).length) = true := decide_eq_true (by omega)
                   clear c40
                   obtain rfl := Option.some.inj H
                   have hcz41_0 : wr.cell? ⟨gb132, 0, none⟩ = some (.int .i64 a0_0) := (blk_cell BK132.out 0).trans rfl
                   have hcz41_1 : wr.cell? ⟨gb132, 1, none⟩ = some (.int .i64 a0_1) := (blk_cell BK132.out 1).trans rfl
                   have hcz41_2 : wr.cell? ⟨gb132, 2, none⟩ = some (.int .i64 a0_2) := (blk_cell BK132.out 2).trans rfl
                   have hcz41_3 : wr.cell? ⟨gb132, 3, none⟩ = some (.int .i64 a0_3) := (blk_cell BK132.out 3).trans rfl
                   have hcz41_4 : wr.cell? ⟨gb132, 4, none⟩ = some (.int .i64 a0_4) := (blk_cell BK132.out 4).trans rfl
                   have hcz41_5 : wr.cell? ⟨gb132, 5, none⟩ = some (.int .i64 a0_5) := (blk_cell BK132.out 5).trans rfl
                   have hcz41_6 : wr.cell? ⟨gb132, 6, none⟩ = some (.int .i64 a0_6) := (blk_cell BK132.out 6).trans rfl
                   have hcz41_7 : wr.cell? ⟨gb132, 7, none⟩ = some (.int .i64 a0_7) := (blk_cell BK132.out 7).trans rfl
                   have hcz41_8 : wr.cell? ⟨gb132, 8, none⟩ = some (.int .i64 a0_8) := (blk_cell BK132.out 8).trans rfl
                   have hcz41_9 : wr.cell? ⟨gb132, 9, none⟩ = some (.int .i64 a0_9) := (blk_cell BK132.out 9).trans rfl
                   have hcz41_10 : wr.cell? ⟨gb132, 10, none⟩ = some (.int .i64 a0_10) := (blk_cell BK132.out 10).trans rfl
                   have hcz41_11 : wr.cell? ⟨gb132, 11, none⟩ = some (.int .i64 a0_11) := (blk_cell BK132.out 11).trans rfl
                   have hcz41_12 : wr.cell? ⟨gb132, 12, none⟩ = some (.int .i64 a0_12) := (blk_cell BK132.out 12).trans rfl
                   have hcz41_13 : wr.cell? ⟨gb132, 13, none⟩ = some (.int .i64 a0_13) := (blk_cell BK132.out 13).trans rfl
                   have hcz41_14 : wr.cell? ⟨gb132, 14, none⟩ = some (.slice A0_14 l0_14.length c0_14) := (blk_cell BK132.out 14).trans rfl
                   have hcz41_15 : wr.cell? ⟨gb132, 15, none⟩ = some (.slice A0_15 l0_15.length c0_15) := (blk_cell BK132.out 15).trans rfl
                   have hfz41_0 := blk_frozen BK132.out 0
                   have hfz41_1 := blk_frozen BK132.out 1
                   have hfz41_2 := blk_frozen BK132.out 2
                   have hfz41_3 := blk_frozen BK132.out 3
                   have hfz41_4 := blk_frozen BK132.out 4
                   have hfz41_5 := blk_frozen BK132.out 5
                   have hfz41_6 := blk_frozen BK132.out 6
                   have hfz41_7 := blk_frozen BK132.out 7
                   have hfz41_8 := blk_frozen BK132.out 8
                   have hfz41_9 := blk_frozen BK132.out 9
                   have hfz41_10 := blk_frozen BK132.out 10
                   have hfz41_11 := blk_frozen BK132.out 11
                   have hfz41_12 := blk_frozen BK132.out 12
                   have hfz41_13 := blk_frozen BK132.out 13
                   have hfz41_14 := blk_frozen BK132.out 14
                   have hfz41_15 := blk_frozen BK132.out 15
                   have p140 : 0 ≤ (x4_1 : Int) := of_decide_eq_true (by first | (with_reducible assumption) | assumption)
                   have q140 : x4_1 < (l0_14.length : Int) := of_decide_eq_true (by first | (with_reducible assumption) | assumption)
                   obtain ⟨ad140, A140_1, c140_1, e140, hx140_0, hx140_1, hl140_1, hi140_1⟩ := at_T69 HR0_14.out x4_1 p140 q140
                   cases e140
                   replace hx140_0 := (HB.out.cell (World.block_lt_of_cell? w _ hx140_0)).trans hx140_0
                   replace hx140_1 := (HB.out.cell (World.block_lt_of_cell? w _ hx140_1)).trans hx140_1
                   have HR140_1 := Aside0.mk hi140_1
                   have HC140_1 := Aside0.mk hl140_1
                   clear hi140_1 hl140_1
                   replace p140 := eq_true p140
                   replace q140 := eq_true q140
                   have p141 : 0 ≤ (x4_1 : Int) := of_decide_eq_true (by first | (with_reducible assumption) | assumption)
                   have q141 : x4_1 < (l0_14.length : Int) := of_decide_eq_true (by first | (with_reducible assumption) | assumption)
                   obtain ⟨ad141, A141_1, c141_1, e141, hx141_0, hx141_1, hl141_1, hi141_1⟩ := at_T69 HR0_14.out x4_1 p141 q141
                   obtain rfl : ad140 = ad141 := (by injection e141)
                   replace hx141_0 := (HB.out.cell (World.block_lt_of_cell? w _ hx141_0)).trans hx141_0
                   replace hx141_1 := (HB.out.cell (World.block_lt_of_cell? w _ hx141_1)).trans hx141_1
                   have HR141_1 := Aside0.mk hi141_1
                   have HC141_1 := Aside0.mk hl141_1
                   clear hi141_1 hl141_1
                   replace p141 := eq_true p141
                   replace q141 := eq_true q141
                   have ea_ := Option.some.inj (hx140_1.symm.trans hx141_1)
                   injection ea_ with ea_ en_ ec_
                   subst ea_
                   subst ec_
                   clear en_
                   go_wp2_with (first | ((with_reducible refine gate_callee (f := 39) rfl ?_); refine goesL_ (some 81) rfl rfl Try.func39 (by kernel_rfl) rfl #[.int .i64 ((rd_T69 l0_14 x4_1).f0)] rfl (by (try simp only [List.map_toArray, List.map_cons, List.map_nil]); first | done | rfl | (simp only [List.length_drop, List.length_take]; rfl)) ?_; (with_reducible refine (spec_l06Inner.calls ((rd_T69 l0_14 x4_1).f0) true _ A35.out).mono ?_); rintro e w' ⟨rfl, ⟨nd, rfl⟩⟩; refine ⟨_, rfl, ?_⟩; have p143 : 0 ≤ (x4_1 : Int) := of_decide_eq_true (by first | (with_reducible assumption) | assumption); have q143 : x4_1 < (l0_14.length : Int) := of_decide_eq_true (by first | (with_reducible assumption) | assumption); obtain ⟨ad143, A143_1, c143_1, e143, hx143_0, hx143_1, hl143_1, hi143_1⟩ := at_T69 HR0_14.out x4_1 p143 q143; obtain rfl : ad140 = ad143 := (by injection e143); replace hx143_0 := (HB.out.cell (World.block_lt_of_cell? w _ hx143_0)).trans hx143_0; replace hx143_1 := (HB.out.cell (World.block_lt_of_cell? w _ hx143_1)).trans hx143_1; have HR143_1 := Aside0.mk hi143_1; have HC143_1 := Aside0.mk hl143_1; clear hi143_1 hl143_1; replace p143 := eq_true p143; replace q143 := eq_true q143; have ea_ := Option.some.inj (hx140_1.symm.trans hx143_1); injection ea_ with ea_ en_ ec_; subst ea_; subst ec_; clear en_))
                   go_ret
                   exact ⟨by first | rfl | (simp [errW_none, errW_some] <;> rfl) | (simp [*, errW_none, errW_some] <;> rfl), by repeat (first | (with_reducible first | exact HB.out | apply below_alloc | apply pw_below_drewN | apply below_drew1 | refine below_set ?_ GE132.out) | exact HB.out)⟩
                  ·rw [if_neg c40] at H
                   have c40b0 : decide (62 < (((rd_T69 l0_14 x4_1).f1).length : Int)) = false := decide_eq_false c40
                   have c40b1 : decide (62 < ((rd_T69 l0_14 x4_1).f1).length) = false := decide_eq_false (by omega)
                   clear c40
                   by_cases c42 : ((((rd_T69 l0_14 x4_1).f1).length : Int) % 8) = 6
                   ·rw [if_pos c42] at H
                    have c42b0 : (((((rd_T69 l0_14 x4_1).f1).length : Int) % 8) == 6) = true := beq_iff_eq.mpr c42
                    have c42b1 : (((((rd_T69 l0_14 x4_1).f1).length : Int) % 8) != 6) = false := bne_eq_false_iff_eq.mpr c42
                    clear c42
                    have H' := Aside0.mk H
                    clear H
                    have hcz43_0 : wr.cell? ⟨gb132, 0, none⟩ = some (.int .i64 a0_0) := (blk_cell BK132.out 0).trans rfl
                    have hcz43_1 : wr.cell? ⟨gb132, 1, none⟩ = some (.int .i64 a0_1) := (blk_cell BK132.out 1).trans rfl
                    have hcz43_2 : wr.cell? ⟨gb132, 2, none⟩ = some (.int .i64 a0_2) := (blk_cell BK132.out 2).trans rfl
                    have hcz43_3 : wr.cell? ⟨gb132, 3, none⟩ = some (.int .i64 a0_3) := (blk_cell BK132.out 3).trans rfl
                    have hcz43_4 : wr.cell? ⟨gb132, 4, none⟩ = some (.int .i64 a0_4) := (blk_cell BK132.out 4).trans rfl
                    have hcz43_5 : wr.cell? ⟨gb132, 5, none⟩ = some (.int .i64 a0_5) := (blk_cell BK132.out 5).trans rfl
                    have hcz43_6 : wr.cell? ⟨gb132, 6, none⟩ = some (.int .i64 a0_6) := (blk_cell BK132.out 6).trans rfl
                    have hcz43_7 : wr.cell? ⟨gb132, 7, none⟩ = some (.int .i64 a0_7) := (blk_cell BK132.out 7).trans rfl
                    have hcz43_8 : wr.cell? ⟨gb132, 8, none⟩ = some (.int .i64 a0_8) := (blk_cell BK132.out 8).trans rfl
                    have hcz43_9 : wr.cell? ⟨gb132, 9, none⟩ = some (.int .i64 a0_9) := (blk_cell BK132.out 9).trans rfl
                    have hcz43_10 : wr.cell? ⟨gb132, 10, none⟩ = some (.int .i64 a0_10) := (blk_cell BK132.out 10).trans rfl
                    have hcz43_11 : wr.cell? ⟨gb132, 11, none⟩ = some (.int .i64 a0_11) := (blk_cell BK132.out 11).trans rfl
                    have hcz43_12 : wr.cell? ⟨gb132, 12, none⟩ = some (.int .i64 a0_12) := (blk_cell BK132.out 12).trans rfl
                    have hcz43_13 : wr.cell? ⟨gb132, 13, none⟩ = some (.int .i64 a0_13) := (blk_cell BK132.out 13).trans rfl
                    have hcz43_14 : wr.cell? ⟨gb132, 14, none⟩ = some (.slice A0_14 l0_14.length c0_14) := (blk_cell BK132.out 14).trans rfl
                    have hcz43_15 : wr.cell? ⟨gb132, 15, none⟩ = some (.slice A0_15 l0_15.length c0_15) := (blk_cell BK132.out 15).trans rfl
                    have hfz43_0 := blk_frozen BK132.out 0
                    have hfz43_1 := blk_frozen BK132.out 1
                    have hfz43_2 := blk_frozen BK132.out 2
                    have hfz43_3 := blk_frozen BK132.out 3
                    have hfz43_4 := blk_frozen BK132.out 4
                    have hfz43_5 := blk_frozen BK132.out 5
                    have hfz43_6 := blk_frozen BK132.out 6
                    have hfz43_7 := blk_frozen BK132.out 7
                    have hfz43_8 := blk_frozen BK132.out 8
                    have hfz43_9 := blk_frozen BK132.out 9
                    have hfz43_10 := blk_frozen BK132.out 10
                    have hfz43_11 := blk_frozen BK132.out 11
                    have hfz43_12 := blk_frozen BK132.out 12
                    have hfz43_13 := blk_frozen BK132.out 13
                    have hfz43_14 := blk_frozen BK132.out 14
                    have hfz43_15 := blk_frozen BK132.out 15
                    have p140 : 0 ≤ (x4_1 : Int) := of_decide_eq_true (by first | (with_reducible assumption) | assumption)
                    have q140 : x4_1 < (l0_14.length : Int) := of_decide_eq_true (by first | (with_reducible assumption) | assumption)
                    obtain ⟨ad140, A140_1, c140_1, e140, hx140_0, hx140_1, hl140_1, hi140_1⟩ := at_T69 HR0_14.out x4_1 p140 q140
                    cases e140
                    replace hx140_0 := (HB.out.cell (World.block_lt_of_cell? w _ hx140_0)).trans hx140_0
                    replace hx140_1 := (HB.out.cell (World.block_lt_of_cell? w _ hx140_1)).trans hx140_1
                    have HR140_1 := Aside0.mk hi140_1
                    have HC140_1 := Aside0.mk hl140_1
                    clear hi140_1 hl140_1
                    replace p140 := eq_true p140
                    replace q140 := eq_true q140
                    have p141 : 0 ≤ (x4_1 : Int) := of_decide_eq_true (by first | (with_reducible assumption) | assumption)
                    have q141 : x4_1 < (l0_14.length : Int) := of_decide_eq_true (by first | (with_reducible assumption) | assumption)
                    obtain ⟨ad141, A141_1, c141_1, e141, hx141_0, hx141_1, hl141_1, hi141_1⟩ := at_T69 HR0_14.out x4_1 p141 q141
                    obtain rfl : ad140 = ad141 := (by injection e141)
                    replace hx141_0 := (HB.out.cell (World.block_lt_of_cell? w _ hx141_0)).trans hx141_0
                    replace hx141_1 := (HB.out.cell (World.block_lt_of_cell? w _ hx141_1)).trans hx141_1
                    have HR141_1 := Aside0.mk hi141_1
                    have HC141_1 := Aside0.mk hl141_1
                    clear hi141_1 hl141_1
                    replace p141 := eq_true p141
                    replace q141 := eq_true q141
                    have ea_ := Option.some.inj (hx140_1.symm.trans hx141_1)
                    injection ea_ with ea_ en_ ec_
                    subst ea_
                    subst ec_
                    clear en_
                    go_wp2_with (first | ((with_reducible refine gate_callee (f := 39) rfl ?_); refine goesL_ (some 81) rfl rfl Try.func39 (by kernel_rfl) rfl #[.int .i64 ((rd_T69 l0_14 x4_1).f0)] rfl (by (try simp only [List.map_toArray, List.map_cons, List.map_nil]); first | done | rfl | (simp only [List.length_drop, List.length_take]; rfl)) ?_; (with_reducible refine (spec_l06Inner.calls ((rd_T69 l0_14 x4_1).f0) true _ A35.out).mono ?_); rintro e w' ⟨rfl, ⟨nd, rfl⟩⟩; refine ⟨_, rfl, ?_⟩; have p143 : 0 ≤ (x4_1 : Int) := of_decide_eq_true (by first | (with_reducible assumption) | assumption); have q143 : x4_1 < (l0_14.length : Int) := of_decide_eq_true (by first | (with_reducible assumption) | assumption); obtain ⟨ad143, A143_1, c143_1, e143, hx143_0, hx143_1, hl143_1, hi143_1⟩ := at_T69 HR0_14.out x4_1 p143 q143; obtain rfl : ad140 = ad143 := (by injection e143); replace hx143_0 := (HB.out.cell (World.block_lt_of_cell? w _ hx143_0)).trans hx143_0; replace hx143_1 := (HB.out.cell (World.block_lt_of_cell? w _ hx143_1)).trans hx143_1; have HR143_1 := Aside0.mk hi143_1; have HC143_1 := Aside0.mk hl143_1; clear hi143_1 hl143_1; replace p143 := eq_true p143; replace q143 := eq_true q143; have ea_ := Option.some.inj (hx140_1.symm.trans hx143_1); injection ea_ with ea_ en_ ec_; subst ea_; subst ec_; clear en_))
                    go_roundg k1
                    case measure => have := HK1.out; omega
                    case rel => exact ⟨(wrap64 ((wrap64 (x3_1 - (((rd_T69 l0_14 x4_1).f1).length : Int))) - 2)), (wrap64 (x4_1 + 1)), (by first | rfl | (simp; done) | (simp [*]; done)), (by first | rfl | (simp; done) | (simp [*]; done)), H', ⟨by have := HK1.out; omega⟩, ⟨by (with_reducible repeat (first | refine blk_drewN ?_ _ | refine blk_drew ?_ | refine blk_alloc ?_ _)); exact BK132.out⟩, ⟨by repeat (first | (with_reducible first | exact HB.out | apply below_alloc | apply pw_below_drewN | apply below_drew1 | refine below_set ?_ GE132.out) | exact HB.out)⟩⟩
                   ·rw [if_neg c42] at H
                    have c42b0 : (((((rd_T69 l0_14 x4_1).f1).length : Int) % 8) == 6) = false := beq_eq_false_iff_ne.mpr c42
                    have c42b1 : (((((rd_T69 l0_14 x4_1).f1).length : Int) % 8) != 6) = true := bne_iff_ne.mpr c42
                    obtain rfl := Option.some.inj H
                    have hcz44_0 : wr.cell? ⟨gb132, 0, none⟩ = some (.int .i64 a0_0) := (blk_cell BK132.out 0).trans rfl
                    have hcz44_1 : wr.cell? ⟨gb132, 1, none⟩ = some (.int .i64 a0_1) := (blk_cell BK132.out 1).trans rfl
                    have hcz44_2 : wr.cell? ⟨gb132, 2, none⟩ = some (.int .i64 a0_2) := (blk_cell BK132.out 2).trans rfl
                    have hcz44_3 : wr.cell? ⟨gb132, 3, none⟩ = some (.int .i64 a0_3) := (blk_cell BK132.out 3).trans rfl
                    have hcz44_4 : wr.cell? ⟨gb132, 4, none⟩ = some (.int .i64 a0_4) := (blk_cell BK132.out 4).trans rfl
                    have hcz44_5 : wr.cell? ⟨gb132, 5, none⟩ = some (.int .i64 a0_5) := (blk_cell BK132.out 5).trans rfl
                    have hcz44_6 : wr.cell? ⟨gb132, 6, none⟩ = some (.int .i64 a0_6) := (blk_cell BK132.out 6).trans rfl
                    have hcz44_7 : wr.cell? ⟨gb132, 7, none⟩ = some (.int .i64 a0_7) := (blk_cell BK132.out 7).trans rfl
                    have hcz44_8 : wr.cell? ⟨gb132, 8, none⟩ = some (.int .i64 a0_8) := (blk_cell BK132.out 8).trans rfl
                    have hcz44_9 : wr.cell? ⟨gb132, 9, none⟩ = some (.int .i64 a0_9) := (blk_cell BK132.out 9).trans rfl
                    have hcz44_10 : wr.cell? ⟨gb132, 10, none⟩ = some (.int .i64 a0_10) := (blk_cell BK132.out 10).trans rfl
                    have hcz44_11 : wr.cell? ⟨gb132, 11, none⟩ = some (.int .i64 a0_11) := (blk_cell BK132.out 11).trans rfl
                    have hcz44_12 : wr.cell? ⟨gb132, 12, none⟩ = some (.int .i64 a0_12) := (blk_cell BK132.out 12).trans rfl
                    have hcz44_13 : wr.cell? ⟨gb132, 13, none⟩ = some (.int .i64 a0_13) := (blk_cell BK132.out 13).trans rfl
                    have hcz44_14 : wr.cell? ⟨gb132, 14, none⟩ = some (.slice A0_14 l0_14.length c0_14) := (blk_cell BK132.out 14).trans rfl
                    have hcz44_15 : wr.cell? ⟨gb132, 15, none⟩ = some (.slice A0_15 l0_15.length c0_15) := (blk_cell BK132.out 15).trans rfl
                    have hfz44_0 := blk_frozen BK132.out 0
                    have hfz44_1 := blk_frozen BK132.out 1
                    have hfz44_2 := blk_frozen BK132.out 2
                    have hfz44_3 := blk_frozen BK132.out 3
                    have hfz44_4 := blk_frozen BK132.out 4
                    have hfz44_5 := blk_frozen BK132.out 5
                    have hfz44_6 := blk_frozen BK132.out 6
                    have hfz44_7 := blk_frozen BK132.out 7
                    have hfz44_8 := blk_frozen BK132.out 8
                    have hfz44_9 := blk_frozen BK132.out 9
                    have hfz44_10 := blk_frozen BK132.out 10
                    have hfz44_11 := blk_frozen BK132.out 11
                    have hfz44_12 := blk_frozen BK132.out 12
                    have hfz44_13 := blk_frozen BK132.out 13
                    have hfz44_14 := blk_frozen BK132.out 14
                    have hfz44_15 := blk_frozen BK132.out 15
                    have p140 : 0 ≤ (x4_1 : Int) := of_decide_eq_true (by first | (with_reducible assumption) | assumption)
                    have q140 : x4_1 < (l0_14.length : Int) := of_decide_eq_true (by first | (with_reducible assumption) | assumption)
                    obtain ⟨ad140, A140_1, c140_1, e140, hx140_0, hx140_1, hl140_1, hi140_1⟩ := at_T69 HR0_14.out x4_1 p140 q140
                    cases e140
                    replace hx140_0 := (HB.out.cell (World.block_lt_of_cell? w _ hx140_0)).trans hx140_0
                    replace hx140_1 := (HB.out.cell (World.block_lt_of_cell? w _ hx140_1)).trans hx140_1
                    have HR140_1 := Aside0.mk hi140_1
                    have HC140_1 := Aside0.mk hl140_1
                    clear hi140_1 hl140_1
                    replace p140 := eq_true p140
                    replace q140 := eq_true q140
                    have p141 : 0 ≤ (x4_1 : Int) := of_decide_eq_true (by first | (with_reducible assumption) | assumption)
                    have q141 : x4_1 < (l0_14.length : Int) := of_decide_eq_true (by first | (with_reducible assumption) | assumption)
                    obtain ⟨ad141, A141_1, c141_1, e141, hx141_0, hx141_1, hl141_1, hi141_1⟩ := at_T69 HR0_14.out x4_1 p141 q141
                    obtain rfl : ad140 = ad141 := (by injection e141)
                    replace hx141_0 := (HB.out.cell (World.block_lt_of_cell? w _ hx141_0)).trans hx141_0
                    replace hx141_1 := (HB.out.cell (World.block_lt_of_cell? w _ hx141_1)).trans hx141_1
                    have HR141_1 := Aside0.mk hi141_1
                    have HC141_1 := Aside0.mk hl141_1
                    clear hi141_1 hl141_1
                    replace p141 := eq_true p141
                    replace q141 := eq_true q141
                    have ea_ := Option.some.inj (hx140_1.symm.trans hx141_1)
                    injection ea_ with ea_ en_ ec_
                    subst ea_
                    subst ec_
                    clear en_
                    go_wp2_with (first | ((with_reducible refine gate_callee (f := 39) rfl ?_); refine goesL_ (some 81) rfl rfl Try.func39 (by kernel_rfl) rfl #[.int .i64 ((rd_T69 l0_14 x4_1).f0)] rfl (by (try simp only [List.map_toArray, List.map_cons, List.map_nil]); first | done | rfl | (simp only [List.length_drop, List.length_take]; rfl)) ?_; (with_reducible refine (spec_l06Inner.calls ((rd_T69 l0_14 x4_1).f0) true _ A35.out).mono ?_); rintro e w' ⟨rfl, ⟨nd, rfl⟩⟩; refine ⟨_, rfl, ?_⟩; have p143 : 0 ≤ (x4_1 : Int) := of_decide_eq_true (by first | (with_reducible assumption) | assumption); have q143 : x4_1 < (l0_14.length : Int) := of_decide_eq_true (by first | (with_reducible assumption) | assumption); obtain ⟨ad143, A143_1, c143_1, e143, hx143_0, hx143_1, hl143_1, hi143_1⟩ := at_T69 HR0_14.out x4_1 p143 q143; obtain rfl : ad140 = ad143 := (by injection e143); replace hx143_0 := (HB.out.cell (World.block_lt_of_cell? w _ hx143_0)).trans hx143_0; replace hx143_1 := (HB.out.cell (World.block_lt_of_cell? w _ hx143_1)).trans hx143_1; have HR143_1 := Aside0.mk hi143_1; have HC143_1 := Aside0.mk hl143_1; clear hi143_1 hl143_1; replace p143 := eq_true p143; replace q143 := eq_true q143; have ea_ := Option.some.inj (hx140_1.symm.trans hx143_1); injection ea_ with ea_ en_ ec_; subst ea_; subst ec_; clear en_))
                    go_ret
                    exact ⟨by first | rfl | (simp [errW_none, errW_some] <;> rfl) | (simp [*, errW_none, errW_some] <;> rfl), by repeat (first | (with_reducible first | exact HB.out | apply below_alloc | apply pw_below_drewN | apply below_drew1 | refine below_set ?_ GE132.out) | exact HB.out)⟩
                ·rw [if_neg c37] at H
                 have c37b0 : (((rd_T69 l0_14 x4_1).f0) == 0) = false := beq_eq_false_iff_ne.mpr c37
                 have c37b1 : (((rd_T69 l0_14 x4_1).f0) != 0) = true := bne_iff_ne.mpr c37
                 by_cases c45 : (((rd_T69 l0_14 x4_1).f1).length : Int) > 62
                 ·rw [if_pos c45] at H
                  have c45b0 : decide (62 < (((rd_T69 l0_14 x4_1).f1).length : Int)) = true := decide_eq_true c45
                  have c45b1 : decide (62 < ((rd_T69 l0_14 x4_1).f1).length) = true := decide_eq_true (by omega)
                  clear c45
                  obtain rfl := Option.some.inj H
                  have hcz46_0 : wr.cell? ⟨gb132, 0, none⟩ = some (.int .i64 a0_0) := (blk_cell BK132.out 0).trans rfl
                  have hcz46_1 : wr.cell? ⟨gb132, 1, none⟩ = some (.int .i64 a0_1) := (blk_cell BK132.out 1).trans rfl
                  have hcz46_2 : wr.cell? ⟨gb132, 2, none⟩ = some (.int .i64 a0_2) := (blk_cell BK132.out 2).trans rfl
                  have hcz46_3 : wr.cell? ⟨gb132, 3, none⟩ = some (.int .i64 a0_3) := (blk_cell BK132.out 3).trans rfl
                  have hcz46_4 : wr.cell? ⟨gb132, 4, none⟩ = some (.int .i64 a0_4) := (blk_cell BK132.out 4).trans rfl
                  have hcz46_5 : wr.cell? ⟨gb132, 5, none⟩ = some (.int .i64 a0_5) := (blk_cell BK132.out 5).trans rfl
                  have hcz46_6 : wr.cell? ⟨gb132, 6, none⟩ = some (.int .i64 a0_6) := (blk_cell BK132.out 6).trans rfl
                  have hcz46_7 : wr.cell? ⟨gb132, 7, none⟩ = some (.int .i64 a0_7) := (blk_cell BK132.out 7).trans rfl
                  have hcz46_8 : wr.cell? ⟨gb132, 8, none⟩ = some (.int .i64 a0_8) := (blk_cell BK132.out 8).trans rfl
                  have hcz46_9 : wr.cell? ⟨gb132, 9, none⟩ = some (.int .i64 a0_9) := (blk_cell BK132.out 9).trans rfl
                  have hcz46_10 : wr.cell? ⟨gb132, 10, none⟩ = some (.int .i64 a0_10) := (blk_cell BK132.out 10).trans rfl
                  have hcz46_11 : wr.cell? ⟨gb132, 11, none⟩ = some (.int .i64 a0_11) := (blk_cell BK132.out 11).trans rfl
                  have hcz46_12 : wr.cell? ⟨gb132, 12, none⟩ = some (.int .i64 a0_12) := (blk_cell BK132.out 12).trans rfl
                  have hcz46_13 : wr.cell? ⟨gb132, 13, none⟩ = some (.int .i64 a0_13) := (blk_cell BK132.out 13).trans rfl
                  have hcz46_14 : wr.cell? ⟨gb132, 14, none⟩ = some (.slice A0_14 l0_14.length c0_14) := (blk_cell BK132.out 14).trans rfl
                  have hcz46_15 : wr.cell? ⟨gb132, 15, none⟩ = some (.slice A0_15 l0_15.length c0_15) := (blk_cell BK132.out 15).trans rfl
                  have hfz46_0 := blk_frozen BK132.out 0
                  have hfz46_1 := blk_frozen BK132.out 1
                  have hfz46_2 := blk_frozen BK132.out 2
                  have hfz46_3 := blk_frozen BK132.out 3
                  have hfz46_4 := blk_frozen BK132.out 4
                  have hfz46_5 := blk_frozen BK132.out 5
                  have hfz46_6 := blk_frozen BK132.out 6
                  have hfz46_7 := blk_frozen BK132.out 7
                  have hfz46_8 := blk_frozen BK132.out 8
                  have hfz46_9 := blk_frozen BK132.out 9
                  have hfz46_10 := blk_frozen BK132.out 10
                  have hfz46_11 := blk_frozen BK132.out 11
                  have hfz46_12 := blk_frozen BK132.out 12
                  have hfz46_13 := blk_frozen BK132.out 13
                  have hfz46_14 := blk_frozen BK132.out 14
                  have hfz46_15 := blk_frozen BK132.out 15
                  have p140 : 0 ≤ (x4_1 : Int) := of_decide_eq_true (by first | (with_reducible assumption) | assumption)
                  have q140 : x4_1 < (l0_14.length : Int) := of_decide_eq_true (by first | (with_reducible assumption) | assumption)
                  obtain ⟨ad140, A140_1, c140_1, e140, hx140_0, hx140_1, hl140_1, hi140_1⟩ := at_T69 HR0_14.out x4_1 p140 q140
                  cases e140
                  replace hx140_0 := (HB.out.cell (World.block_lt_of_cell? w _ hx140_0)).trans hx140_0
                  replace hx140_1 := (HB.out.cell (World.block_lt_of_cell? w _ hx140_1)).trans hx140_1
                  have HR140_1 := Aside0.mk hi140_1
                  have HC140_1 := Aside0.mk hl140_1
                  clear hi140_1 hl140_1
                  replace p140 := eq_true p140
                  replace q140 := eq_true q140
                  have p141 : 0 ≤ (x4_1 : Int) := of_decide_eq_true (by first | (with_reducible assumption) | assumption)
                  have q141 : x4_1 < (l0_14.length : Int) := of_decide_eq_true (by first | (with_reducible assumption) | assumption)
                  obtain ⟨ad141, A141_1, c141_1, e141, hx141_0, hx141_1, hl141_1, hi141_1⟩ := at_T69 HR0_14.out x4_1 p141 q141
                  obtain rfl : ad140 = ad141 := (by injection e141)
                  replace hx141_0 := (HB.out.cell (World.block_lt_of_cell? w _ hx141_0)).trans hx141_0
                  replace hx141_1 := (HB.out.cell (World.block_lt_of_cell? w _ hx141_1)).trans hx141_1
                  have HR141_1 := Aside0.mk hi141_1
                  have HC141_1 := Aside0.mk hl141_1
                  clear hi141_1 hl141_1
                  replace p141 := eq_true p141
                  replace q141 := eq_true q141
                  have ea_ := Option.some.inj (hx140_1.symm.trans hx141_1)
                  injection ea_ with ea_ en_ ec_
                  subst ea_
                  subst ec_
                  clear en_
                  go_wp2_with (first | ((with_reducible refine gate_callee (f := 39) rfl ?_); refine goesL_ (some 81) rfl rfl Try.func39 (by kernel_rfl) rfl #[.int .i64 ((rd_T69 l0_14 x4_1).f0)] rfl (by (try simp only [List.map_toArray, List.map_cons, List.map_nil]); first | done | rfl | (simp only [List.length_drop, List.length_take]; rfl)) ?_; (with_reducible refine (spec_l06Inner.calls ((rd_T69 l0_14 x4_1).f0) true _ A35.out).mono ?_); rintro e w' ⟨rfl, ⟨nd, rfl⟩⟩; refine ⟨_, rfl, ?_⟩; have p143 : 0 ≤ (x4_1 : Int) := of_decide_eq_true (by first | (with_reducible assumption) | assumption); have q143 : x4_1 < (l0_14.length : Int) := of_decide_eq_true (by first | (with_reducible assumption) | assumption); obtain ⟨ad143, A143_1, c143_1, e143, hx143_0, hx143_1, hl143_1, hi143_1⟩ := at_T69 HR0_14.out x4_1 p143 q143; obtain rfl : ad140 = ad143 := (by injection e143); replace hx143_0 := (HB.out.cell (World.block_lt_of_cell? w _ hx143_0)).trans hx143_0; replace hx143_1 := (HB.out.cell (World.block_lt_of_cell? w _ hx143_1)).trans hx143_1; have HR143_1 := Aside0.mk hi143_1; have HC143_1 := Aside0.mk hl143_1; clear hi143_1 hl143_1; replace p143 := eq_true p143; replace q143 := eq_true q143; have ea_ := Option.some.inj (hx140_1.symm.trans hx143_1); injection ea_ with ea_ en_ ec_; subst ea_; subst ec_; clear en_))
                  go_ret
                  exact ⟨by first | rfl | (simp [errW_none, errW_some] <;> rfl) | (simp [*, errW_none, errW_some] <;> rfl), by repeat (first | (with_reducible first | exact HB.out | apply below_alloc | apply pw_below_drewN | apply below_drew1 | refine below_set ?_ GE132.out) | exact HB.out)⟩
                 ·rw [if_neg c45] at H
                  have c45b0 : decide (62 < (((rd_T69 l0_14 x4_1).f1).length : Int)) = false := decide_eq_false c45
                  have c45b1 : decide (62 < ((rd_T69 l0_14 x4_1).f1).length) = false := decide_eq_false (by omega)
                  clear c45
                  by_cases c47 : ((((rd_T69 l0_14 x4_1).f1).length : Int) % 8) = 6
                  ·rw [if_pos c47] at H
                   have c47b0 : (((((rd_T69 l0_14 x4_1).f1).length : Int) % 8) == 6) = true := beq_iff_eq.mpr c47
                   have c47b1 : (((((rd_T69 l0_14 x4_1).f1).length : Int) % 8) != 6) = false := bne_eq_false_iff_eq.mpr c47
                   clear c47
                   have H' := Aside0.mk H
                   clear H
                   have hcz48_0 : wr.cell? ⟨gb132, 0, none⟩ = some (.int .i64 a0_0) := (blk_cell BK132.out 0).trans rfl
                   have hcz48_1 : wr.cell? ⟨gb132, 1, none⟩ = some (.int .i64 a0_1) := (blk_cell BK132.out 1).trans rfl
                   have hcz48_2 : wr.cell? ⟨gb132, 2, none⟩ = some (.int .i64 a0_2) := (blk_cell BK132.out 2).trans rfl
                   have hcz48_3 : wr.cell? ⟨gb132, 3, none⟩ = some (.int .i64 a0_3) := (blk_cell BK132.out 3).trans rfl
                   have hcz48_4 : wr.cell? ⟨gb132, 4, none⟩ = some (.int .i64 a0_4) := (blk_cell BK132.out 4).trans rfl
                   have hcz48_5 : wr.cell? ⟨gb132, 5, none⟩ = some (.int .i64 a0_5) := (blk_cell BK132.out 5).trans rfl
                   have hcz48_6 : wr.cell? ⟨gb132, 6, none⟩ = some (.int .i64 a0_6) := (blk_cell BK132.out 6).trans rfl
                   have hcz48_7 : wr.cell? ⟨gb132, 7, none⟩ = some (.int .i64 a0_7) := (blk_cell BK132.out 7).trans rfl
                   have hcz48_8 : wr.cell? ⟨gb132, 8, none⟩ = some (.int .i64 a0_8) := (blk_cell BK132.out 8).trans rfl
                   have hcz48_9 : wr.cell? ⟨gb132, 9, none⟩ = some (.int .i64 a0_9) := (blk_cell BK132.out 9).trans rfl
                   have hcz48_10 : wr.cell? ⟨gb132, 10, none⟩ = some (.int .i64 a0_10) := (blk_cell BK132.out 10).trans rfl
                   have hcz48_11 : wr.cell? ⟨gb132, 11, none⟩ = some (.int .i64 a0_11) := (blk_cell BK132.out 11).trans rfl
                   have hcz48_12 : wr.cell? ⟨gb132, 12, none⟩ = some (.int .i64 a0_12) := (blk_cell BK132.out 12).trans rfl
                   have hcz48_13 : wr.cell? ⟨gb132, 13, none⟩ = some (.int .i64 a0_13) := (blk_cell BK132.out 13).trans rfl
                   have hcz48_14 : wr.cell? ⟨gb132, 14, none⟩ = some (.slice A0_14 l0_14.length c0_14) := (blk_cell BK132.out 14).trans rfl
                   have hcz48_15 : wr.cell? ⟨gb132, 15, none⟩ = some (.slice A0_15 l0_15.length c0_15) := (blk_cell BK132.out 15).trans rfl
                   have hfz48_0 := blk_frozen BK132.out 0
                   have hfz48_1 := blk_frozen BK132.out 1
                   have hfz48_2 := blk_frozen BK132.out 2
                   have hfz48_3 := blk_frozen BK132.out 3
                   have hfz48_4 := blk_frozen BK132.out 4
                   have hfz48_5 := blk_frozen BK132.out 5
                   have hfz48_6 := blk_frozen BK132.out 6
                   have hfz48_7 := blk_frozen BK132.out 7
                   have hfz48_8 := blk_frozen BK132.out 8
                   have hfz48_9 := blk_frozen BK132.out 9
                   have hfz48_10 := blk_frozen BK132.out 10
                   have hfz48_11 := blk_frozen BK132.out 11
                   have hfz48_12 := blk_frozen BK132.out 12
                   have hfz48_13 := blk_frozen BK132.out 13
                   have hfz48_14 := blk_frozen BK132.out 14
                   have hfz48_15 := blk_frozen BK132.out 15
                   have p140 : 0 ≤ (x4_1 : Int) := of_decide_eq_true (by first | (with_reducible assumption) | assumption)
                   have q140 : x4_1 < (l0_14.length : Int) := of_decide_eq_true (by first | (with_reducible assumption) | assumption)
                   obtain ⟨ad140, A140_1, c140_1, e140, hx140_0, hx140_1, hl140_1, hi140_1⟩ := at_T69 HR0_14.out x4_1 p140 q140
                   cases e140
                   replace hx140_0 := (HB.out.cell (World.block_lt_of_cell? w _ hx140_0)).trans hx140_0
                   replace hx140_1 := (HB.out.cell (World.block_lt_of_cell? w _ hx140_1)).trans hx140_1
                   have HR140_1 := Aside0.mk hi140_1
                   have HC140_1 := Aside0.mk hl140_1
                   clear hi140_1 hl140_1
                   replace p140 := eq_true p140
                   replace q140 := eq_true q140
                   have p141 : 0 ≤ (x4_1 : Int) := of_decide_eq_true (by first | (with_reducible assumption) | assumption)
                   have q141 : x4_1 < (l0_14.length : Int) := of_decide_eq_true (by first | (with_reducible assumption) | assumption)
                   obtain ⟨ad141, A141_1, c141_1, e141, hx141_0, hx141_1, hl141_1, hi141_1⟩ := at_T69 HR0_14.out x4_1 p141 q141
                   obtain rfl : ad140 = ad141 := (by injection e141)
                   replace hx141_0 := (HB.out.cell (World.block_lt_of_cell? w _ hx141_0)).trans hx141_0
                   replace hx141_1 := (HB.out.cell (World.block_lt_of_cell? w _ hx141_1)).trans hx141_1
                   have HR141_1 := Aside0.mk hi141_1
                   have HC141_1 := Aside0.mk hl141_1
                   clear hi141_1 hl141_1
                   replace p141 := eq_true p141
                   replace q141 := eq_true q141
                   have ea_ := Option.some.inj (hx140_1.symm.trans hx141_1)
                   injection ea_ with ea_ en_ ec_
                   subst ea_
                   subst ec_
                   clear en_
                   go_wp2_with (first | ((with_reducible refine gate_callee (f := 39) rfl ?_); refine goesL_ (some 81) rfl rfl Try.func39 (by kernel_rfl) rfl #[.int .i64 ((rd_T69 l0_14 x4_1).f0)] rfl (by (try simp only [List.map_toArray, List.map_cons, List.map_nil]); first | done | rfl | (simp only [List.length_drop, List.length_take]; rfl)) ?_; (with_reducible refine (spec_l06Inner.calls ((rd_T69 l0_14 x4_1).f0) true _ A35.out).mono ?_); rintro e w' ⟨rfl, ⟨nd, rfl⟩⟩; refine ⟨_, rfl, ?_⟩; have p143 : 0 ≤ (x4_1 : Int) := of_decide_eq_true (by first | (with_reducible assumption) | assumption); have q143 : x4_1 < (l0_14.length : Int) := of_decide_eq_true (by first | (with_reducible assumption) | assumption); obtain ⟨ad143, A143_1, c143_1, e143, hx143_0, hx143_1, hl143_1, hi143_1⟩ := at_T69 HR0_14.out x4_1 p143 q143; obtain rfl : ad140 = ad143 := (by injection e143); replace hx143_0 := (HB.out.cell (World.block_lt_of_cell? w _ hx143_0)).trans hx143_0; replace hx143_1 := (HB.out.cell (World.block_lt_of_cell? w _ hx143_1)).trans hx143_1; have HR143_1 := Aside0.mk hi143_1; have HC143_1 := Aside0.mk hl143_1; clear hi143_1 hl143_1; replace p143 := eq_true p143; replace q143 := eq_true q143; have ea_ := Option.some.inj (hx140_1.symm.trans hx143_1); injection ea_ with ea_ en_ ec_; subst ea_; subst ec_; clear en_))
                   go_roundg k1
                   case measure => have := HK1.out; omega
                   case rel => exact ⟨(wrap64 ((wrap64 (x3_1 - (((rd_T69 l0_14 x4_1).f1).length : Int))) - 2)), (wrap64 (x4_1 + 1)), (by first | rfl | (simp; done) | (simp [*]; done)), (by first | rfl | (simp; done) | (simp [*]; done)), H', ⟨by have := HK1.out; omega⟩, ⟨by (with_reducible repeat (first | refine blk_drewN ?_ _ | refine blk_drew ?_ | refine blk_alloc ?_ _)); exact BK132.out⟩, ⟨by repeat (first | (with_reducible first | exact HB.out | apply below_alloc | apply pw_below_drewN | apply below_drew1 | refine below_set ?_ GE132.out) | exact HB.out)⟩⟩
                  ·rw [if_neg c47] at H
                   have c47b0 : (((((rd_T69 l0_14 x4_1).f1).length : Int) % 8) == 6) = false := beq_eq_false_iff_ne.mpr c47
                   have c47b1 : (((((rd_T69 l0_14 x4_1).f1).length : Int) % 8) != 6) = true := bne_iff_ne.mpr c47
                   obtain rfl := Option.some.inj H
                   have hcz49_0 : wr.cell? ⟨gb132, 0, none⟩ = some (.int .i64 a0_0) := (blk_cell BK132.out 0).trans rfl
                   have hcz49_1 : wr.cell? ⟨gb132, 1, none⟩ = some (.int .i64 a0_1) := (blk_cell BK132.out 1).trans rfl
                   have hcz49_2 : wr.cell? ⟨gb132, 2, none⟩ = some (.int .i64 a0_2) := (blk_cell BK132.out 2).trans rfl
                   have hcz49_3 : wr.cell? ⟨gb132, 3, none⟩ = some (.int .i64 a0_3) := (blk_cell BK132.out 3).trans rfl
                   have hcz49_4 : wr.cell? ⟨gb132, 4, none⟩ = some (.int .i64 a0_4) := (blk_cell BK132.out 4).trans rfl
                   have hcz49_5 : wr.cell? ⟨gb132, 5, none⟩ = some (.int .i64 a0_5) := (blk_cell BK132.out 5).trans rfl
                   have hcz49_6 : wr.cell? ⟨gb132, 6, none⟩ = some (.int .i64 a0_6) := (blk_cell BK132.out 6).trans rfl
                   have hcz49_7 : wr.cell? ⟨gb132, 7, none⟩ = some (.int .i64 a0_7) := (blk_cell BK132.out 7).trans rfl
                   have hcz49_8 : wr.cell? ⟨gb132, 8, none⟩ = some (.int .i64 a0_8) := (blk_cell BK132.out 8).trans rfl
                   have hcz49_9 : wr.cell? ⟨gb132, 9, none⟩ = some (.int .i64 a0_9) := (blk_cell BK132.out 9).trans rfl
                   have hcz49_10 : wr.cell? ⟨gb132, 10, none⟩ = some (.int .i64 a0_10) := (blk_cell BK132.out 10).trans rfl
                   have hcz49_11 : wr.cell? ⟨gb132, 11, none⟩ = some (.int .i64 a0_11) := (blk_cell BK132.out 11).trans rfl
                   have hcz49_12 : wr.cell? ⟨gb132, 12, none⟩ = some (.int .i64 a0_12) := (blk_cell BK132.out 12).trans rfl
                   have hcz49_13 : wr.cell? ⟨gb132, 13, none⟩ = some (.int .i64 a0_13) := (blk_cell BK132.out 13).trans rfl
                   have hcz49_14 : wr.cell? ⟨gb132, 14, none⟩ = some (.slice A0_14 l0_14.length c0_14) := (blk_cell BK132.out 14).trans rfl
                   have hcz49_15 : wr.cell? ⟨gb132, 15, none⟩ = some (.slice A0_15 l0_15.length c0_15) := (blk_cell BK132.out 15).trans rfl
                   have hfz49_0 := blk_frozen BK132.out 0
                   have hfz49_1 := blk_frozen BK132.out 1
                   have hfz49_2 := blk_frozen BK132.out 2
                   have hfz49_3 := blk_frozen BK132.out 3
                   have hfz49_4 := blk_frozen BK132.out 4
                   have hfz49_5 := blk_frozen BK132.out 5
                   have hfz49_6 := blk_frozen BK132.out 6
                   have hfz49_7 := blk_frozen BK132.out 7
                   have hfz49_8 := blk_frozen BK132.out 8
                   have hfz49_9 := blk_frozen BK132.out 9
                   have hfz49_10 := blk_frozen BK132.out 10
                   have hfz49_11 := blk_frozen BK132.out 11
                   have hfz49_12 := blk_frozen BK132.out 12
                   have hfz49_13 := blk_frozen BK132.out 13
                   have hfz49_14 := blk_frozen BK132.out 14
                   have hfz49_15 := blk_frozen BK132.out 15
                   have p140 : 0 ≤ (x4_1 : Int) := of_decide_eq_true (by first | (with_reducible assumption) | assumption)
                   have q140 : x4_1 < (l0_14.length : Int) := of_decide_eq_true (by first | (with_reducible assumption) | assumption)
                   obtain ⟨ad140, A140_1, c140_1, e140, hx140_0, hx140_1, hl140_1, hi140_1⟩ := at_T69 HR0_14.out x4_1 p140 q140
                   cases e140
                   replace hx140_0 := (HB.out.cell (World.block_lt_of_cell? w _ hx140_0)).trans hx140_0
                   replace hx140_1 := (HB.out.cell (World.block_lt_of_cell? w _ hx140_1)).trans hx140_1
                   have HR140_1 := Aside0.mk hi140_1
                   have HC140_1 := Aside0.mk hl140_1
                   clear hi140_1 hl140_1
                   replace p140 := eq_true p140
                   replace q140 := eq_true q140
                   have p141 : 0 ≤ (x4_1 : Int) := of_decide_eq_true (by first | (with_reducible assumption) | assumption)
                   have q141 : x4_1 < (l0_14.length : Int) := of_decide_eq_true (by first | (with_reducible assumption) | assumption)
                   obtain ⟨ad141, A141_1, c141_1, e141, hx141_0, hx141_1, hl141_1, hi141_1⟩ := at_T69 HR0_14.out x4_1 p141 q141
                   obtain rfl : ad140 = ad141 := (by injection e141)
                   replace hx141_0 := (HB.out.cell (World.block_lt_of_cell? w _ hx141_0)).trans hx141_0
                   replace hx141_1 := (HB.out.cell (World.block_lt_of_cell? w _ hx141_1)).trans hx141_1
                   have HR141_1 := Aside0.mk hi141_1
                   have HC141_1 := Aside0.mk hl141_1
                   clear hi141_1 hl141_1
                   replace p141 := eq_true p141
                   replace q141 := eq_true q141
                   have ea_ := Option.some.inj (hx140_1.symm.trans hx141_1)
                   injection ea_ with ea_ en_ ec_
                   subst ea_
                   subst ec_
                   clear en_
                   go_wp2_with (first | ((with_reducible refine gate_callee (f := 39) rfl ?_); refine goesL_ (some 81) rfl rfl Try.func39 (by kernel_rfl) rfl #[.int .i64 ((rd_T69 l0_14 x4_1).f0)] rfl (by (try simp only [List.map_toArray, List.map_cons, List.map_nil]); first | done | rfl | (simp only [List.length_drop, List.length_take]; rfl)) ?_; (with_reducible refine (spec_l06Inner.calls ((rd_T69 l0_14 x4_1).f0) true _ A35.out).mono ?_); rintro e w' ⟨rfl, ⟨nd, rfl⟩⟩; refine ⟨_, rfl, ?_⟩; have p143 : 0 ≤ (x4_1 : Int) := of_decide_eq_true (by first | (with_reducible assumption) | assumption); have q143 : x4_1 < (l0_14.length : Int) := of_decide_eq_true (by first | (with_reducible assumption) | assumption); obtain ⟨ad143, A143_1, c143_1, e143, hx143_0, hx143_1, hl143_1, hi143_1⟩ := at_T69 HR0_14.out x4_1 p143 q143; obtain rfl : ad140 = ad143 := (by injection e143); replace hx143_0 := (HB.out.cell (World.block_lt_of_cell? w _ hx143_0)).trans hx143_0; replace hx143_1 := (HB.out.cell (World.block_lt_of_cell? w _ hx143_1)).trans hx143_1; have HR143_1 := Aside0.mk hi143_1; have HC143_1 := Aside0.mk hl143_1; clear hi143_1 hl143_1; replace p143 := eq_true p143; replace q143 := eq_true q143; have ea_ := Option.some.inj (hx140_1.symm.trans hx143_1); injection ea_ with ea_ en_ ec_; subst ea_; subst ec_; clear en_))
                   go_ret
                   exact ⟨by first | rfl | (simp [errW_none, errW_some] <;> rfl) | (simp [*, errW_none, errW_some] <;> rfl), by repeat (first | (with_reducible first | exact HB.out | apply below_alloc | apply pw_below_drewN | apply below_drew1 | refine below_set ?_ GE132.out) | exact HB.out)⟩
               ·replace c36 := Bool.eq_false_iff.mpr c36
                subst c36
                have H1 : (some false) = some r := by rw [if_neg (show ¬ (false = true) by decide)] at H; exact H
                clear H
                have H := H1
                clear H1
                obtain rfl := Option.some.inj H
                have hcz50_0 : wr.cell? ⟨gb132, 0, none⟩ = some (.int .i64 a0_0) := (blk_cell BK132.out 0).trans rfl
                have hcz50_1 : wr.cell? ⟨gb132, 1, none⟩ = some (.int .i64 a0_1) := (blk_cell BK132.out 1).trans rfl
                have hcz50_2 : wr.cell? ⟨gb132, 2, none⟩ = some (.int .i64 a0_2) := (blk_cell BK132.out 2).trans rfl
                have hcz50_3 : wr.cell? ⟨gb132, 3, none⟩ = some (.int .i64 a0_3) := (blk_cell BK132.out 3).trans rfl
                have hcz50_4 : wr.cell? ⟨gb132, 4, none⟩ = some (.int .i64 a0_4) := (blk_cell BK132.out 4).trans rfl
                have hcz50_5 : wr.cell? ⟨gb132, 5, none⟩ = some (.int .i64 a0_5) := (blk_cell BK132.out 5).trans rfl
                have hcz50_6 : wr.cell? ⟨gb132, 6, none⟩ = some (.int .i64 a0_6) := (blk_cell BK132.out 6).trans rfl
                have hcz50_7 : wr.cell? ⟨gb132, 7, none⟩ = some (.int .i64 a0_7) := (blk_cell BK132.out 7).trans rfl
                have hcz50_8 : wr.cell? ⟨gb132, 8, none⟩ = some (.int .i64 a0_8) := (blk_cell BK132.out 8).trans rfl
                have hcz50_9 : wr.cell? ⟨gb132, 9, none⟩ = some (.int .i64 a0_9) := (blk_cell BK132.out 9).trans rfl
                have hcz50_10 : wr.cell? ⟨gb132, 10, none⟩ = some (.int .i64 a0_10) := (blk_cell BK132.out 10).trans rfl
                have hcz50_11 : wr.cell? ⟨gb132, 11, none⟩ = some (.int .i64 a0_11) := (blk_cell BK132.out 11).trans rfl
                have hcz50_12 : wr.cell? ⟨gb132, 12, none⟩ = some (.int .i64 a0_12) := (blk_cell BK132.out 12).trans rfl
                have hcz50_13 : wr.cell? ⟨gb132, 13, none⟩ = some (.int .i64 a0_13) := (blk_cell BK132.out 13).trans rfl
                have hcz50_14 : wr.cell? ⟨gb132, 14, none⟩ = some (.slice A0_14 l0_14.length c0_14) := (blk_cell BK132.out 14).trans rfl
                have hcz50_15 : wr.cell? ⟨gb132, 15, none⟩ = some (.slice A0_15 l0_15.length c0_15) := (blk_cell BK132.out 15).trans rfl
                have hfz50_0 := blk_frozen BK132.out 0
                have hfz50_1 := blk_frozen BK132.out 1
                have hfz50_2 := blk_frozen BK132.out 2
                have hfz50_3 := blk_frozen BK132.out 3
                have hfz50_4 := blk_frozen BK132.out 4
                have hfz50_5 := blk_frozen BK132.out 5
                have hfz50_6 := blk_frozen BK132.out 6
                have hfz50_7 := blk_frozen BK132.out 7
                have hfz50_8 := blk_frozen BK132.out 8
                have hfz50_9 := blk_frozen BK132.out 9
                have hfz50_10 := blk_frozen BK132.out 10
                have hfz50_11 := blk_frozen BK132.out 11
                have hfz50_12 := blk_frozen BK132.out 12
                have hfz50_13 := blk_frozen BK132.out 13
                have hfz50_14 := blk_frozen BK132.out 14
                have hfz50_15 := blk_frozen BK132.out 15
                have p140 : 0 ≤ (x4_1 : Int) := of_decide_eq_true (by first | (with_reducible assumption) | assumption)
                have q140 : x4_1 < (l0_14.length : Int) := of_decide_eq_true (by first | (with_reducible assumption) | assumption)
                obtain ⟨ad140, A140_1, c140_1, e140, hx140_0, hx140_1, hl140_1, hi140_1⟩ := at_T69 HR0_14.out x4_1 p140 q140
                cases e140
                replace hx140_0 := (HB.out.cell (World.block_lt_of_cell? w _ hx140_0)).trans hx140_0
                replace hx140_1 := (HB.out.cell (World.block_lt_of_cell? w _ hx140_1)).trans hx140_1
                have HR140_1 := Aside0.mk hi140_1
                have HC140_1 := Aside0.mk hl140_1
                clear hi140_1 hl140_1
                replace p140 := eq_true p140
                replace q140 := eq_true q140
                have p141 : 0 ≤ (x4_1 : Int) := of_decide_eq_true (by first | (with_reducible assumption) | assumption)
                have q141 : x4_1 < (l0_14.length : Int) := of_decide_eq_true (by first | (with_reducible assumption) | assumption)
                obtain ⟨ad141, A141_1, c141_1, e141, hx141_0, hx141_1, hl141_1, hi141_1⟩ := at_T69 HR0_14.out x4_1 p141 q141
                obtain rfl : ad140 = ad141 := (by injection e141)
                replace hx141_0 := (HB.out.cell (World.block_lt_of_cell? w _ hx141_0)).trans hx141_0
                replace hx141_1 := (HB.out.cell (World.block_lt_of_cell? w _ hx141_1)).trans hx141_1
                have HR141_1 := Aside0.mk hi141_1
                have HC141_1 := Aside0.mk hl141_1
                clear hi141_1 hl141_1
                replace p141 := eq_true p141
                replace q141 := eq_true q141
                have ea_ := Option.some.inj (hx140_1.symm.trans hx141_1)
                injection ea_ with ea_ en_ ec_
                subst ea_
                subst ec_
                clear en_
                go_wp2_with (first | ((with_reducible refine gate_callee (f := 39) rfl ?_); refine goesL_ (some 81) rfl rfl Try.func39 (by kernel_rfl) rfl #[.int .i64 ((rd_T69 l0_14 x4_1).f0)] rfl (by (try simp only [List.map_toArray, List.map_cons, List.map_nil]); first | done | rfl | (simp only [List.length_drop, List.length_take]; rfl)) ?_; (with_reducible refine (spec_l06Inner.calls ((rd_T69 l0_14 x4_1).f0) false _ A35.out).mono ?_); rintro e w' ⟨rfl, ⟨nd, rfl⟩⟩; refine ⟨_, rfl, ?_⟩))
                go_ret
                exact ⟨by first | rfl | (simp [errW_none, errW_some] <;> rfl) | (simp [*, errW_none, errW_some] <;> rfl), by repeat (first | (with_reducible first | exact HB.out | apply below_alloc | apply pw_below_drewN | apply below_drew1 | refine below_set ?_ GE132.out) | exact HB.out)⟩
              ·rw [if_neg c34] at H
               exact absurd H (by simp)
             ·rw [if_neg c33] at H
              have c33b0 : decide (x4_1 < (l0_14.length : Int)) = false := decide_eq_false c33
              clear c33
              obtain rfl := Option.some.inj H
              have hcz51_0 : wr.cell? ⟨gb132, 0, none⟩ = some (.int .i64 a0_0) := (blk_cell BK132.out 0).trans rfl
              have hcz51_1 : wr.cell? ⟨gb132, 1, none⟩ = some (.int .i64 a0_1) := (blk_cell BK132.out 1).trans rfl
              have hcz51_2 : wr.cell? ⟨gb132, 2, none⟩ = some (.int .i64 a0_2) := (blk_cell BK132.out 2).trans rfl
              have hcz51_3 : wr.cell? ⟨gb132, 3, none⟩ = some (.int .i64 a0_3) := (blk_cell BK132.out 3).trans rfl
              have hcz51_4 : wr.cell? ⟨gb132, 4, none⟩ = some (.int .i64 a0_4) := (blk_cell BK132.out 4).trans rfl
              have hcz51_5 : wr.cell? ⟨gb132, 5, none⟩ = some (.int .i64 a0_5) := (blk_cell BK132.out 5).trans rfl
              have hcz51_6 : wr.cell? ⟨gb132, 6, none⟩ = some (.int .i64 a0_6) := (blk_cell BK132.out 6).trans rfl
              have hcz51_7 : wr.cell? ⟨gb132, 7, none⟩ = some (.int .i64 a0_7) := (blk_cell BK132.out 7).trans rfl
              have hcz51_8 : wr.cell? ⟨gb132, 8, none⟩ = some (.int .i64 a0_8) := (blk_cell BK132.out 8).trans rfl
              have hcz51_9 : wr.cell? ⟨gb132, 9, none⟩ = some (.int .i64 a0_9) := (blk_cell BK132.out 9).trans rfl
              have hcz51_10 : wr.cell? ⟨gb132, 10, none⟩ = some (.int .i64 a0_10) := (blk_cell BK132.out 10).trans rfl
              have hcz51_11 : wr.cell? ⟨gb132, 11, none⟩ = some (.int .i64 a0_11) := (blk_cell BK132.out 11).trans rfl
              have hcz51_12 : wr.cell? ⟨gb132, 12, none⟩ = some (.int .i64 a0_12) := (blk_cell BK132.out 12).trans rfl
              have hcz51_13 : wr.cell? ⟨gb132, 13, none⟩ = some (.int .i64 a0_13) := (blk_cell BK132.out 13).trans rfl
              have hcz51_14 : wr.cell? ⟨gb132, 14, none⟩ = some (.slice A0_14 l0_14.length c0_14) := (blk_cell BK132.out 14).trans rfl
              have hcz51_15 : wr.cell? ⟨gb132, 15, none⟩ = some (.slice A0_15 l0_15.length c0_15) := (blk_cell BK132.out 15).trans rfl
              have hfz51_0 := blk_frozen BK132.out 0
              have hfz51_1 := blk_frozen BK132.out 1
              have hfz51_2 := blk_frozen BK132.out 2
              have hfz51_3 := blk_frozen BK132.out 3
              have hfz51_4 := blk_frozen BK132.out 4
              have hfz51_5 := blk_frozen BK132.out 5
              have hfz51_6 := blk_frozen BK132.out 6
              have hfz51_7 := blk_frozen BK132.out 7
              have hfz51_8 := blk_frozen BK132.out 8
              have hfz51_9 := blk_frozen BK132.out 9
              have hfz51_10 := blk_frozen BK132.out 10
              have hfz51_11 := blk_frozen BK132.out 11
              have hfz51_12 := blk_frozen BK132.out 12
              have hfz51_13 := blk_frozen BK132.out 13
              have hfz51_14 := blk_frozen BK132.out 14
              have hfz51_15 := blk_frozen BK132.out 15
              go_wp2
              go_ret
              exact ⟨by first | rfl | (simp [errW_none, errW_some] <;> rfl) | (simp [*, errW_none, errW_some] <;> rfl), by repeat (first | (with_reducible first | exact HB.out | apply below_alloc | apply pw_below_drewN | apply below_drew1 | refine below_set ?_ GE132.out) | exact HB.out)⟩
         ·replace c19 := Bool.eq_false_iff.mpr c19
          subst c19
          have H1 : (some false) = some r := by rw [if_neg (show ¬ (false = true) by decide)] at H; exact H
          clear H
          have H := H1
          clear H1
          obtain rfl := Option.some.inj H
          go_enter Try.func50, Try.ntmps50
          go_wp2_with (first | ((with_reducible refine gate_dst (N := 1) rfl ?_); (try (refine gate_guard (by rfl) ?_; dsimp only)); refine box_event ?hg (N := 1) ?hd (cs := #[.int .i64 a0_0, .int .i64 a0_1, .int .i64 a0_2, .int .i64 a0_3, .int .i64 a0_4, .int .i64 a0_5, .int .i64 a0_6, .int .i64 a0_7, .int .i64 a0_8, .int .i64 a0_9, .int .i64 a0_10, .int .i64 a0_11, .int .i64 a0_12, .int .i64 a0_13, .slice A0_14 l0_14.length c0_14, .slice A0_15 l0_15.length c0_15]) (t := 27) ?hr ?_; (case hd => rfl); (case hg => rfl); (case hr => first | (go_simp; done) | (go_simp; rfl)); intro gb132 hg w52 hbox hb; have n0_ := Aside0.mk (below_step (by repeat (first | (with_reducible first | exact HB.out | apply below_alloc | apply pw_below_drewN | apply below_drew1) | exact HB.out)) hb); have n1_ := Aside0.mk (hbox); have n2_ := Aside0.mk ((by rw [hg]; exact (below_size (by repeat (first | (with_reducible first | exact HB.out | apply below_alloc | apply pw_below_drewN | apply below_drew1) | exact HB.out))) : w.heap.size ≤ gb132)); have n3_ := Aside0.mk ((by rw [hg]; exact (below_size (by repeat (first | (with_reducible first | exact HB.out | apply below_alloc | apply pw_below_drewN | apply below_drew1) | exact HB.out))) : w.heap.size ≤ gb132)); clear HB; have HB := n0_; have BK132 := n1_; have GW132 := n2_; have GE132 := n3_; clear n0_ n1_ n2_ n3_; clear hb hbox hg; have hcz53_0 : w52.cell? ⟨gb132, 0, none⟩ = some (.int .i64 a0_0) := (blk_cell BK132.out 0).trans rfl; have hcz53_1 : w52.cell? ⟨gb132, 1, none⟩ = some (.int .i64 a0_1) := (blk_cell BK132.out 1).trans rfl; have hcz53_2 : w52.cell? ⟨gb132, 2, none⟩ = some (.int .i64 a0_2) := (blk_cell BK132.out 2).trans rfl; have hcz53_3 : w52.cell? ⟨gb132, 3, none⟩ = some (.int .i64 a0_3) := (blk_cell BK132.out 3).trans rfl; have hcz53_4 : w52.cell? ⟨gb132, 4, none⟩ = some (.int .i64 a0_4) := (blk_cell BK132.out 4).trans rfl; have hcz53_5 : w52.cell? ⟨gb132, 5, none⟩ = some (.int .i64 a0_5) := (blk_cell BK132.out 5).trans rfl; have hcz53_6 : w52.cell? ⟨gb132, 6, none⟩ = some (.int .i64 a0_6) := (blk_cell BK132.out 6).trans rfl; have hcz53_7 : w52.cell? ⟨gb132, 7, none⟩ = some (.int .i64 a0_7) := (blk_cell BK132.out 7).trans rfl; have hcz53_8 : w52.cell? ⟨gb132, 8, none⟩ = some (.int .i64 a0_8) := (blk_cell BK132.out 8).trans rfl; have hcz53_9 : w52.cell? ⟨gb132, 9, none⟩ = some (.int .i64 a0_9) := (blk_cell BK132.out 9).trans rfl; have hcz53_10 : w52.cell? ⟨gb132, 10, none⟩ = some (.int .i64 a0_10) := (blk_cell BK132.out 10).trans rfl; have hcz53_11 : w52.cell? ⟨gb132, 11, none⟩ = some (.int .i64 a0_11) := (blk_cell BK132.out 11).trans rfl; have hcz53_12 : w52.cell? ⟨gb132, 12, none⟩ = some (.int .i64 a0_12) := (blk_cell BK132.out 12).trans rfl; have hcz53_13 : w52.cell? ⟨gb132, 13, none⟩ = some (.int .i64 a0_13) := (blk_cell BK132.out 13).trans rfl; have hcz53_14 : w52.cell? ⟨gb132, 14, none⟩ = some (.slice A0_14 l0_14.length c0_14) := (blk_cell BK132.out 14).trans rfl; have hcz53_15 : w52.cell? ⟨gb132, 15, none⟩ = some (.slice A0_15 l0_15.length c0_15) := (blk_cell BK132.out 15).trans rfl; have hfz53_0 := blk_frozen BK132.out 0; have hfz53_1 := blk_frozen BK132.out 1; have hfz53_2 := blk_frozen BK132.out 2; have hfz53_3 := blk_frozen BK132.out 3; have hfz53_4 := blk_frozen BK132.out 4; have hfz53_5 := blk_frozen BK132.out 5; have hfz53_6 := blk_frozen BK132.out 6; have hfz53_7 := blk_frozen BK132.out 7; have hfz53_8 := blk_frozen BK132.out 8; have hfz53_9 := blk_frozen BK132.out 9; have hfz53_10 := blk_frozen BK132.out 10; have hfz53_11 := blk_frozen BK132.out 11; have hfz53_12 := blk_frozen BK132.out 12; have hfz53_13 := blk_frozen BK132.out 13; have hfz53_14 := blk_frozen BK132.out 14; have hfz53_15 := blk_frozen BK132.out 15) | ((with_reducible refine gate_callee (f := 72) rfl ?_); refine goesL_ (some 8) rfl rfl Try.func72 (by kernel_rfl) rfl #[.int .i64 a0_0, .int .i64 255] rfl (by (try simp only [List.map_toArray, List.map_cons, List.map_nil]); first | done | rfl | (simp only [List.length_drop, List.length_take]; rfl)) ?_; (with_reducible refine (spec_l05In.calls a0_0 255 true _ A2.out).mono ?_); rintro e w' ⟨rfl, ⟨nd, rfl⟩⟩; refine ⟨_, rfl, ?_⟩) | (go_at_call 72; (with_reducible refine (spec_l05In.calls a0_1 1048575 true _ A4.out).mono ?_); rintro e w' ⟨rfl, ⟨nd, rfl⟩⟩) | (go_at_call 72; (with_reducible refine (spec_l05In.calls a0_2 255 true _ A6.out).mono ?_); rintro e w' ⟨rfl, ⟨nd, rfl⟩⟩) | (go_at_call 72; (with_reducible refine (spec_l05In.calls a0_3 255 true _ A8.out).mono ?_); rintro e w' ⟨rfl, ⟨nd, rfl⟩⟩) | (go_at_call 39; (with_reducible refine (spec_l06Inner.calls a0_3 false _ A10.out).mono ?_); rintro e w' ⟨rfl, ⟨nd, rfl⟩⟩) | (go_at_call 82; (with_reducible refine (spec_AddrOk.calls a0_4 a0_5 a0_6 a0_7 a0_8 true _ A16.out).mono ?_); rintro e w54 ⟨rfl, hb⟩; have n0_ := Aside0.mk (blk_below (g := gb132) (o := .cells #[.int .i64 a0_0, .int .i64 a0_1, .int .i64 a0_2, .int .i64 a0_3, .int .i64 a0_4, .int .i64 a0_5, .int .i64 a0_6, .int .i64 a0_7, .int .i64 a0_8, .int .i64 a0_9, .int .i64 a0_10, .int .i64 a0_11, .int .i64 a0_12, .int .i64 a0_13, .slice A0_14 l0_14.length c0_14, .slice A0_15 l0_15.length c0_15] 27 (0, 0)) (by (with_reducible repeat (first | refine blk_drewN ?_ _ | refine blk_drew ?_ | refine blk_alloc ?_ _)); exact BK132.out) hb); have n1_ := Aside0.mk (below_step (by repeat (first | (with_reducible first | exact HB.out | apply below_alloc | apply pw_below_drewN | apply below_drew1 | refine below_set ?_ GE132.out) | exact HB.out)) hb); clear BK132; clear HB; have BK132 := n0_; have HB := n1_; clear n0_ n1_; (try clear hb); (try clear hb2); (try clear hk); (try clear hi); have hcz55_0 : w54.cell? ⟨gb132, 0, none⟩ = some (.int .i64 a0_0) := (blk_cell BK132.out 0).trans rfl; have hcz55_1 : w54.cell? ⟨gb132, 1, none⟩ = some (.int .i64 a0_1) := (blk_cell BK132.out 1).trans rfl; have hcz55_2 : w54.cell? ⟨gb132, 2, none⟩ = some (.int .i64 a0_2) := (blk_cell BK132.out 2).trans rfl; have hcz55_3 : w54.cell? ⟨gb132, 3, none⟩ = some (.int .i64 a0_3) := (blk_cell BK132.out 3).trans rfl; have hcz55_4 : w54.cell? ⟨gb132, 4, none⟩ = some (.int .i64 a0_4) := (blk_cell BK132.out 4).trans rfl; have hcz55_5 : w54.cell? ⟨gb132, 5, none⟩ = some (.int .i64 a0_5) := (blk_cell BK132.out 5).trans rfl; have hcz55_6 : w54.cell? ⟨gb132, 6, none⟩ = some (.int .i64 a0_6) := (blk_cell BK132.out 6).trans rfl; have hcz55_7 : w54.cell? ⟨gb132, 7, none⟩ = some (.int .i64 a0_7) := (blk_cell BK132.out 7).trans rfl; have hcz55_8 : w54.cell? ⟨gb132, 8, none⟩ = some (.int .i64 a0_8) := (blk_cell BK132.out 8).trans rfl; have hcz55_9 : w54.cell? ⟨gb132, 9, none⟩ = some (.int .i64 a0_9) := (blk_cell BK132.out 9).trans rfl; have hcz55_10 : w54.cell? ⟨gb132, 10, none⟩ = some (.int .i64 a0_10) := (blk_cell BK132.out 10).trans rfl; have hcz55_11 : w54.cell? ⟨gb132, 11, none⟩ = some (.int .i64 a0_11) := (blk_cell BK132.out 11).trans rfl; have hcz55_12 : w54.cell? ⟨gb132, 12, none⟩ = some (.int .i64 a0_12) := (blk_cell BK132.out 12).trans rfl; have hcz55_13 : w54.cell? ⟨gb132, 13, none⟩ = some (.int .i64 a0_13) := (blk_cell BK132.out 13).trans rfl; have hcz55_14 : w54.cell? ⟨gb132, 14, none⟩ = some (.slice A0_14 l0_14.length c0_14) := (blk_cell BK132.out 14).trans rfl; have hcz55_15 : w54.cell? ⟨gb132, 15, none⟩ = some (.slice A0_15 l0_15.length c0_15) := (blk_cell BK132.out 15).trans rfl; have hfz55_0 := blk_frozen BK132.out 0; have hfz55_1 := blk_frozen BK132.out 1; have hfz55_2 := blk_frozen BK132.out 2; have hfz55_3 := blk_frozen BK132.out 3; have hfz55_4 := blk_frozen BK132.out 4; have hfz55_5 := blk_frozen BK132.out 5; have hfz55_6 := blk_frozen BK132.out 6; have hfz55_7 := blk_frozen BK132.out 7; have hfz55_8 := blk_frozen BK132.out 8; have hfz55_9 := blk_frozen BK132.out 9; have hfz55_10 := blk_frozen BK132.out 10; have hfz55_11 := blk_frozen BK132.out 11; have hfz55_12 := blk_frozen BK132.out 12; have hfz55_13 := blk_frozen BK132.out 13; have hfz55_14 := blk_frozen BK132.out 14; have hfz55_15 := blk_frozen BK132.out 15) | (go_at_call 82; (with_reducible refine (spec_AddrOk.calls a0_9 a0_10 a0_11 a0_12 a0_13 false _ A18.out).mono ?_); rintro e w56 ⟨rfl, hb⟩; have n0_ := Aside0.mk (blk_below (g := gb132) (o := .cells #[.int .i64 a0_0, .int .i64 a0_1, .int .i64 a0_2, .int .i64 a0_3, .int .i64 a0_4, .int .i64 a0_5, .int .i64 a0_6, .int .i64 a0_7, .int .i64 a0_8, .int .i64 a0_9, .int .i64 a0_10, .int .i64 a0_11, .int .i64 a0_12, .int .i64 a0_13, .slice A0_14 l0_14.length c0_14, .slice A0_15 l0_15.length c0_15] 27 (0, 0)) (by (with_reducible repeat (first | refine blk_drewN ?_ _ | refine blk_drew ?_ | refine blk_alloc ?_ _)); exact BK132.out) hb); have n1_ := Aside0.mk (below_step (by repeat (first | (with_reducible first | exact HB.out | apply below_alloc | apply pw_below_drewN | apply below_drew1 | refine below_set ?_ GE132.out) | exact HB.out)) hb); clear BK132; clear HB; have BK132 := n0_; have HB := n1_; clear n0_ n1_; (try clear hb); (try clear hb2); (try clear hk); (try clear hi)))
          go_ret
          exact ⟨by first | rfl | (simp [errW_none, errW_some] <;> rfl) | (simp [*, errW_none, errW_some] <;> rfl), by repeat (first | (with_reducible first | exact HB.out | apply below_alloc | apply pw_below_drewN | apply below_drew1 | refine below_set ?_ GE132.out) | exact HB.out)⟩
        ·replace c17 := Bool.eq_false_iff.mpr c17
         subst c17
         have H1 : (some false) = some r := by rw [if_neg (show ¬ (false = true) by decide)] at H; exact H
         clear H
         have H := H1
         clear H1
         obtain rfl := Option.some.inj H
         go_enter Try.func50, Try.ntmps50
         go_wp2_with (first | ((with_reducible refine gate_dst (N := 1) rfl ?_); (try (refine gate_guard (by rfl) ?_; dsimp only)); refine box_event ?hg (N := 1) ?hd (cs := #[.int .i64 a0_0, .int .i64 a0_1, .int .i64 a0_2, .int .i64 a0_3, .int .i64 a0_4, .int .i64 a0_5, .int .i64 a0_6, .int .i64 a0_7, .int .i64 a0_8, .int .i64 a0_9, .int .i64 a0_10, .int .i64 a0_11, .int .i64 a0_12, .int .i64 a0_13, .slice A0_14 l0_14.length c0_14, .slice A0_15 l0_15.length c0_15]) (t := 27) ?hr ?_; (case hd => rfl); (case hg => rfl); (case hr => first | (go_simp; done) | (go_simp; rfl)); intro gb132 hg w57 hbox hb; have n0_ := Aside0.mk (below_step (by repeat (first | (with_reducible first | exact HB.out | apply below_alloc | apply pw_below_drewN | apply below_drew1) | exact HB.out)) hb); have n1_ := Aside0.mk (hbox); have n2_ := Aside0.mk ((by rw [hg]; exact (below_size (by repeat (first | (with_reducible first | exact HB.out | apply below_alloc | apply pw_below_drewN | apply below_drew1) | exact HB.out))) : w.heap.size ≤ gb132)); have n3_ := Aside0.mk ((by rw [hg]; exact (below_size (by repeat (first | (with_reducible first | exact HB.out | apply below_alloc | apply pw_below_drewN | apply below_drew1) | exact HB.out))) : w.heap.size ≤ gb132)); clear HB; have HB := n0_; have BK132 := n1_; have GW132 := n2_; have GE132 := n3_; clear n0_ n1_ n2_ n3_; clear hb hbox hg; have hcz58_0 : w57.cell? ⟨gb132, 0, none⟩ = some (.int .i64 a0_0) := (blk_cell BK132.out 0).trans rfl; have hcz58_1 : w57.cell? ⟨gb132, 1, none⟩ = some (.int .i64 a0_1) := (blk_cell BK132.out 1).trans rfl; have hcz58_2 : w57.cell? ⟨gb132, 2, none⟩ = some (.int .i64 a0_2) := (blk_cell BK132.out 2).trans rfl; have hcz58_3 : w57.cell? ⟨gb132, 3, none⟩ = some (.int .i64 a0_3) := (blk_cell BK132.out 3).trans rfl; have hcz58_4 : w57.cell? ⟨gb132, 4, none⟩ = some (.int .i64 a0_4) := (blk_cell BK132.out 4).trans rfl; have hcz58_5 : w57.cell? ⟨gb132, 5, none⟩ = some (.int .i64 a0_5) := (blk_cell BK132.out 5).trans rfl; have hcz58_6 : w57.cell? ⟨gb132, 6, none⟩ = some (.int .i64 a0_6) := (blk_cell BK132.out 6).trans rfl; have hcz58_7 : w57.cell? ⟨gb132, 7, none⟩ = some (.int .i64 a0_7) := (blk_cell BK132.out 7).trans rfl; have hcz58_8 : w57.cell? ⟨gb132, 8, none⟩ = some (.int .i64 a0_8) := (blk_cell BK132.out 8).trans rfl; have hcz58_9 : w57.cell? ⟨gb132, 9, none⟩ = some (.int .i64 a0_9) := (blk_cell BK132.out 9).trans rfl; have hcz58_10 : w57.cell? ⟨gb132, 10, none⟩ = some (.int .i64 a0_10) := (blk_cell BK132.out 10).trans rfl; have hcz58_11 : w57.cell? ⟨gb132, 11, none⟩ = some (.int .i64 a0_11) := (blk_cell BK132.out 11).trans rfl; have hcz58_12 : w57.cell? ⟨gb132, 12, none⟩ = some (.int .i64 a0_12) := (blk_cell BK132.out 12).trans rfl; have hcz58_13 : w57.cell? ⟨gb132, 13, none⟩ = some (.int .i64 a0_13) := (blk_cell BK132.out 13).trans rfl; have hcz58_14 : w57.cell? ⟨gb132, 14, none⟩ = some (.slice A0_14 l0_14.length c0_14) := (blk_cell BK132.out 14).trans rfl; have hcz58_15 : w57.cell? ⟨gb132, 15, none⟩ = some (.slice A0_15 l0_15.length c0_15) := (blk_cell BK132.out 15).trans rfl; have hfz58_0 := blk_frozen BK132.out 0; have hfz58_1 := blk_frozen BK132.out 1; have hfz58_2 := blk_frozen BK132.out 2; have hfz58_3 := blk_frozen BK132.out 3; have hfz58_4 := blk_frozen BK132.out 4; have hfz58_5 := blk_frozen BK132.out 5; have hfz58_6 := blk_frozen BK132.out 6; have hfz58_7 := blk_frozen BK132.out 7; have hfz58_8 := blk_frozen BK132.out 8; have hfz58_9 := blk_frozen BK132.out 9; have hfz58_10 := blk_frozen BK132.out 10; have hfz58_11 := blk_frozen BK132.out 11; have hfz58_12 := blk_frozen BK132.out 12; have hfz58_13 := blk_frozen BK132.out 13; have hfz58_14 := blk_frozen BK132.out 14; have hfz58_15 := blk_frozen BK132.out 15) | ((with_reducible refine gate_callee (f := 72) rfl ?_); refine goesL_ (some 8) rfl rfl Try.func72 (by kernel_rfl) rfl #[.int .i64 a0_0, .int .i64 255] rfl (by (try simp only [List.map_toArray, List.map_cons, List.map_nil]); first | done | rfl | (simp only [List.length_drop, List.length_take]; rfl)) ?_; (with_reducible refine (spec_l05In.calls a0_0 255 true _ A2.out).mono ?_); rintro e w' ⟨rfl, ⟨nd, rfl⟩⟩; refine ⟨_, rfl, ?_⟩) | (go_at_call 72; (with_reducible refine (spec_l05In.calls a0_1 1048575 true _ A4.out).mono ?_); rintro e w' ⟨rfl, ⟨nd, rfl⟩⟩) | (go_at_call 72; (with_reducible refine (spec_l05In.calls a0_2 255 true _ A6.out).mono ?_); rintro e w' ⟨rfl, ⟨nd, rfl⟩⟩) | (go_at_call 72; (with_reducible refine (spec_l05In.calls a0_3 255 true _ A8.out).mono ?_); rintro e w' ⟨rfl, ⟨nd, rfl⟩⟩) | (go_at_call 39; (with_reducible refine (spec_l06Inner.calls a0_3 false _ A10.out).mono ?_); rintro e w' ⟨rfl, ⟨nd, rfl⟩⟩) | (go_at_call 82; (with_reducible refine (spec_AddrOk.calls a0_4 a0_5 a0_6 a0_7 a0_8 false _ A16.out).mono ?_); rintro e w59 ⟨rfl, hb⟩; have n0_ := Aside0.mk (blk_below (g := gb132) (o := .cells #[.int .i64 a0_0, .int .i64 a0_1, .int .i64 a0_2, .int .i64 a0_3, .int .i64 a0_4, .int .i64 a0_5, .int .i64 a0_6, .int .i64 a0_7, .int .i64 a0_8, .int .i64 a0_9, .int .i64 a0_10, .int .i64 a0_11, .int .i64 a0_12, .int .i64 a0_13, .slice A0_14 l0_14.length c0_14, .slice A0_15 l0_15.length c0_15] 27 (0, 0)) (by (with_reducible repeat (first | refine blk_drewN ?_ _ | refine blk_drew ?_ | refine blk_alloc ?_ _)); exact BK132.out) hb); have n1_ := Aside0.mk (below_step (by repeat (first | (with_reducible first | exact HB.out | apply below_alloc | apply pw_below_drewN | apply below_drew1 | refine below_set ?_ GE132.out) | exact HB.out)) hb); clear BK132; clear HB; have BK132 := n0_; have HB := n1_; clear n0_ n1_; (try clear hb); (try clear hb2); (try clear hk); (try clear hi)))
         go_ret
         exact ⟨by first | rfl | (simp [errW_none, errW_some] <;> rfl) | (simp [*, errW_none, errW_some] <;> rfl), by repeat (first | (with_reducible first | exact HB.out | apply below_alloc | apply pw_below_drewN | apply below_drew1 | refine below_set ?_ GE132.out) | exact HB.out)⟩
       ·rw [if_neg c15] at H
        have c15b0 : (a0_9 == 6) = false := beq_eq_false_iff_ne.mpr c15
        have c15b1 : (a0_9 != 6) = true := bne_iff_ne.mpr c15
        obtain rfl := Option.some.inj H
        go_enter Try.func50, Try.ntmps50
        go_wp2_with (first | ((with_reducible refine gate_dst (N := 1) rfl ?_); (try (refine gate_guard (by rfl) ?_; dsimp only)); refine box_event ?hg (N := 1) ?hd (cs := #[.int .i64 a0_0, .int .i64 a0_1, .int .i64 a0_2, .int .i64 a0_3, .int .i64 a0_4, .int .i64 a0_5, .int .i64 a0_6, .int .i64 a0_7, .int .i64 a0_8, .int .i64 a0_9, .int .i64 a0_10, .int .i64 a0_11, .int .i64 a0_12, .int .i64 a0_13, .slice A0_14 l0_14.length c0_14, .slice A0_15 l0_15.length c0_15]) (t := 27) ?hr ?_; (case hd => rfl); (case hg => rfl); (case hr => first | (go_simp; done) | (go_simp; rfl)); intro gb132 hg w60 hbox hb; have n0_ := Aside0.mk (below_step (by repeat (first | (with_reducible first | exact HB.out | apply below_alloc | apply pw_below_drewN | apply below_drew1) | exact HB.out)) hb); have n1_ := Aside0.mk (hbox); have n2_ := Aside0.mk ((by rw [hg]; exact (below_size (by repeat (first | (with_reducible first | exact HB.out | apply below_alloc | apply pw_below_drewN | apply below_drew1) | exact HB.out))) : w.heap.size ≤ gb132)); have n3_ := Aside0.mk ((by rw [hg]; exact (below_size (by repeat (first | (with_reducible first | exact HB.out | apply below_alloc | apply pw_below_drewN | apply below_drew1) | exact HB.out))) : w.heap.size ≤ gb132)); clear HB; have HB := n0_; have BK132 := n1_; have GW132 := n2_; have GE132 := n3_; clear n0_ n1_ n2_ n3_; clear hb hbox hg; have hcz61_0 : w60.cell? ⟨gb132, 0, none⟩ = some (.int .i64 a0_0) := (blk_cell BK132.out 0).trans rfl; have hcz61_1 : w60.cell? ⟨gb132, 1, none⟩ = some (.int .i64 a0_1) := (blk_cell BK132.out 1).trans rfl; have hcz61_2 : w60.cell? ⟨gb132, 2, none⟩ = some (.int .i64 a0_2) := (blk_cell BK132.out 2).trans rfl; have hcz61_3 : w60.cell? ⟨gb132, 3, none⟩ = some (.int .i64 a0_3) := (blk_cell BK132.out 3).trans rfl; have hcz61_4 : w60.cell? ⟨gb132, 4, none⟩ = some (.int .i64 a0_4) := (blk_cell BK132.out 4).trans rfl; have hcz61_5 : w60.cell? ⟨gb132, 5, none⟩ = some (.int .i64 a0_5) := (blk_cell BK132.out 5).trans rfl; have hcz61_6 : w60.cell? ⟨gb132, 6, none⟩ = some (.int .i64 a0_6) := (blk_cell BK132.out 6).trans rfl; have hcz61_7 : w60.cell? ⟨gb132, 7, none⟩ = some (.int .i64 a0_7) := (blk_cell BK132.out 7).trans rfl; have hcz61_8 : w60.cell? ⟨gb132, 8, none⟩ = some (.int .i64 a0_8) := (blk_cell BK132.out 8).trans rfl; have hcz61_9 : w60.cell? ⟨gb132, 9, none⟩ = some (.int .i64 a0_9) := (blk_cell BK132.out 9).trans rfl; have hcz61_10 : w60.cell? ⟨gb132, 10, none⟩ = some (.int .i64 a0_10) := (blk_cell BK132.out 10).trans rfl; have hcz61_11 : w60.cell? ⟨gb132, 11, none⟩ = some (.int .i64 a0_11) := (blk_cell BK132.out 11).trans rfl; have hcz61_12 : w60.cell? ⟨gb132, 12, none⟩ = some (.int .i64 a0_12) := (blk_cell BK132.out 12).trans rfl; have hcz61_13 : w60.cell? ⟨gb132, 13, none⟩ = some (.int .i64 a0_13) := (blk_cell BK132.out 13).trans rfl; have hcz61_14 : w60.cell? ⟨gb132, 14, none⟩ = some (.slice A0_14 l0_14.length c0_14) := (blk_cell BK132.out 14).trans rfl; have hcz61_15 : w60.cell? ⟨gb132, 15, none⟩ = some (.slice A0_15 l0_15.length c0_15) := (blk_cell BK132.out 15).trans rfl; have hfz61_0 := blk_frozen BK132.out 0; have hfz61_1 := blk_frozen BK132.out 1; have hfz61_2 := blk_frozen BK132.out 2; have hfz61_3 := blk_frozen BK132.out 3; have hfz61_4 := blk_frozen BK132.out 4; have hfz61_5 := blk_frozen BK132.out 5; have hfz61_6 := blk_frozen BK132.out 6; have hfz61_7 := blk_frozen BK132.out 7; have hfz61_8 := blk_frozen BK132.out 8; have hfz61_9 := blk_frozen BK132.out 9; have hfz61_10 := blk_frozen BK132.out 10; have hfz61_11 := blk_frozen BK132.out 11; have hfz61_12 := blk_frozen BK132.out 12; have hfz61_13 := blk_frozen BK132.out 13; have hfz61_14 := blk_frozen BK132.out 14; have hfz61_15 := blk_frozen BK132.out 15) | ((with_reducible refine gate_callee (f := 72) rfl ?_); refine goesL_ (some 8) rfl rfl Try.func72 (by kernel_rfl) rfl #[.int .i64 a0_0, .int .i64 255] rfl (by (try simp only [List.map_toArray, List.map_cons, List.map_nil]); first | done | rfl | (simp only [List.length_drop, List.length_take]; rfl)) ?_; (with_reducible refine (spec_l05In.calls a0_0 255 true _ A2.out).mono ?_); rintro e w' ⟨rfl, ⟨nd, rfl⟩⟩; refine ⟨_, rfl, ?_⟩) | (go_at_call 72; (with_reducible refine (spec_l05In.calls a0_1 1048575 true _ A4.out).mono ?_); rintro e w' ⟨rfl, ⟨nd, rfl⟩⟩) | (go_at_call 72; (with_reducible refine (spec_l05In.calls a0_2 255 true _ A6.out).mono ?_); rintro e w' ⟨rfl, ⟨nd, rfl⟩⟩) | (go_at_call 72; (with_reducible refine (spec_l05In.calls a0_3 255 true _ A8.out).mono ?_); rintro e w' ⟨rfl, ⟨nd, rfl⟩⟩) | (go_at_call 39; (with_reducible refine (spec_l06Inner.calls a0_3 false _ A10.out).mono ?_); rintro e w' ⟨rfl, ⟨nd, rfl⟩⟩))
        go_ret
        exact ⟨by first | rfl | (simp [errW_none, errW_some] <;> rfl) | (simp [*, errW_none, errW_some] <;> rfl), by repeat (first | (with_reducible first | exact HB.out | apply below_alloc | apply pw_below_drewN | apply below_drew1 | refine below_set ?_ GE132.out) | exact HB.out)⟩
      ·rw [if_neg c14] at H
       have c14b0 : (a0_4 == 6) = false := beq_eq_false_iff_ne.mpr c14
       have c14b1 : (a0_4 != 6) = true := bne_iff_ne.mpr c14
       obtain rfl := Option.some.inj H
       go_enter Try.func50, Try.ntmps50
       go_wp2_with (first | ((with_reducible refine gate_dst (N := 1) rfl ?_); (try (refine gate_guard (by rfl) ?_; dsimp only)); refine box_event ?hg (N := 1) ?hd (cs := #[.int .i64 a0_0, .int .i64 a0_1, .int .i64 a0_2, .int .i64 a0_3, .int .i64 a0_4, .int .i64 a0_5, .int .i64 a0_6, .int .i64 a0_7, .int .i64 a0_8, .int .i64 a0_9, .int .i64 a0_10, .int .i64 a0_11, .int .i64 a0_12, .int .i64 a0_13, .slice A0_14 l0_14.length c0_14, .slice A0_15 l0_15.length c0_15]) (t := 27) ?hr ?_; (case hd => rfl); (case hg => rfl); (case hr => first | (go_simp; done) | (go_simp; rfl)); intro gb132 hg w62 hbox hb; have n0_ := Aside0.mk (below_step (by repeat (first | (with_reducible first | exact HB.out | apply below_alloc | apply pw_below_drewN | apply below_drew1) | exact HB.out)) hb); have n1_ := Aside0.mk (hbox); have n2_ := Aside0.mk ((by rw [hg]; exact (below_size (by repeat (first | (with_reducible first | exact HB.out | apply below_alloc | apply pw_below_drewN | apply below_drew1) | exact HB.out))) : w.heap.size ≤ gb132)); have n3_ := Aside0.mk ((by rw [hg]; exact (below_size (by repeat (first | (with_reducible first | exact HB.out | apply below_alloc | apply pw_below_drewN | apply below_drew1) | exact HB.out))) : w.heap.size ≤ gb132)); clear HB; have HB := n0_; have BK132 := n1_; have GW132 := n2_; have GE132 := n3_; clear n0_ n1_ n2_ n3_; clear hb hbox hg; have hcz63_0 : w62.cell? ⟨gb132, 0, none⟩ = some (.int .i64 a0_0) := (blk_cell BK132.out 0).trans rfl; have hcz63_1 : w62.cell? ⟨gb132, 1, none⟩ = some (.int .i64 a0_1) := (blk_cell BK132.out 1).trans rfl; have hcz63_2 : w62.cell? ⟨gb132, 2, none⟩ = some (.int .i64 a0_2) := (blk_cell BK132.out 2).trans rfl; have hcz63_3 : w62.cell? ⟨gb132, 3, none⟩ = some (.int .i64 a0_3) := (blk_cell BK132.out 3).trans rfl; have hcz63_4 : w62.cell? ⟨gb132, 4, none⟩ = some (.int .i64 a0_4) := (blk_cell BK132.out 4).trans rfl; have hcz63_5 : w62.cell? ⟨gb132, 5, none⟩ = some (.int .i64 a0_5) := (blk_cell BK132.out 5).trans rfl; have hcz63_6 : w62.cell? ⟨gb132, 6, none⟩ = some (.int .i64 a0_6) := (blk_cell BK132.out 6).trans rfl; have hcz63_7 : w62.cell? ⟨gb132, 7, none⟩ = some (.int .i64 a0_7) := (blk_cell BK132.out 7).trans rfl; have hcz63_8 : w62.cell? ⟨gb132, 8, none⟩ = some (.int .i64 a0_8) := (blk_cell BK132.out 8).trans rfl; have hcz63_9 : w62.cell? ⟨gb132, 9, none⟩ = some (.int .i64 a0_9) := (blk_cell BK132.out 9).trans rfl; have hcz63_10 : w62.cell? ⟨gb132, 10, none⟩ = some (.int .i64 a0_10) := (blk_cell BK132.out 10).trans rfl; have hcz63_11 : w62.cell? ⟨gb132, 11, none⟩ = some (.int .i64 a0_11) := (blk_cell BK132.out 11).trans rfl; have hcz63_12 : w62.cell? ⟨gb132, 12, none⟩ = some (.int .i64 a0_12) := (blk_cell BK132.out 12).trans rfl; have hcz63_13 : w62.cell? ⟨gb132, 13, none⟩ = some (.int .i64 a0_13) := (blk_cell BK132.out 13).trans rfl; have hcz63_14 : w62.cell? ⟨gb132, 14, none⟩ = some (.slice A0_14 l0_14.length c0_14) := (blk_cell BK132.out 14).trans rfl; have hcz63_15 : w62.cell? ⟨gb132, 15, none⟩ = some (.slice A0_15 l0_15.length c0_15) := (blk_cell BK132.out 15).trans rfl; have hfz63_0 := blk_frozen BK132.out 0; have hfz63_1 := blk_frozen BK132.out 1; have hfz63_2 := blk_frozen BK132.out 2; have hfz63_3 := blk_frozen BK132.out 3; have hfz63_4 := blk_frozen BK132.out 4; have hfz63_5 := blk_frozen BK132.out 5; have hfz63_6 := blk_frozen BK132.out 6; have hfz63_7 := blk_frozen BK132.out 7; have hfz63_8 := blk_frozen BK132.out 8; have hfz63_9 := blk_frozen BK132.out 9; have hfz63_10 := blk_frozen BK132.out 10; have hfz63_11 := blk_frozen BK132.out 11; have hfz63_12 := blk_frozen BK132.out 12; have hfz63_13 := blk_frozen BK132.out 13; have hfz63_14 := blk_frozen BK132.out 14; have hfz63_15 := blk_frozen BK132.out 15) | ((with_reducible refine gate_callee (f := 72) rfl ?_); refine goesL_ (some 8) rfl rfl Try.func72 (by kernel_rfl) rfl #[.int .i64 a0_0, .int .i64 255] rfl (by (try simp only [List.map_toArray, List.map_cons, List.map_nil]); first | done | rfl | (simp only [List.length_drop, List.length_take]; rfl)) ?_; (with_reducible refine (spec_l05In.calls a0_0 255 true _ A2.out).mono ?_); rintro e w' ⟨rfl, ⟨nd, rfl⟩⟩; refine ⟨_, rfl, ?_⟩) | (go_at_call 72; (with_reducible refine (spec_l05In.calls a0_1 1048575 true _ A4.out).mono ?_); rintro e w' ⟨rfl, ⟨nd, rfl⟩⟩) | (go_at_call 72; (with_reducible refine (spec_l05In.calls a0_2 255 true _ A6.out).mono ?_); rintro e w' ⟨rfl, ⟨nd, rfl⟩⟩) | (go_at_call 72; (with_reducible refine (spec_l05In.calls a0_3 255 true _ A8.out).mono ?_); rintro e w' ⟨rfl, ⟨nd, rfl⟩⟩) | (go_at_call 39; (with_reducible refine (spec_l06Inner.calls a0_3 false _ A10.out).mono ?_); rintro e w' ⟨rfl, ⟨nd, rfl⟩⟩))
       go_ret
       exact ⟨by first | rfl | (simp [errW_none, errW_some] <;> rfl) | (simp [*, errW_none, errW_some] <;> rfl), by repeat (first | (with_reducible first | exact HB.out | apply below_alloc | apply pw_below_drewN | apply below_drew1 | refine below_set ?_ GE132.out) | exact HB.out)⟩
    ·replace c9 := Bool.eq_false_iff.mpr c9
     subst c9
     have H1 : (some false) = some r := by rw [if_neg (show ¬ (false = true) by decide)] at H; exact H
     clear H
     have H := H1
     clear H1
     obtain rfl := Option.some.inj H
     go_enter Try.func50, Try.ntmps50
     go_wp2_with (first | ((with_reducible refine gate_dst (N := 1) rfl ?_); (try (refine gate_guard (by rfl) ?_; dsimp only)); refine box_event ?hg (N := 1) ?hd (cs := #[.int .i64 a0_0, .int .i64 a0_1, .int .i64 a0_2, .int .i64 a0_3, .int .i64 a0_4, .int .i64 a0_5, .int .i64 a0_6, .int .i64 a0_7, .int .i64 a0_8, .int .i64 a0_9, .int .i64 a0_10, .int .i64 a0_11, .int .i64 a0_12, .int .i64 a0_13, .slice A0_14 l0_14.length c0_14, .slice A0_15 l0_15.length c0_15]) (t := 27) ?hr ?_; (case hd => rfl); (case hg => rfl); (case hr => first | (go_simp; done) | (go_simp; rfl)); intro gb132 hg w64 hbox hb; have n0_ := Aside0.mk (below_step (by repeat (first | (with_reducible first | exact HB.out | apply below_alloc | apply pw_below_drewN | apply below_drew1) | exact HB.out)) hb); have n1_ := Aside0.mk (hbox); have n2_ := Aside0.mk ((by rw [hg]; exact (below_size (by repeat (first | (with_reducible first | exact HB.out | apply below_alloc | apply pw_below_drewN | apply below_drew1) | exact HB.out))) : w.heap.size ≤ gb132)); have n3_ := Aside0.mk ((by rw [hg]; exact (below_size (by repeat (first | (with_reducible first | exact HB.out | apply below_alloc | apply pw_below_drewN | apply below_drew1) | exact HB.out))) : w.heap.size ≤ gb132)); clear HB; have HB := n0_; have BK132 := n1_; have GW132 := n2_; have GE132 := n3_; clear n0_ n1_ n2_ n3_; clear hb hbox hg; have hcz65_0 : w64.cell? ⟨gb132, 0, none⟩ = some (.int .i64 a0_0) := (blk_cell BK132.out 0).trans rfl; have hcz65_1 : w64.cell? ⟨gb132, 1, none⟩ = some (.int .i64 a0_1) := (blk_cell BK132.out 1).trans rfl; have hcz65_2 : w64.cell? ⟨gb132, 2, none⟩ = some (.int .i64 a0_2) := (blk_cell BK132.out 2).trans rfl; have hcz65_3 : w64.cell? ⟨gb132, 3, none⟩ = some (.int .i64 a0_3) := (blk_cell BK132.out 3).trans rfl; have hcz65_4 : w64.cell? ⟨gb132, 4, none⟩ = some (.int .i64 a0_4) := (blk_cell BK132.out 4).trans rfl; have hcz65_5 : w64.cell? ⟨gb132, 5, none⟩ = some (.int .i64 a0_5) := (blk_cell BK132.out 5).trans rfl; have hcz65_6 : w64.cell? ⟨gb132, 6, none⟩ = some (.int .i64 a0_6) := (blk_cell BK132.out 6).trans rfl; have hcz65_7 : w64.cell? ⟨gb132, 7, none⟩ = some (.int .i64 a0_7) := (blk_cell BK132.out 7).trans rfl; have hcz65_8 : w64.cell? ⟨gb132, 8, none⟩ = some (.int .i64 a0_8) := (blk_cell BK132.out 8).trans rfl; have hcz65_9 : w64.cell? ⟨gb132, 9, none⟩ = some (.int .i64 a0_9) := (blk_cell BK132.out 9).trans rfl; have hcz65_10 : w64.cell? ⟨gb132, 10, none⟩ = some (.int .i64 a0_10) := (blk_cell BK132.out 10).trans rfl; have hcz65_11 : w64.cell? ⟨gb132, 11, none⟩ = some (.int .i64 a0_11) := (blk_cell BK132.out 11).trans rfl; have hcz65_12 : w64.cell? ⟨gb132, 12, none⟩ = some (.int .i64 a0_12) := (blk_cell BK132.out 12).trans rfl; have hcz65_13 : w64.cell? ⟨gb132, 13, none⟩ = some (.int .i64 a0_13) := (blk_cell BK132.out 13).trans rfl; have hcz65_14 : w64.cell? ⟨gb132, 14, none⟩ = some (.slice A0_14 l0_14.length c0_14) := (blk_cell BK132.out 14).trans rfl; have hcz65_15 : w64.cell? ⟨gb132, 15, none⟩ = some (.slice A0_15 l0_15.length c0_15) := (blk_cell BK132.out 15).trans rfl; have hfz65_0 := blk_frozen BK132.out 0; have hfz65_1 := blk_frozen BK132.out 1; have hfz65_2 := blk_frozen BK132.out 2; have hfz65_3 := blk_frozen BK132.out 3; have hfz65_4 := blk_frozen BK132.out 4; have hfz65_5 := blk_frozen BK132.out 5; have hfz65_6 := blk_frozen BK132.out 6; have hfz65_7 := blk_frozen BK132.out 7; have hfz65_8 := blk_frozen BK132.out 8; have hfz65_9 := blk_frozen BK132.out 9; have hfz65_10 := blk_frozen BK132.out 10; have hfz65_11 := blk_frozen BK132.out 11; have hfz65_12 := blk_frozen BK132.out 12; have hfz65_13 := blk_frozen BK132.out 13; have hfz65_14 := blk_frozen BK132.out 14; have hfz65_15 := blk_frozen BK132.out 15) | ((with_reducible refine gate_callee (f := 72) rfl ?_); refine goesL_ (some 8) rfl rfl Try.func72 (by kernel_rfl) rfl #[.int .i64 a0_0, .int .i64 255] rfl (by (try simp only [List.map_toArray, List.map_cons, List.map_nil]); first | done | rfl | (simp only [List.length_drop, List.length_take]; rfl)) ?_; (with_reducible refine (spec_l05In.calls a0_0 255 true _ A2.out).mono ?_); rintro e w' ⟨rfl, ⟨nd, rfl⟩⟩; refine ⟨_, rfl, ?_⟩) | (go_at_call 72; (with_reducible refine (spec_l05In.calls a0_1 1048575 true _ A4.out).mono ?_); rintro e w' ⟨rfl, ⟨nd, rfl⟩⟩) | (go_at_call 72; (with_reducible refine (spec_l05In.calls a0_2 255 true _ A6.out).mono ?_); rintro e w' ⟨rfl, ⟨nd, rfl⟩⟩) | (go_at_call 72; (with_reducible refine (spec_l05In.calls a0_3 255 false _ A8.out).mono ?_); rintro e w' ⟨rfl, ⟨nd, rfl⟩⟩))
     go_ret
     exact ⟨by first | rfl | (simp [errW_none, errW_some] <;> rfl) | (simp [*, errW_none, errW_some] <;> rfl), by repeat (first | (with_reducible first | exact HB.out | apply below_alloc | apply pw_below_drewN | apply below_drew1 | refine below_set ?_ GE132.out) | exact HB.out)⟩
   ·replace c7 := Bool.eq_false_iff.mpr c7
    subst c7
    have H1 : (some false) = some r := by rw [if_neg (show ¬ (false = true) by decide)] at H; exact H
    clear H
    have H := H1
    clear H1
    obtain rfl := Option.some.inj H
    go_enter Try.func50, Try.ntmps50
    go_wp2_with (first | ((with_reducible refine gate_dst (N := 1) rfl ?_); (try (refine gate_guard (by rfl) ?_; dsimp only)); refine box_event ?hg (N := 1) ?hd (cs := #[.int .i64 a0_0, .int .i64 a0_1, .int .i64 a0_2, .int .i64 a0_3, .int .i64 a0_4, .int .i64 a0_5, .int .i64 a0_6, .int .i64 a0_7, .int .i64 a0_8, .int .i64 a0_9, .int .i64 a0_10, .int .i64 a0_11, .int .i64 a0_12, .int .i64 a0_13, .slice A0_14 l0_14.length c0_14, .slice A0_15 l0_15.length c0_15]) (t := 27) ?hr ?_; (case hd => rfl); (case hg => rfl); (case hr => first | (go_simp; done) | (go_simp; rfl)); intro gb132 hg w66 hbox hb; have n0_ := Aside0.mk (below_step (by repeat (first | (with_reducible first | exact HB.out | apply below_alloc | apply pw_below_drewN | apply below_drew1) | exact HB.out)) hb); have n1_ := Aside0.mk (hbox); have n2_ := Aside0.mk ((by rw [hg]; exact (below_size (by repeat (first | (with_reducible first | exact HB.out | apply below_alloc | apply pw_below_drewN | apply below_drew1) | exact HB.out))) : w.heap.size ≤ gb132)); have n3_ := Aside0.mk ((by rw [hg]; exact (below_size (by repeat (first | (with_reducible first | exact HB.out | apply below_alloc | apply pw_below_drewN | apply below_drew1) | exact HB.out))) : w.heap.size ≤ gb132)); clear HB; have HB := n0_; have BK132 := n1_; have GW132 := n2_; have GE132 := n3_; clear n0_ n1_ n2_ n3_; clear hb hbox hg; have hcz67_0 : w66.cell? ⟨gb132, 0, none⟩ = some (.int .i64 a0_0) := (blk_cell BK132.out 0).trans rfl; have hcz67_1 : w66.cell? ⟨gb132, 1, none⟩ = some (.int .i64 a0_1) := (blk_cell BK132.out 1).trans rfl; have hcz67_2 : w66.cell? ⟨gb132, 2, none⟩ = some (.int .i64 a0_2) := (blk_cell BK132.out 2).trans rfl; have hcz67_3 : w66.cell? ⟨gb132, 3, none⟩ = some (.int .i64 a0_3) := (blk_cell BK132.out 3).trans rfl; have hcz67_4 : w66.cell? ⟨gb132, 4, none⟩ = some (.int .i64 a0_4) := (blk_cell BK132.out 4).trans rfl; have hcz67_5 : w66.cell? ⟨gb132, 5, none⟩ = some (.int .i64 a0_5) := (blk_cell BK132.out 5).trans rfl; have hcz67_6 : w66.cell? ⟨gb132, 6, none⟩ = some (.int .i64 a0_6) := (blk_cell BK132.out 6).trans rfl; have hcz67_7 : w66.cell? ⟨gb132, 7, none⟩ = some (.int .i64 a0_7) := (blk_cell BK132.out 7).trans rfl; have hcz67_8 : w66.cell? ⟨gb132, 8, none⟩ = some (.int .i64 a0_8) := (blk_cell BK132.out 8).trans rfl; have hcz67_9 : w66.cell? ⟨gb132, 9, none⟩ = some (.int .i64 a0_9) := (blk_cell BK132.out 9).trans rfl; have hcz67_10 : w66.cell? ⟨gb132, 10, none⟩ = some (.int .i64 a0_10) := (blk_cell BK132.out 10).trans rfl; have hcz67_11 : w66.cell? ⟨gb132, 11, none⟩ = some (.int .i64 a0_11) := (blk_cell BK132.out 11).trans rfl; have hcz67_12 : w66.cell? ⟨gb132, 12, none⟩ = some (.int .i64 a0_12) := (blk_cell BK132.out 12).trans rfl; have hcz67_13 : w66.cell? ⟨gb132, 13, none⟩ = some (.int .i64 a0_13) := (blk_cell BK132.out 13).trans rfl; have hcz67_14 : w66.cell? ⟨gb132, 14, none⟩ = some (.slice A0_14 l0_14.length c0_14) := (blk_cell BK132.out 14).trans rfl; have hcz67_15 : w66.cell? ⟨gb132, 15, none⟩ = some (.slice A0_15 l0_15.length c0_15) := (blk_cell BK132.out 15).trans rfl; have hfz67_0 := blk_frozen BK132.out 0; have hfz67_1 := blk_frozen BK132.out 1; have hfz67_2 := blk_frozen BK132.out 2; have hfz67_3 := blk_frozen BK132.out 3; have hfz67_4 := blk_frozen BK132.out 4; have hfz67_5 := blk_frozen BK132.out 5; have hfz67_6 := blk_frozen BK132.out 6; have hfz67_7 := blk_frozen BK132.out 7; have hfz67_8 := blk_frozen BK132.out 8; have hfz67_9 := blk_frozen BK132.out 9; have hfz67_10 := blk_frozen BK132.out 10; have hfz67_11 := blk_frozen BK132.out 11; have hfz67_12 := blk_frozen BK132.out 12; have hfz67_13 := blk_frozen BK132.out 13; have hfz67_14 := blk_frozen BK132.out 14; have hfz67_15 := blk_frozen BK132.out 15) | ((with_reducible refine gate_callee (f := 72) rfl ?_); refine goesL_ (some 8) rfl rfl Try.func72 (by kernel_rfl) rfl #[.int .i64 a0_0, .int .i64 255] rfl (by (try simp only [List.map_toArray, List.map_cons, List.map_nil]); first | done | rfl | (simp only [List.length_drop, List.length_take]; rfl)) ?_; (with_reducible refine (spec_l05In.calls a0_0 255 true _ A2.out).mono ?_); rintro e w' ⟨rfl, ⟨nd, rfl⟩⟩; refine ⟨_, rfl, ?_⟩) | (go_at_call 72; (with_reducible refine (spec_l05In.calls a0_1 1048575 true _ A4.out).mono ?_); rintro e w' ⟨rfl, ⟨nd, rfl⟩⟩) | (go_at_call 72; (with_reducible refine (spec_l05In.calls a0_2 255 false _ A6.out).mono ?_); rintro e w' ⟨rfl, ⟨nd, rfl⟩⟩))
    go_ret
    exact ⟨by first | rfl | (simp [errW_none, errW_some] <;> rfl) | (simp [*, errW_none, errW_some] <;> rfl), by repeat (first | (with_reducible first | exact HB.out | apply below_alloc | apply pw_below_drewN | apply below_drew1 | refine below_set ?_ GE132.out) | exact HB.out)⟩
  ·replace c5 := Bool.eq_false_iff.mpr c5
   subst c5
   have H1 : (some false) = some r := by rw [if_neg (show ¬ (false = true) by decide)] at H; exact H
   clear H
   have H := H1
   clear H1
   obtain rfl := Option.some.inj H
   go_enter Try.func50, Try.ntmps50
   go_wp2_with (first | ((with_reducible refine gate_dst (N := 1) rfl ?_); (try (refine gate_guard (by rfl) ?_; dsimp only)); refine box_event ?hg (N := 1) ?hd (cs := #[.int .i64 a0_0, .int .i64 a0_1, .int .i64 a0_2, .int .i64 a0_3, .int .i64 a0_4, .int .i64 a0_5, .int .i64 a0_6, .int .i64 a0_7, .int .i64 a0_8, .int .i64 a0_9, .int .i64 a0_10, .int .i64 a0_11, .int .i64 a0_12, .int .i64 a0_13, .slice A0_14 l0_14.length c0_14, .slice A0_15 l0_15.length c0_15]) (t := 27) ?hr ?_; (case hd => rfl); (case hg => rfl); (case hr => first | (go_simp; done) | (go_simp; rfl)); intro gb132 hg w68 hbox hb; have n0_ := Aside0.mk (below_step (by repeat (first | (with_reducible first | exact HB.out | apply below_alloc | apply pw_below_drewN | apply below_drew1) | exact HB.out)) hb); have n1_ := Aside0.mk (hbox); have n2_ := Aside0.mk ((by rw [hg]; exact (below_size (by repeat (first | (with_reducible first | exact HB.out | apply below_alloc | apply pw_below_drewN | apply below_drew1) | exact HB.out))) : w.heap.size ≤ gb132)); have n3_ := Aside0.mk ((by rw [hg]; exact (below_size (by repeat (first | (with_reducible first | exact HB.out | apply below_alloc | apply pw_below_drewN | apply below_drew1) | exact HB.out))) : w.heap.size ≤ gb132)); clear HB; have HB := n0_; have BK132 := n1_; have GW132 := n2_; have GE132 := n3_; clear n0_ n1_ n2_ n3_; clear hb hbox hg; have hcz69_0 : w68.cell? ⟨gb132, 0, none⟩ = some (.int .i64 a0_0) := (blk_cell BK132.out 0).trans rfl; have hcz69_1 : w68.cell? ⟨gb132, 1, none⟩ = some (.int .i64 a0_1) := (blk_cell BK132.out 1).trans rfl; have hcz69_2 : w68.cell? ⟨gb132, 2, none⟩ = some (.int .i64 a0_2) := (blk_cell BK132.out 2).trans rfl; have hcz69_3 : w68.cell? ⟨gb132, 3, none⟩ = some (.int .i64 a0_3) := (blk_cell BK132.out 3).trans rfl; have hcz69_4 : w68.cell? ⟨gb132, 4, none⟩ = some (.int .i64 a0_4) := (blk_cell BK132.out 4).trans rfl; have hcz69_5 : w68.cell? ⟨gb132, 5, none⟩ = some (.int .i64 a0_5) := (blk_cell BK132.out 5).trans rfl; have hcz69_6 : w68.cell? ⟨gb132, 6, none⟩ = some (.int .i64 a0_6) := (blk_cell BK132.out 6).trans rfl; have hcz69_7 : w68.cell? ⟨gb132, 7, none⟩ = some (.int .i64 a0_7) := (blk_cell BK132.out 7).trans rfl; have hcz69_8 : w68.cell? ⟨gb132, 8, none⟩ = some (.int .i64 a0_8) := (blk_cell BK132.out 8).trans rfl; have hcz69_9 : w68.cell? ⟨gb132, 9, none⟩ = some (.int .i64 a0_9) := (blk_cell BK132.out 9).trans rfl; have hcz69_10 : w68.cell? ⟨gb132, 10, none⟩ = some (.int .i64 a0_10) := (blk_cell BK132.out 10).trans rfl; have hcz69_11 : w68.cell? ⟨gb132, 11, none⟩ = some (.int .i64 a0_11) := (blk_cell BK132.out 11).trans rfl; have hcz69_12 : w68.cell? ⟨gb132, 12, none⟩ = some (.int .i64 a0_12) := (blk_cell BK132.out 12).trans rfl; have hcz69_13 : w68.cell? ⟨gb132, 13, none⟩ = some (.int .i64 a0_13) := (blk_cell BK132.out 13).trans rfl; have hcz69_14 : w68.cell? ⟨gb132, 14, none⟩ = some (.slice A0_14 l0_14.length c0_14) := (blk_cell BK132.out 14).trans rfl; have hcz69_15 : w68.cell? ⟨gb132, 15, none⟩ = some (.slice A0_15 l0_15.length c0_15) := (blk_cell BK132.out 15).trans rfl; have hfz69_0 := blk_frozen BK132.out 0; have hfz69_1 := blk_frozen BK132.out 1; have hfz69_2 := blk_frozen BK132.out 2; have hfz69_3 := blk_frozen BK132.out 3; have hfz69_4 := blk_frozen BK132.out 4; have hfz69_5 := blk_frozen BK132.out 5; have hfz69_6 := blk_frozen BK132.out 6; have hfz69_7 := blk_frozen BK132.out 7; have hfz69_8 := blk_frozen BK132.out 8; have hfz69_9 := blk_frozen BK132.out 9; have hfz69_10 := blk_frozen BK132.out 10; have hfz69_11 := blk_frozen BK132.out 11; have hfz69_12 := blk_frozen BK132.out 12; have hfz69_13 := blk_frozen BK132.out 13; have hfz69_14 := blk_frozen BK132.out 14; have hfz69_15 := blk_frozen BK132.out 15) | ((with_reducible refine gate_callee (f := 72) rfl ?_); refine goesL_ (some 8) rfl rfl Try.func72 (by kernel_rfl) rfl #[.int .i64 a0_0, .int .i64 255] rfl (by (try simp only [List.map_toArray, List.map_cons, List.map_nil]); first | done | rfl | (simp only [List.length_drop, List.length_take]; rfl)) ?_; (with_reducible refine (spec_l05In.calls a0_0 255 true _ A2.out).mono ?_); rintro e w' ⟨rfl, ⟨nd, rfl⟩⟩; refine ⟨_, rfl, ?_⟩) | (go_at_call 72; (with_reducible refine (spec_l05In.calls a0_1 1048575 false _ A4.out).mono ?_); rintro e w' ⟨rfl, ⟨nd, rfl⟩⟩))
   go_ret
   exact ⟨by first | rfl | (simp [errW_none, errW_some] <;> rfl) | (simp [*, errW_none, errW_some] <;> rfl), by repeat (first | (with_reducible first | exact HB.out | apply below_alloc | apply pw_below_drewN | apply below_drew1 | refine below_set ?_ GE132.out) | exact HB.out)⟩
 ·replace c3 := Bool.eq_false_iff.mpr c3
  subst c3
  have H1 : (some false) = some r := by rw [if_neg (show ¬ (false = true) by decide)] at H; exact H
  clear H
  have H := H1
  clear H1
  obtain rfl := Option.some.inj H
  go_enter Try.func50, Try.ntmps50
  go_wp2_with (first | ((with_reducible refine gate_dst (N := 1) rfl ?_); (try (refine gate_guard (by rfl) ?_; dsimp only)); refine box_event ?hg (N := 1) ?hd (cs := #[.int .i64 a0_0, .int .i64 a0_1, .int .i64 a0_2, .int .i64 a0_3, .int .i64 a0_4, .int .i64 a0_5, .int .i64 a0_6, .int .i64 a0_7, .int .i64 a0_8, .int .i64 a0_9, .int .i64 a0_10, .int .i64 a0_11, .int .i64 a0_12, .int .i64 a0_13, .slice A0_14 l0_14.length c0_14, .slice A0_15 l0_15.length c0_15]) (t := 27) ?hr ?_; (case hd => rfl); (case hg => rfl); (case hr => first | (go_simp; done) | (go_simp; rfl)); intro gb132 hg w70 hbox hb; have n0_ := Aside0.mk (below_step (by repeat (first | (with_reducible first | exact HB.out | apply below_alloc | apply pw_below_drewN | apply below_drew1) | exact HB.out)) hb); have n1_ := Aside0.mk (hbox); have n2_ := Aside0.mk ((by rw [hg]; exact (below_size (by repeat (first | (with_reducible first | exact HB.out | apply below_alloc | apply pw_below_drewN | apply below_drew1) | exact HB.out))) : w.heap.size ≤ gb132)); have n3_ := Aside0.mk ((by rw [hg]; exact (below_size (by repeat (first | (with_reducible first | exact HB.out | apply below_alloc | apply pw_below_drewN | apply below_drew1) | exact HB.out))) : w.heap.size ≤ gb132)); clear HB; have HB := n0_; have BK132 := n1_; have GW132 := n2_; have GE132 := n3_; clear n0_ n1_ n2_ n3_; clear hb hbox hg; have hcz71_0 : w70.cell? ⟨gb132, 0, none⟩ = some (.int .i64 a0_0) := (blk_cell BK132.out 0).trans rfl; have hcz71_1 : w70.cell? ⟨gb132, 1, none⟩ = some (.int .i64 a0_1) := (blk_cell BK132.out 1).trans rfl; have hcz71_2 : w70.cell? ⟨gb132, 2, none⟩ = some (.int .i64 a0_2) := (blk_cell BK132.out 2).trans rfl; have hcz71_3 : w70.cell? ⟨gb132, 3, none⟩ = some (.int .i64 a0_3) := (blk_cell BK132.out 3).trans rfl; have hcz71_4 : w70.cell? ⟨gb132, 4, none⟩ = some (.int .i64 a0_4) := (blk_cell BK132.out 4).trans rfl; have hcz71_5 : w70.cell? ⟨gb132, 5, none⟩ = some (.int .i64 a0_5) := (blk_cell BK132.out 5).trans rfl; have hcz71_6 : w70.cell? ⟨gb132, 6, none⟩ = some (.int .i64 a0_6) := (blk_cell BK132.out 6).trans rfl; have hcz71_7 : w70.cell? ⟨gb132, 7, none⟩ = some (.int .i64 a0_7) := (blk_cell BK132.out 7).trans rfl; have hcz71_8 : w70.cell? ⟨gb132, 8, none⟩ = some (.int .i64 a0_8) := (blk_cell BK132.out 8).trans rfl; have hcz71_9 : w70.cell? ⟨gb132, 9, none⟩ = some (.int .i64 a0_9) := (blk_cell BK132.out 9).trans rfl; have hcz71_10 : w70.cell? ⟨gb132, 10, none⟩ = some (.int .i64 a0_10) := (blk_cell BK132.out 10).trans rfl; have hcz71_11 : w70.cell? ⟨gb132, 11, none⟩ = some (.int .i64 a0_11) := (blk_cell BK132.out 11).trans rfl; have hcz71_12 : w70.cell? ⟨gb132, 12, none⟩ = some (.int .i64 a0_12) := (blk_cell BK132.out 12).trans rfl; have hcz71_13 : w70.cell? ⟨gb132, 13, none⟩ = some (.int .i64 a0_13) := (blk_cell BK132.out 13).trans rfl; have hcz71_14 : w70.cell? ⟨gb132, 14, none⟩ = some (.slice A0_14 l0_14.length c0_14) := (blk_cell BK132.out 14).trans rfl; have hcz71_15 : w70.cell? ⟨gb132, 15, none⟩ = some (.slice A0_15 l0_15.length c0_15) := (blk_cell BK132.out 15).trans rfl; have hfz71_0 := blk_frozen BK132.out 0; have hfz71_1 := blk_frozen BK132.out 1; have hfz71_2 := blk_frozen BK132.out 2; have hfz71_3 := blk_frozen BK132.out 3; have hfz71_4 := blk_frozen BK132.out 4; have hfz71_5 := blk_frozen BK132.out 5; have hfz71_6 := blk_frozen BK132.out 6; have hfz71_7 := blk_frozen BK132.out 7; have hfz71_8 := blk_frozen BK132.out 8; have hfz71_9 := blk_frozen BK132.out 9; have hfz71_10 := blk_frozen BK132.out 10; have hfz71_11 := blk_frozen BK132.out 11; have hfz71_12 := blk_frozen BK132.out 12; have hfz71_13 := blk_frozen BK132.out 13; have hfz71_14 := blk_frozen BK132.out 14; have hfz71_15 := blk_frozen BK132.out 15) | ((with_reducible refine gate_callee (f := 72) rfl ?_); refine goesL_ (some 8) rfl rfl Try.func72 (by kernel_rfl) rfl #[.int .i64 a0_0, .int .i64 255] rfl (by (try simp only [List.map_toArray, List.map_cons, List.map_nil]); first | done | rfl | (simp only [List.length_drop, List.length_take]; rfl)) ?_; (with_reducible refine (spec_l05In.calls a0_0 255 false _ A2.out).mono ?_); rintro e w' ⟨rfl, ⟨nd, rfl⟩⟩; refine ⟨_, rfl, ?_⟩))
  go_ret
  exact ⟨by first | rfl | (simp [errW_none, errW_some] <;> rfl) | (simp [*, errW_none, errW_some] <;> rfl), by repeat (first | (with_reducible first | exact HB.out | apply below_alloc | apply pw_below_drewN | apply below_drew1 | refine below_set ?_ GE132.out) | exact HB.out)⟩

end Go.Proofs.Ytdbiejkaplndgaa.FFnExactSixBytes
