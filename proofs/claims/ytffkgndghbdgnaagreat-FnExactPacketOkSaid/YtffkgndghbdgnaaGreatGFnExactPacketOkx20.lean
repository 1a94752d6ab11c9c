-- Functions and their contracts, written by a program of this claim (wip/tools/oprint.py) out of the translation.
import Derived.Test.YtffkgndghbdgnaaGreatGFnExactPacketOkx0
namespace Go.Proofs.YtffkgndghbdgnaaGreat.FFnExactPacketOk
open Go.RowKit Go.Proofs.YtffkgndghbdgnaaGreatW.PrintWords Go.Proofs.YtffkgndghbdgnaaGreatW.PrintLast Go.Proofs.YtffkgndghbdgnaaGreatW.PrintMore Go.Proofs.YtffkgndghbdgnaaGreat.Frame
attribute [local go_sem] max2_int min2_int max_two min_two max_three min_three max_four min_four   -- for this text's walks alone
set_option linter.unusedVariables false
set_option maxHeartbeats 8000000
set_option maxRecDepth 100000
set_option linter.unusedSimpArgs false

/-! ### spec_EtherOk: function 65 -/
def spec_EtherOk.f (a0_0 a0_1 : Int) (a0_2 a0_3 : Int) (l0_4 : List Int) : Option (Bool) := if a0_0 < 0 then (some false) else (if a0_0 > 281474976710655 then (some false) else (if a0_1 < 0 then (some false) else (if a0_1 > 281474976710655 then (some false) else (if a0_2 < (-1) then (some false) else (if a0_2 > 65535 then (some false) else (if a0_2 ≥ 0 then (if a0_3 ≥ 1536 then (if a0_3 ≤ 65535 then (if a0_3 = 33024 then (some false) else (some (decide ((l0_4.length : Int) ≤ (1600 - 18))))) else (some false)) else (some false)) else (if a0_3 ≥ 1536 then (if a0_3 ≤ 65535 then (if a0_3 = 33024 then (some false) else (some (decide ((l0_4.length : Int) ≤ (1600 - 14))))) else (some false)) else (some false))))))))
theorem spec_EtherOk.calls (a0_0 a0_1 : Int) (a0_2 a0_3 : Int) (A0_4 : Option Addr) (c0_4 : Nat) (l0_4 : List Int) (r : Bool) (w : World) (hr0_4 : Kd.C (Kd.int .u8) w A0_4 l0_4.length l0_4) (hc0_4 : l0_4.length ≤ c0_4) (h : spec_EtherOk.f a0_0 a0_1 a0_2 a0_3 l0_4 = some r) :
  Calls Tryz.prog 65 #[.agg #[.int .i64 a0_0, .int .i64 a0_1, .int .i64 a0_2, .int .i64 a0_3, .slice A0_4 l0_4.length c0_4]] w fun e w' => e = .returned (.bool r) ∧ Below w.heap.size w w' := by
 have hu22 := Tryz.underlying22
 have hu38 := Tryz.underlying38
 have HR0_4 := Aside0.mk hr0_4
 have HC0_4 := Aside0.mk hc0_4
 clear hr0_4 hc0_4
 have HF := Fr.start [38] w
 have HP := Aside0.mk True.intro
 unfold spec_EtherOk.f at h
 have HH := Aside0.mk h
 clear h
 go_enter Tryz.func65, Tryz.ntmps65
 repeat' (with_reducible first | exact xE HH | (replace HH := iA HP HH; clear HP; rcases HH with ⟨p, HP, HH⟩ | ⟨p, HP, HH⟩ <;> first | subst p | cases p | skip) | fail)
 all_goals (repeat' (first
    | ((with_reducible refine gA 0 ?_) <;> (refine HF.bA ?_; clear HF; intro g_ w_ HF; refine nA ?_) <;> (refine sA ?_) <;> (apply lend))
    | ((with_reducible refine gA 1 ?_) <;> (iterate 28 refine sA ?_) <;> (apply lend))
    | ((with_reducible refine gA 2 ?_) <;> (refine sA ?_) <;> (apply lend))
    | ((with_reducible refine gA 3 ?_) <;> (refine sA ?_) <;> (apply lend))
    | ((with_reducible refine gA 4 ?_) <;> (iterate 3 refine sA ?_) <;> (apply lend))
    | ((with_reducible refine gA 5 ?_) <;> (refine sA ?_) <;> (apply lend))
    | ((with_reducible refine gA 6 ?_) <;> (iterate 22 refine sA ?_) <;> (apply lend))
    | go_step | fail))
 all_goals (have h_ := HH.out; clear HH; cases h_ <;> (go_ret; first
   | exact ⟨vE, HF.below⟩))

end Go.Proofs.YtffkgndghbdgnaaGreat.FFnExactPacketOk
