/- HexRead: the program's HexRead answers as the reference, for every text. The row, and the card: the tables that the row lists are tied to the program's text. No further condition. -/
import Derived.Test.YtgkfgichilclgaaDoorRows
import Derived.Test.YtgkfgichilclgaaDoorFFnExactHexReadx
import Derived.Test.YtgkfgichilclgaaDoorPureFnExactHexRead
import Derived.Test.YtgkfgichilclgaaDoorOp
import Derived.Test.YtgkfgichilclgaaDoorWSized
import Derived.Test.YtgkfgichilclgaaDoorCards
import Derived.Test.YtgkfgichilclgaaDoorTie
import Derived.ChangeSame
import Derived.ChangeVars
import Derived.JoinedOf
import Derived.RowKitTokens
import Derived.LaidLaws
import Derived.LaidHandle
import Derived.Stop.Joined
import Derived.Lib.LaidIn
import Derived.SevenTiedAt
import Derived.WalkKit
import Derived.ProofKit
import Derived.OpenShut
import Derived.ShutString
import Derived.ChangeOld
import Derived.Below
import Derived.SizedLaws
namespace Go.Proofs.YtgkfgichilclgaaDoor.fnExactHexRead
open Go.ChangeShapes Go.WideShapes Go.ChangeAt Go.RowKit Go.Proofs.YtgkfgichilclgaaDoorW.PrintWords Go.Proofs.YtgkfgichilclgaaDoor.Op Go.Proofs.YtgkfgichilclgaaDoor.FFnExactHexRead
open Go.ChangeMaps (open_string shut_string)
set_option linter.unusedVariables false
theorem own : ownKnob Tryd.prog.godebug = none := by kernel_rfl
theorem laidOut : laidOutB Tryd.prog = true := by kernel_rfl
def laidN : List (String × DataW Unit) := Rows.fnExactHexReadRow.laid
def one : DataW Unit → Value
  | .lit (.int k n) => .int k n
  | _ => undef
def row : DataW Unit → List Value
  | .agg ps => ps.map one
  | _ => []
def rows : DataW Unit → List Value
  | .agg ps => ps.flatMap row
  | _ => []
noncomputable def laidWorld (os : Os) : World :=
  let w0 := World.holding Tryd.prog os ⟨#[], #[], []⟩
  let put := fun (c : Array Value) (o : Obj) => match o with
    | .cells _ t frozen => .cells c t frozen
    | o => o
  { w0 with heap := (w0.heap.modify 1 (put (row Rows.laid_unicode_utf8_first).toArray)).modify 2 (put (rows Rows.laid_unicode_utf8_acceptRanges).toArray) }
theorem laid_met (os : Os) (args : Array Value) : laidMetH Tryd.prog laidN ((laidWorld os).forCall (fun _ _ => 0) ⟨#[], args, []⟩).memory :=
  show laidMet Tryd.prog laidN _ from (LaidIn.of_run [0, 1, 2] 8 (by kernel_rfl) (by kernel_rfl) (by kernel_rfl) (by kernel_rfl)).met
set_option maxRecDepth 100000 in
theorem lifted (os : Os) (started : os.Started) (H : Type) (enc : TypeId × Value → H) :
    ReturnsInHanded {} Tryd.checked os 3 .any (fun w args => (Rows.fnExactHexReadSpec.pre enc Tryd.prog Tryd.f3 [] false w args ∧ laidMetH Tryd.prog laidN w) ∧ sizedMet enc Tryd.prog Tryd.f3 (OpenSpec.ofChange Rows.fnExactHexReadSpec) false w args)
      (Rows.fnExactHexReadSpec.post enc Tryd.prog Tryd.f3 false true false false) := by
  refine returnsInHanded_of_change_and (C := Tryd.checked) (X := fun w _ => laidMetH Tryd.prog laidN w) (fun _ _ _ hh h => h.of_heap hh) own started (by kernel_rfl) Tryd.func3
    (ChangeSpec.witness_at (enc := enc) (C := Tryd.checked) (os := os) (X := fun w _ => laidMetH Tryd.prog laidN w) false (laidWorld os) #[.string ByteArray.empty] 8 rfl (by kernel_rfl) (by kernel_rfl) (by kernel_rfl) (by kernel_rfl) (by kernel_rfl) (laid_met os _)) ?_
  intro W base args ds gs before hval0 hW _ _ hL _
  have hval : ∀ (j : Nat) t v, Tryd.f3.params[j]? = some t → args[j]? = some v → Value.okWide Tryd.prog W .any base t v := hval0
  have hW' := hW
  obtain ⟨p, q, hA0, hV, rfl, hfz, hnd⟩ := hW
  have hA : DataW.TrodAll enc Tryd.prog W 0 (fun _ => true) true Tryd.f3.params.toList args.toList ds p := hA0
  rw [Tryd.params3] at hA hval
  obtain ⟨v0, vs0, d0, ds0, p0, q0, hargs, rfl, rfl, h0, r0⟩ := trodAll_cons hA
  obtain ⟨rfl, rfl, rfl⟩ := trodAll_nil r0
  obtain rfl : args = #[v0] := by cases args; simp_all
  obtain ⟨rfl, rfl⟩ := trodVars_none hV
  obtain ⟨a0, rfl, rfl, rfl, y0⟩ := open_string Tryd.underlying9 (hval 0 9 v0 rfl rfl) h0
  clear hA0 hval0
  obtain ⟨k, hk⟩ := Pure.ExactHexRead.readAll a0
  refine (laws_FnExactHexRead.calls k a0 true W hk).mono fun e W' ⟨he, bel0⟩ => ?_
  have bel : Below W.heap.size W W' := bel0
  subst he
  exact ⟨_, rfl, _, _, _, [], _, [], hW', trodAll_mk1 (shut_bool Tryd.underlying4 _), (trodAll_cons_mk (shut_string Tryd.underlying9 y0) trodAll_mk0), rfl, bel.frame _, fun h => by cases h⟩
theorem over : Rows.fnExactHexReadRow.holds Tryd.pinned (OpenSpec.ofChange Rows.fnExactHexReadSpec) :=
  OpenClaim.holds_of_wide 3 Tryd.f3 rfl rfl rfl rfl rfl rfl rfl ⟨rfl, rfl, rfl, rfl, rfl⟩ rfl rfl rfl rfl rfl (by kernel_rfl) Tryd.func3 (by kernel_rfl)
    (of_decide_eq_true (by kernel_rfl)) (by unfold Func.isWrapper; first | (rw [if_pos (by decide +kernel)]; kernel_rfl) | (rw [if_neg (by decide +kernel)]; exact ⟨rfl, rfl⟩))
    (fun os started H enc _ => lifted os started H enc)
end Go.Proofs.YtgkfgichilclgaaDoor.fnExactHexRead
namespace Go.Proofs.YtgkfgichilclgaaDoor
theorem fnExactHexRead_holds : Rows.FnExactHexReadCardSaid :=
  Claim7.holds_tied_plain_at .later [] [.data, .pinned] true (true, "90a672461f72538157c770cd6e2e6b1547446b2bdca717e96b56e3c2ceb19d8c") false
    fnExactHexRead.over (fun _ h => by cases h) (by kernel_rfl) (fun _ h => by cases h) fnExactHexRead_row_tie rfl ⟨rfl, rfl⟩ (by kernel_rfl) rfl
    (fun f fn hf hfn => by
      obtain rfl : f = 3 := Option.some.inj ((show Tryd.prog.funcNamed "loop.example/g00655/laws.FnExactHexRead" = some 3 by kernel_rfl).symm.trans hf) |>.symm
      obtain rfl : fn = Tryd.f3 := (Option.some.inj (Tryd.func3.symm.trans hfn)).symm
      exact ⟨by kernel_rfl, fun j t ht => by
        rw [Tryd.params3] at ht
        have h3 : t = 9 := by
          rcases j with _ | j
          · simpa using ht.symm
          · simp at ht
        subst h3
        exact (show Tryd.prog.wantsStandIn 9 = false by kernel_rfl)⟩)
    (by kernel_rfl)
#print axioms fnExactHexRead_holds
end Go.Proofs.YtgkfgichilclgaaDoor
