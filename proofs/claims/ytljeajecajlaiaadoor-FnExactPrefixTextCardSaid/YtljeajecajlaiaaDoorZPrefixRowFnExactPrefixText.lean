/- PrefixText: the program's text of a prefix is the reference's, for all prefixes. The row, and the card: the tables that the row lists are tied to the program's text. No further condition. -/
import Derived.Test.YtljeajecajlaiaaDoorRows
import Derived.Test.YtljeajecajlaiaaDoorCards
import Derived.Test.YtljeajecajlaiaaDoorTie
import Derived.Test.YtljeajecajlaiaaDoorZPTextFnExactPrefixText
import Derived.Test.YtljeajecajlaiaaDoorZOpFnExactPrefixText
import Derived.ChangeSame
import Derived.ChangeVars
import Derived.JoinedOf
import Derived.RowKit
import Derived.RowKitTokens
import Derived.LaidLaws
import Derived.LaidHandle
import Derived.Stop.Joined
import Derived.Lib.LaidTab
import Derived.Lib.LaidIn
import Derived.SevenTiedAt
import Derived.WalkKit
import Derived.ProofKit
import Derived.OpenShut
import Derived.ChangeOld
import Derived.Below
import Derived.SizedLaws
namespace Go.Proofs.YtljeajecajlaiaaDoor.fnExactPrefixText
open Go.ChangeShapes Go.WideShapes Go.ChangeAt Go.RowKit Go.Shelf Go.Proofs.YtljeajecajlaiaaDoor.Op Go.Proofs.YtljeajecajlaiaaDoor.Text Go.Proofs.YtljeajecajlaiaaDoor.PrefixLaw
set_option linter.unusedVariables false
theorem own : ownKnob Tryd.prog.godebug = none := by kernel_rfl
theorem laidOut : laidOutB Tryd.prog = true := by kernel_rfl
theorem cells_3 : Tryd.prog.cellsOf 3 = 1 := by kernel_rfl
theorem cells_23 : Tryd.prog.cellsOf 23 = 5 := by kernel_rfl
theorem cells_29 : Tryd.prog.cellsOf 29 = 6 := by kernel_rfl
section
variable {H : Type} {enc : TypeId × Value → H} {W : World} {fuel : Nat} {cs : List Value} {x : DataW H × List MemPlace}
set_option maxRecDepth 10000 in
theorem op_23 (h : DataW.trod enc Tryd.prog W 0 (fun _ => true) true fuel 23 cs = some x) : ∃ (a0 : Int) (a1 : Int) (a2 : Int) (a3 : Int) (a4 : Int), cs = [.int .i64 a0, .int .i64 a1, .int .i64 a2, .int .i64 a3, .int .i64 a4] := by
  obtain ⟨xs, m, _, _, hl, hn, hg⟩ := DataW.trod_struct Tryd.underlying23 h
  rw [cells_23] at hl
  match cs, hl with
  | [v0, v1, v2, v3, v4], _ =>
    obtain ⟨x0, hx0⟩ := op_field hn (show 0 < _ from by decide)
    have g0 : DataW.trod enc Tryd.prog W 0 (fun _ => true) true m 3 (([v0, v1, v2, v3, v4].drop 0).take (Tryd.prog.cellsOf 3)) = some x0 := (hg 0 _ rfl).trans hx0
    rw [cells_3] at g0
    change DataW.trod enc Tryd.prog W 0 (fun _ => true) true m 3 [v0] = some x0 at g0
    obtain ⟨x1, hx1⟩ := op_field hn (show 1 < _ from by decide)
    have g1 : DataW.trod enc Tryd.prog W 0 (fun _ => true) true m 3 (([v0, v1, v2, v3, v4].drop 1).take (Tryd.prog.cellsOf 3)) = some x1 := (hg 1 _ rfl).trans hx1
    rw [cells_3] at g1
    change DataW.trod enc Tryd.prog W 0 (fun _ => true) true m 3 [v1] = some x1 at g1
    obtain ⟨x2, hx2⟩ := op_field hn (show 2 < _ from by decide)
    have g2 : DataW.trod enc Tryd.prog W 0 (fun _ => true) true m 3 (([v0, v1, v2, v3, v4].drop 2).take (Tryd.prog.cellsOf 3)) = some x2 := (hg 2 _ rfl).trans hx2
    rw [cells_3] at g2
    change DataW.trod enc Tryd.prog W 0 (fun _ => true) true m 3 [v2] = some x2 at g2
    obtain ⟨x3, hx3⟩ := op_field hn (show 3 < _ from by decide)
    have g3 : DataW.trod enc Tryd.prog W 0 (fun _ => true) true m 3 (([v0, v1, v2, v3, v4].drop 3).take (Tryd.prog.cellsOf 3)) = some x3 := (hg 3 _ rfl).trans hx3
    rw [cells_3] at g3
    change DataW.trod enc Tryd.prog W 0 (fun _ => true) true m 3 [v3] = some x3 at g3
    obtain ⟨x4, hx4⟩ := op_field hn (show 4 < _ from by decide)
    have g4 : DataW.trod enc Tryd.prog W 0 (fun _ => true) true m 3 (([v0, v1, v2, v3, v4].drop 4).take (Tryd.prog.cellsOf 3)) = some x4 := (hg 4 _ rfl).trans hx4
    rw [cells_3] at g4
    change DataW.trod enc Tryd.prog W 0 (fun _ => true) true m 3 [v4] = some x4 at g4
    obtain ⟨a0, e0, _, w0⟩ := DataW.trod_int Tryd.underlying3 g0
    obtain rfl := op_one e0
    obtain ⟨a1, e1, _, w1⟩ := DataW.trod_int Tryd.underlying3 g1
    obtain rfl := op_one e1
    obtain ⟨a2, e2, _, w2⟩ := DataW.trod_int Tryd.underlying3 g2
    obtain rfl := op_one e2
    obtain ⟨a3, e3, _, w3⟩ := DataW.trod_int Tryd.underlying3 g3
    obtain rfl := op_one e3
    obtain ⟨a4, e4, _, w4⟩ := DataW.trod_int Tryd.underlying3 g4
    obtain rfl := op_one e4
    exact ⟨a0, a1, a2, a3, a4, rfl⟩
set_option maxRecDepth 10000 in
theorem op_29 (h : DataW.trod enc Tryd.prog W 0 (fun _ => true) true fuel 29 cs = some x) : ∃ (a0 : Int) (a1 : Int) (a2 : Int) (a3 : Int) (a4 : Int) (a5 : Int), cs = [.int .i64 a0, .int .i64 a1, .int .i64 a2, .int .i64 a3, .int .i64 a4, .int .i64 a5] := by
  obtain ⟨xs, m, _, _, hl, hn, hg⟩ := DataW.trod_struct Tryd.underlying29 h
  rw [cells_29] at hl
  match cs, hl with
  | [v0, v1, v2, v3, v4, v5], _ =>
    obtain ⟨x0, hx0⟩ := op_field hn (show 0 < _ from by decide)
    have g0 : DataW.trod enc Tryd.prog W 0 (fun _ => true) true m 23 (([v0, v1, v2, v3, v4, v5].drop 0).take (Tryd.prog.cellsOf 23)) = some x0 := (hg 0 _ rfl).trans hx0
    rw [cells_23] at g0
    change DataW.trod enc Tryd.prog W 0 (fun _ => true) true m 23 [v0, v1, v2, v3, v4] = some x0 at g0
    obtain ⟨x1, hx1⟩ := op_field hn (show 1 < _ from by decide)
    have g1 : DataW.trod enc Tryd.prog W 0 (fun _ => true) true m 3 (([v0, v1, v2, v3, v4, v5].drop 5).take (Tryd.prog.cellsOf 3)) = some x1 := (hg 1 _ rfl).trans hx1
    rw [cells_3] at g1
    change DataW.trod enc Tryd.prog W 0 (fun _ => true) true m 3 [v5] = some x1 at g1
    obtain ⟨a0, a1, a2, a3, a4, e0⟩ := op_23 g0
    obtain ⟨a5, e5, _, _⟩ := DataW.trod_int Tryd.underlying3 g1
    obtain rfl := op_one e5
    simp only [List.cons.injEq, and_true] at e0
    obtain ⟨rfl, rfl, rfl, rfl, rfl⟩ := e0
    exact ⟨a0, a1, a2, a3, a4, a5, rfl⟩
end
def laidN : List (String × DataW Unit) := Rows.fnExactPrefixTextRow.laid
theorem third {P : Program} {W : World} {n1 n2 name : String} {d1 d2 : DataW Unit} {k : IntKind} {zs : List Int} {rest : List (String × DataW Unit)} {g : Nat} {t e : TypeId} {n : Nat}
    (hg : P.globalNamed name = some g) (hty : (P.globals[g]?).map (·.type) = some t) (ht : P.underlying t = some (.array n e)) (he : P.underlying e = some (.int k)) (hce : P.cellsOf e = 1) (hct : P.cellsOf t = n)
    (h : laidMet P ((n1, d1) :: (n2, d2) :: (name, Lib.tabData k zs) :: rest) W) : Lib.TabIs P W name k zs := by
  obtain ⟨ps, ⟨_, _, _, _, _, _, _, _, _, _, h2, _⟩, _⟩ := h
  obtain ⟨_, _, _, _, _, _, _, _, _, _, h3, _⟩ := h2
  obtain ⟨g', t', cs, fuel, p, q, hg', ht', hvar, hd, _, _⟩ := h3
  obtain rfl := Option.some.inj (hg.symm.trans hg')
  obtain rfl := Option.some.inj (hty.symm.trans ht')
  unfold Lib.TabIs
  rw [hvar, ← Lib.cells_of_tab ht he hce hct hd]
theorem second {P : Program} {W : World} {n1 name : String} {d1 : DataW Unit} {k : IntKind} {zs : List Int} {rest : List (String × DataW Unit)} {g : Nat} {t e : TypeId} {n : Nat}
    (hg : P.globalNamed name = some g) (hty : (P.globals[g]?).map (·.type) = some t) (ht : P.underlying t = some (.array n e)) (he : P.underlying e = some (.int k)) (hce : P.cellsOf e = 1) (hct : P.cellsOf t = n)
    (h : laidMet P ((n1, d1) :: (name, Lib.tabData k zs) :: rest) W) : Lib.TabIs P W name k zs := by
  obtain ⟨ps, ⟨_, _, _, _, _, _, _, _, _, _, h3, _⟩, _⟩ := h
  obtain ⟨g', t', cs, fuel, p, q, hg', ht', hvar, hd, _, _⟩ := h3
  obtain rfl := Option.some.inj (hg.symm.trans hg')
  obtain rfl := Option.some.inj (hty.symm.trans ht')
  unfold Lib.TabIs
  rw [hvar, ← Lib.cells_of_tab ht he hce hct hd]
def tab32 : List Int := [0, 1, 28, 2, 29, 14, 24, 3, 30, 22, 20, 15, 25, 17, 4, 8, 31, 27, 13, 23, 21, 19, 16, 7, 26, 12, 18, 6, 11, 5, 10, 9]
def tab64 : List Int := [0, 1, 56, 2, 57, 49, 28, 3, 61, 58, 42, 50, 38, 29, 17, 4, 62, 47, 59, 36, 45, 43, 51, 22, 53, 39, 33, 30, 24, 18, 12, 5, 63, 55, 48, 27, 60, 41, 37, 16, 46, 35, 44, 21, 52, 32, 23, 11, 54, 26, 40, 15, 34, 20, 31, 10, 25, 14, 19, 9, 13, 8, 7, 6]
theorem g64 : Tryd.prog.globalNamed "math/bits.deBruijn64tab" = some 5 := by kernel_rfl
theorem tab_of {W : World} (h : laidMetH Tryd.prog laidN W) : Lib.TabIs Tryd.prog W "internal/strconv.uint64pow10" .u64 Lib.pow10Tab ∧ TabAt 5 Lib.deBruijn64tab W := by
  have h' : laidMet Tryd.prog (("math/bits.deBruijn32tab", Rows.laid_math_bits_deBruijn32tab) :: ("math/bits.deBruijn64tab", Lib.tabData .u8 tab64) :: ("internal/strconv.uint64pow10", Lib.tabData .u64 Lib.pow10Tab) :: []) W := h
  refine ⟨third gTab (t := 96) (e := 73) (n := 20) (by kernel_rfl) Tryd.underlying96 Tryd.underlying73 (by kernel_rfl) (by kernel_rfl) h', fun j hj => ?_⟩
  have h1 := second g64 (t := 117) (e := 5) (n := 64) (by kernel_rfl) Tryd.underlying117 Tryd.underlying5 (by kernel_rfl) (by kernel_rfl) h'
  rw [World.var?_cell g64 h1 j, show tab64 = Lib.deBruijn64tab.map (fun n : Nat => (n : Int)) from rfl]
  simp [List.getElem?_map, List.getElem?_eq_getElem hj, List.getD]
noncomputable def laidWorld (os : Os) : World :=
  let w0 := World.holding Tryd.prog os ⟨#[], #[], []⟩
  let put := fun (c : Array Value) (o : Obj) => match o with
    | .cells _ t frozen => .cells c t frozen
    | o => o
  { w0 with heap := ((w0.heap.modify 0 (put (Lib.pow10Tab.map fun z => Value.int .u64 z).toArray)).modify 4 (put (tab32.map fun z => Value.int .u8 z).toArray)).modify 5 (put (tab64.map fun z => Value.int .u8 z).toArray) }
theorem laid_met (os : Os) (args : Array Value) : laidMetH Tryd.prog laidN ((laidWorld os).forCall (fun _ _ => 0) ⟨#[], args, []⟩).memory :=
  show laidMet Tryd.prog laidN _ from (LaidIn.of_run [0, 4, 5] 8 (by kernel_rfl) (by kernel_rfl) (by kernel_rfl) (by kernel_rfl)).met
set_option maxRecDepth 100000 in
theorem lifted (os : Os) (started : os.Started) (H : Type) (enc : TypeId × Value → H) :
    ReturnsInHanded {} Tryd.checked os 4 .any (fun w args => (Rows.fnExactPrefixTextSpec.pre enc Tryd.prog Tryd.f4 [] false w args ∧ laidMetH Tryd.prog laidN w) ∧ sizedMet enc Tryd.prog Tryd.f4 (OpenSpec.ofChange Rows.fnExactPrefixTextSpec) false w args)
      (Rows.fnExactPrefixTextSpec.post enc Tryd.prog Tryd.f4 false true false false) := by
  refine returnsInHanded_of_change_and (C := Tryd.checked) (X := fun w _ => laidMetH Tryd.prog laidN w) (fun _ _ _ hh h => h.of_heap hh) own started (by kernel_rfl) Tryd.func4
    (ChangeSpec.witness_at (enc := enc) (C := Tryd.checked) (os := os) (X := fun w _ => laidMetH Tryd.prog laidN w) false (laidWorld os) #[.agg #[.int .i64 0, .int .i64 0, .int .i64 0, .int .i64 0, .int .i64 0, .int .i64 0]] 8 rfl (by kernel_rfl) (by kernel_rfl) (by kernel_rfl) (by kernel_rfl) (by kernel_rfl) (laid_met os _)) ?_
  intro W base args ds gs before hval0 hW _ _ hL _
  have hval : ∀ (j : Nat) t v, Tryd.f4.params[j]? = some t → args[j]? = some v → Value.okWide Tryd.prog W .any base t v := hval0
  have hW' := hW
  obtain ⟨p, q, hA0, hV, rfl, hfz, hnd⟩ := hW
  have hA : DataW.TrodAll enc Tryd.prog W 0 (fun _ => true) true Tryd.f4.params.toList args.toList ds p := hA0
  rw [Tryd.params4] at hA hval
  obtain ⟨v0, vs0, d0, ds0, p0, q0, hargs, rfl, rfl, h0, r0⟩ := trodAll_cons hA
  obtain ⟨rfl, rfl, rfl⟩ := trodAll_nil r0
  obtain rfl : args = #[v0] := by cases args; simp_all
  obtain ⟨rfl, rfl⟩ := trodVars_none hV
  have k0 := h0
  have lt0 : ∀ x ∈ p0, x.block < W.heap.size := by obtain ⟨m, hm⟩ := k0; exact DataW.trod_lt m _ _ _ hm
  obtain ⟨cs0, rfl, _⟩ := okWide_struct Tryd.underlying29 (hval 0 29 v0 rfl rfl)
  obtain ⟨fu0, hf0⟩ := h0
  obtain ⟨a0, a1, a2, a3, a4, a5, e0⟩ := op_29 hf0
  obtain ⟨cs0⟩ := cs0
  obtain rfl : cs0 = _ := e0
  obtain ⟨htab, hT⟩ := tab_of hL
  clear hA0 hval0
  refine (law a0 a1 a2 a3 a4 a5 W htab hT).mono fun e W' ⟨he, bel0⟩ => ?_
  have bel : Below W.heap.size W W' := bel0
  subst he
  exact ⟨_, rfl, _, _, _, [], _, [], hW', trodAll_mk1 (shut_bool Tryd.underlying4 _), (trodAll_cons_mk (Below.trod laidOut (by kernel_rfl) (of_decide_eq_true (by kernel_rfl)) k0 bel lt0) trodAll_mk0), rfl, bel.frame _, fun h => by cases h⟩
theorem over : Rows.FnExactPrefixTextSaid :=
  OpenClaim.holds_of_wide 4 Tryd.f4 rfl rfl rfl rfl rfl rfl rfl ⟨rfl, rfl, rfl, rfl, rfl⟩ rfl rfl rfl rfl rfl (by kernel_rfl) Tryd.func4 (by kernel_rfl)
    (of_decide_eq_true (by kernel_rfl)) (by unfold Func.isWrapper; first | (rw [if_pos (by decide +kernel)]; kernel_rfl) | (rw [if_neg (by decide +kernel)]; exact ⟨rfl, rfl⟩))
    (fun os started H enc _ => lifted os started H enc)
end Go.Proofs.YtljeajecajlaiaaDoor.fnExactPrefixText
namespace Go.Proofs.YtljeajecajlaiaaDoor
theorem fnExactPrefixText_holds : Rows.FnExactPrefixTextCardSaid :=
  Claim7.holds_tied_plain_at .later [] [.data, .data, .data] true (true, "3ce171f72b3c8f405e7ce534eaf40ca0e81f538e618e3bfa591a3a51e0288bbd") true
    fnExactPrefixText.over (fun _ h => by cases h) (by kernel_rfl) (fun _ h => by cases h) fnExactPrefixText_row_tie rfl ⟨rfl, rfl⟩ (by kernel_rfl) rfl
    (fun f fn hf hfn => by
      obtain rfl : f = 4 := Option.some.inj ((show Tryd.prog.funcNamed "loop.example/g00655/laws.FnExactPrefixText" = some 4 by kernel_rfl).symm.trans hf) |>.symm
      obtain rfl : fn = Tryd.f4 := (Option.some.inj (Tryd.func4.symm.trans hfn)).symm
      exact ⟨by kernel_rfl, fun j t ht => by
        rw [Tryd.params4] at ht
        have h3 : t = 29 := by
          rcases j with _ | j
          · simpa using ht.symm
          · simp at ht
        subst h3
        exact (show Tryd.prog.wantsStandIn 29 = false by kernel_rfl)⟩)
    (by kernel_rfl)
#print axioms fnExactPrefixText_holds
end Go.Proofs.YtljeajecajlaiaaDoor
