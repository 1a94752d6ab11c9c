/- The walks of impl.NumText and of the law, by the contracts of the library's strconv.Itoa and of spec.NumText. Condition: the table of powers of ten lies as its initialiser lays it. -/
import Derived.Test.YthkocmpilkoibaaDoorNumSpec
import Derived.Test.YthkocmpilkoibaaDoorLayP
import Derived.Lib.AppendIntMem
import Derived.Lib.SmallJoins
namespace Go.Proofs.YthkocmpilkoibaaDoor.FnExactNumText
open Go.RowKit Go.Lib Go.Proofs.YthkocmpilkoibaaDoorW.PrintWords Go.Proofs.YthkocmpilkoibaaDoorW.PrintLast Go.Proofs.YthkocmpilkoibaaDoorW.PrintMore
theorem gTab : Tryd.prog.globalNamed "internal/strconv.uint64pow10" = some 0 := by kernel_rfl
set_option maxRecDepth 100000 in
theorem impl_NumText (n : Int) (h0 : -9223372036854775808 ≤ n) (h1 : n ≤ 9223372036854775807) (w : World) (htab : Lib.TabIs Tryd.prog w "internal/strconv.uint64pow10" .u64 Lib.pow10Tab) :
    Calls Tryd.prog 5 #[.int .i64 n] w fun e w' => e = .returned (.string ⟨(Lib.itoa n).toArray⟩) ∧ Below w.heap.size w w' := by
  have hcon := Any.strconv_Itoa Tryd.laysM171 n h0 h1 w htab
  change Calls Tryd.prog 6 _ _ _ at hcon
  generalize ByteArray.mk (Lib.itoa n).toArray = s at hcon ⊢
  clear htab
  go_enter Tryd.func5, Tryd.ntmps5
  go_wp2_with (go_at_call 6; refine hcon.mono ?_; rintro e w' ⟨rfl, k, os, rfl⟩)
  go_ret
  exact ⟨rfl, below_grow _ _ (Nat.le_refl _) _ _⟩
set_option maxRecDepth 100000 in
theorem law (n : Int) (h0 : -9223372036854775808 ≤ n) (h1 : n ≤ 9223372036854775807) (k : Nat) (hs : spec_NumText.f k n = some ⟨(Lib.itoa n).toArray⟩) (w : World) (htab : Lib.TabIs Tryd.prog w "internal/strconv.uint64pow10" .u64 Lib.pow10Tab) :
    Calls Tryd.prog 3 #[.int .i64 n] w fun e w' => e = .returned (.bool true) ∧ Below w.heap.size w w' := by
  have c1 := spec_NumText.calls k n _ w hs
  have c2 : ∀ w1, Below w.heap.size w w1 → Calls Tryd.prog 5 #[.int .i64 n] w1 fun e w' => e = .returned (.string ⟨(Lib.itoa n).toArray⟩) ∧ Below w1.heap.size w1 w' := fun w1 hb => impl_NumText n h0 h1 w1 (Go.Joins.tab_stays gTab htab hb (Nat.le_refl _))
  generalize ByteArray.mk (Lib.itoa n).toArray = s at c1 c2
  clear htab hs h0 h1
  go_enter Tryd.func3, Tryd.ntmps3
  go_wp2_with (first | (go_at_call 4; refine c1.mono ?_; rintro e w1 ⟨rfl, hb1⟩) | (go_at_call 5; refine (c2 _ hb1).mono ?_; rintro e w2 ⟨rfl, hb2⟩))
  go_ret
  exact ⟨rfl, below_step hb1 hb2⟩
end Go.Proofs.YthkocmpilkoibaaDoor.FnExactNumText
