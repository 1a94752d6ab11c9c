/- The walks of impl.NumText, impl.NumRead and of the law, by the contracts of the library's strconv.Itoa, strconv.Atoi and of spec.NumRead. Conditions: the table of powers of ten and the two error variables lie as their initialisers lay them. -/
import Derived.Test.YtdkaailcembhmaaDoorNumSpec
import Derived.Test.YtdkaailcembhmaaDoorLayP
import Derived.Lib.AppendIntMem
import Derived.Lib.AtoiErrMem
import Derived.Lib.AtoiAllCases
import Derived.Lib.SmallJoins
namespace Go.Proofs.YtdkaailcembhmaaDoor.FnExactNumRead
open Go.RowKit Go.Lib Go.Proofs.YtdkaailcembhmaaDoorW.PrintWords Go.Proofs.YtdkaailcembhmaaDoorW.PrintLast Go.Proofs.YtdkaailcembhmaaDoorW.PrintMore
theorem toList_inj {s t : ByteArray} (h : t.toList = s.toList) : t = s := by
  rw [Lib.toList_data, Lib.toList_data] at h
  exact ByteArray.ext (Array.ext' h)
theorem gTab : Tryd.prog.globalNamed "internal/strconv.uint64pow10" = some 0 := by kernel_rfl
def itoaS (n : Int) : ByteArray := ⟨(Lib.itoa n).toArray⟩
set_option maxRecDepth 100000 in
theorem impl_NumText (n : Int) (h0 : -9223372036854775808 ≤ n) (h1 : n ≤ 9223372036854775807) (w : World) (htab : Lib.TabIs Tryd.prog w "internal/strconv.uint64pow10" .u64 Lib.pow10Tab) :
    Calls Tryd.prog 22 #[.int .i64 n] w fun e w' => e = .returned (.string (itoaS n)) ∧ Below w.heap.size w w' := by
  have hcon := Any.strconv_Itoa Tryd.laysM171 n h0 h1 w htab
  change Calls Tryd.prog 45 _ _ _ at hcon
  change Calls Tryd.prog 45 _ _ fun e w' => e = .returned (.string (itoaS n)) ∧ _ at hcon
  generalize itoaS n = s at hcon ⊢
  clear htab
  go_enter Tryd.func22, Tryd.ntmps22
  go_wp2_with (go_at_call 45; refine hcon.mono ?_; rintro e w' ⟨rfl, k, os, rfl⟩)
  go_ret
  exact ⟨rfl, below_grow _ _ (Nat.le_refl _) _ _⟩
/-- What impl.NumRead answers. -/
def implV (s : ByteArray) : Int × Bool := match Lib.atoiAll s.data.toList with
  | .ok n => if n < 0 ∨ 12 < (s.size : Int) ∨ itoaS n ≠ s then (0, false) else (n, true)
  | _ => (0, false)
set_option maxRecDepth 100000 in
theorem impl_fail (s : ByteArray) (w : World) (m : Int) (te : TypeId)
    (hA : Calls Tryd.prog 26 #[.string s] w fun e w' => ∃ p, e = .returned (.tuple #[.int .i64 m, .iface te p]) ∧ Below w.heap.size w w') :
    Calls Tryd.prog 11 #[.string s] w fun e w' => e = .returned (.tuple #[.int .i64 0, .bool false]) ∧ Below w.heap.size w w' := by
  go_enter Tryd.func11, Tryd.ntmps11
  go_wp2_with (go_at_call 26; refine hA.mono ?_; rintro e w1 ⟨p, rfl, hb1⟩)
  go_ret2
  exact ⟨rfl, hb1⟩
set_option maxRecDepth 100000 in
theorem impl_ok (s t : ByteArray) (w : World) (n : Int)
    (hA : Calls Tryd.prog 26 #[.string s] w fun e w' => e = .returned (.tuple #[.int .i64 n, .nilIface]) ∧ Below w.heap.size w w')
    (hN : ∀ w1, Below w.heap.size w w1 → Calls Tryd.prog 22 #[.int .i64 n] w1 fun e w' => e = .returned (.string t) ∧ Below w1.heap.size w1 w') :
    Calls Tryd.prog 11 #[.string s] w fun e w' => e = .returned (.tuple #[.int .i64 (if n < 0 ∨ 12 < (s.size : Int) ∨ t ≠ s then 0 else n), .bool (if n < 0 ∨ 12 < (s.size : Int) ∨ t ≠ s then false else true)]) ∧ Below w.heap.size w w' := by
  by_cases h1 : n < 0
  · rw [if_pos (.inl h1), if_pos (.inl h1)]
    have f1 : decide (n < 0) = true := decide_eq_true h1
    clear hN h1
    go_enter Tryd.func11, Tryd.ntmps11
    go_wp2_with (go_at_call 26; refine hA.mono ?_; rintro e w1 ⟨rfl, hb1⟩)
    go_ret2
    exact ⟨rfl, hb1⟩
  · have f1 : decide (n < 0) = false := decide_eq_false h1
    by_cases h2 : 12 < (s.size : Int)
    · rw [if_pos (.inr (.inl h2)), if_pos (.inr (.inl h2))]
      have f2 : decide (12 < (s.size : Int)) = true := decide_eq_true h2
      clear hN h1 h2
      go_enter Tryd.func11, Tryd.ntmps11
      go_wp2_with (go_at_call 26; refine hA.mono ?_; rintro e w1 ⟨rfl, hb1⟩)
      go_ret2
      exact ⟨rfl, hb1⟩
    · have f2 : decide (12 < (s.size : Int)) = false := decide_eq_false h2
      by_cases h3 : t = s
      · subst h3
        rw [if_neg (by simp [h1, h2]), if_neg (by simp [h1, h2])]
        clear h1 h2
        go_enter Tryd.func11, Tryd.ntmps11
        go_wp2_with (first | (go_at_call 26; refine hA.mono ?_; rintro e w1 ⟨rfl, hb1⟩) | (go_at_call 22; refine (hN _ hb1).mono ?_; rintro e w2 ⟨rfl, hb2⟩))
        go_ret2
        exact ⟨rfl, below_step hb1 hb2⟩
      · rw [if_pos (.inr (.inr h3)), if_pos (.inr (.inr h3))]
        have h4 : t.toList ≠ s.toList := fun e => h3 (toList_inj e)
        have f3 : (t.toList == s.toList) = false := beq_eq_false_iff_ne.mpr h4
        have f4 : (t.toList != s.toList) = true := bne_iff_ne.mpr h4
        have f5 : decide (t.toList = s.toList) = false := decide_eq_false h4
        clear h1 h2
        go_enter Tryd.func11, Tryd.ntmps11
        go_wp2_with (first | (go_at_call 26; refine hA.mono ?_; rintro e w1 ⟨rfl, hb1⟩) | (go_at_call 22; refine (hN _ hb1).mono ?_; rintro e w2 ⟨rfl, hb2⟩))
        go_ret2
        exact ⟨rfl, below_step hb1 hb2⟩
theorem impl_is (s : ByteArray) (hs : s.size ≤ 1048576) (w : World) (htab : Lib.TabIs Tryd.prog w "internal/strconv.uint64pow10" .u64 Lib.pow10Tab) (pS pR : Value) (hES : w.cell? ⟨1, 0, none⟩ = some (.iface 117 pS)) (hER : w.cell? ⟨2, 0, none⟩ = some (.iface 117 pR)) :
    Calls Tryd.prog 11 #[.string s] w fun e w' => e = .returned (.tuple #[.int .i64 (implV s).1, .bool (implV s).2]) ∧ Below w.heap.size w w' := by
  cases h : Lib.atoiAll s.data.toList with
  | ok n =>
    have hb := Lib.atoiAll_bounds h
    have hA : Calls Tryd.prog 26 #[.string s] w fun e w' => e = .returned (.tuple #[.int .i64 n, .nilIface]) ∧ Below w.heap.size w w' :=
      (Any.strconv_Atoi_ok Tryd.laysC172 s (by omega) n h w).mono fun e w' ⟨h1, h2⟩ => ⟨h1, by rcases h2 with rfl | ⟨t, rfl⟩; exact Below.refl _ _; exact Lib.bytesWorld_below _ _ _⟩
    have key := impl_ok s (itoaS n) w n hA (fun w1 hb1 => impl_NumText n hb.1 hb.2 w1 (Go.Joins.tab_stays gTab htab hb1 (Nat.le_refl _)))
    unfold implV
    rw [h]
    simp only
    by_cases hc : n < 0 ∨ 12 < (s.size : Int) ∨ itoaS n ≠ s
    · rw [if_pos hc, if_pos hc] at key
      rw [if_pos hc]
      exact key
    · rw [if_neg hc, if_neg hc] at key
      rw [if_neg hc]
      exact key
  | «syntax» =>
    have key := impl_fail s w 0 93 ((Any.strconv_Atoi_syntax Tryd.laysC172 s (by omega) h (.iface 117 pS) w hES (.inr ⟨_, _, rfl⟩)).mono fun e w' ⟨N, h1, _, _, h2⟩ => ⟨_, h1, h2⟩)
    unfold implV
    rw [h]
    exact key
  | range =>
    have key := impl_fail s w (Lib.atoiSat s.data.toList) 93 ((Any.strconv_Atoi_range Tryd.laysC172 s (by omega) h (.iface 117 pR) w hER (.inr ⟨_, _, rfl⟩)).mono fun e w' ⟨N, h1, _, _, h2⟩ => ⟨_, h1, h2⟩)
    unfold implV
    rw [h]
    exact key
set_option maxRecDepth 100000 in
theorem law (s : ByteArray) (k : Nat) (hs : ¬ (s.size : Int) > 1048576 → spec_NumRead.f k s = some (implV s)) (w : World) (htab : Lib.TabIs Tryd.prog w "internal/strconv.uint64pow10" .u64 Lib.pow10Tab) (pS pR : Value) (hES : w.cell? ⟨1, 0, none⟩ = some (.iface 117 pS)) (hER : w.cell? ⟨2, 0, none⟩ = some (.iface 117 pR)) :
    Calls Tryd.prog 4 #[.string s] w fun e w' => e = .returned (.bool true) ∧ Below w.heap.size w w' := by
  by_cases hb : 1048576 < (s.size : Int)
  · have f1 : decide (1048576 < (s.size : Int)) = true := decide_eq_true hb
    clear hs htab hES hER hb
    go_enter Tryd.func4, Tryd.ntmps4
    go_wp2
    go_ret
    exact ⟨rfl, Below.refl _ _⟩
  · have f1 : decide (1048576 < (s.size : Int)) = false := decide_eq_false hb
    have c1 := spec_NumRead.calls k s (implV s).1 (implV s).2 w (hs hb)
    have c2 : ∀ w1, Below w.heap.size w w1 → Calls Tryd.prog 11 #[.string s] w1 fun e w' => e = .returned (.tuple #[.int .i64 (implV s).1, .bool (implV s).2]) ∧ Below w1.heap.size w1 w' := fun w1 h1 =>
      impl_is s (by omega) w1 (Go.Joins.tab_stays gTab htab h1 (Nat.le_refl _)) pS pR (pw_cell_below h1 hES) (pw_cell_below h1 hER)
    generalize implV s = v at c1 c2
    obtain ⟨v1, v2⟩ := v
    simp only at c1 c2
    clear hs htab hES hER hb
    go_enter Tryd.func4, Tryd.ntmps4
    go_wp2_with (first | (go_at_call 10; refine c1.mono ?_; rintro e w1 ⟨rfl, hb1⟩) | (go_at_call 11; refine (c2 _ hb1).mono ?_; rintro e w2 ⟨rfl, hb2⟩))
    go_ret
    exact ⟨rfl, below_step hb1 hb2⟩
end Go.Proofs.YtdkaailcembhmaaDoor.FnExactNumRead
