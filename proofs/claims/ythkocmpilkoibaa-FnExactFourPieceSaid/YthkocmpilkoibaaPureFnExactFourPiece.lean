/- The program's FourPiece returns what the reference's returns, for all arguments. No condition. -/
import Derived.Test.YthkocmpilkoibaaSFnExactFourPiece
import Derived.Test.YthkocmpilkoibaaBase
namespace Go.Proofs.Ythkocmpilkoibaa.Pure
open Go.RowKit Go.Proofs.Ythkocmpilkoibaa.FFnExactFourPiece Go.Proofs.YthkocmpilkoibaaW.PrintWords Go.Proofs.YthkocmpilkoibaaW.PrintLast Go.Proofs.YthkocmpilkoibaaW.PrintMore Go.Proofs.Ythkocmpilkoibaa.Base

set_option linter.unusedVariables false
set_option linter.unusedSimpArgs false
namespace ExactFourPiece
theorem toAddr (k a b c d : Int) : laws_toAddr.f k a b c d = some (k, a, b, c, d) := rfl

theorem eqAddr (k a b c d : Int) : laws_eqAddr.f k a b c d k a b c d = some true := by
  unfold laws_eqAddr.f
  simp only [if_true]

theorem toByteS_l (xs : List Int) (hn : xs.length ≤ 140737488355328) (d : Nat) : ∀ (k : Nat) (ys : List Int) (i : Int), 0 ≤ i → i + d = xs.length → d < k → ys.length = xs.length → (∀ j : Nat, (j : Int) < i → ys[j]? = xs[j]?) → laws_toByteS.l0 k xs ys i = some xs := by
  induction d with
  | zero =>
    intro k ys i h0 hi hk hl hj
    obtain ⟨k, rfl⟩ := pos_k hk
    simp only [laws_toByteS.l0]
    rw [if_neg (by omega)]
    congr 1
    apply List.ext_getElem?
    intro j
    by_cases h : (j : Int) < i
    · exact hj j h
    · rw [List.getElem?_eq_none (by omega), List.getElem?_eq_none (by omega)]
  | succ d ih =>
    intro k ys i h0 hi hk hl hj
    obtain ⟨k, rfl⟩ := pos_k hk
    simp only [laws_toByteS.l0]
    rw [if_pos (by omega), if_pos (by omega), if_pos (by omega), w64 (by omega) (by omega)]
    refine ih k _ (i + 1) (by omega) (by omega) (by omega) (by rw [List.length_set]; omega) ?_
    intro j hj'
    by_cases h : (j : Int) = i
    · have e : i.toNat = j := by omega
      rw [e, List.getElem?_set_self (by omega), ← h, ← rd_get? (by omega) (by omega)]
      rfl
    · rw [List.getElem?_set_ne (by omega)]
      exact hj j (by omega)
theorem toByteS {xs : List Int} (hn : xs.length ≤ 140737488355328) {k : Nat} (hk : xs.length < k) : laws_toByteS.f k xs = some xs := by
  unfold laws_toByteS.f
  rw [if_pos (by omega), if_pos (by omega)]
  exact toByteS_l xs hn xs.length k _ 0 (by omega) (by omega) hk (by simp) (fun j hj => by omega)

theorem eqByteS_l (xs : List Int) (hn : xs.length ≤ 140737488355328) (d : Nat) : ∀ (k : Nat) (i : Int), 0 ≤ i → i + d = xs.length → d < k → laws_eqByteS.l0 k xs xs i = some true := by
  induction d with
  | zero =>
    intro k i h0 hi hk
    obtain ⟨k, rfl⟩ := pos_k hk
    simp only [laws_eqByteS.l0]
    rw [if_neg (by omega)]
  | succ d ih =>
    intro k i h0 hi hk
    obtain ⟨k, rfl⟩ := pos_k hk
    simp only [laws_eqByteS.l0]
    rw [if_pos (by omega), if_pos (by omega), if_pos (by omega), if_pos (by first | rfl | trivial), w64 (by omega) (by omega)]
    exact ih k (i + 1) (by omega) (by omega) (by omega)
theorem eqByteS {xs : List Int} (hn : xs.length ≤ 140737488355328) {k : Nat} (hk : xs.length < k) : laws_eqByteS.f k xs xs = some true := by
  unfold laws_eqByteS.f
  rw [if_pos rfl]
  exact eqByteS_l xs hn xs.length k 0 (by omega) (by omega) hk

theorem szByteS (l : List Int) (a : Int) (h0 : 0 ≤ a) (h1 : a ≤ 1048576) (hl : l.length ≤ maxLen) : laws_szByteS.f l a = some (if a - l.length < 0 then -1 else a - l.length) := by
  unfold maxLen at hl
  unfold laws_szByteS.f
  rw [w64 (by omega) (by omega)]
  by_cases h : a - l.length < 0
  · rw [if_pos h, if_pos h]
  · rw [if_neg h, if_neg h]

theorem szFour (a0 a1 a2 a3 a4 a5 a6 a7 a8 a9 a10 a11 a12 a13 a14 a15 a16 : Int) (l m : List Int) (hl : l.length ≤ maxLen) (hm : m.length ≤ maxLen) : ∃ r, laws_szFour.f a0 a1 a2 a3 a4 a5 a6 a7 a8 a9 a10 a11 a12 a13 a14 a15 a16 l m 1048576 = some r ∧ (¬ r < 0 → l.length + m.length ≤ 1048576) := by
  unfold laws_szFour.f
  rw [szByteS l _ (by omega) (by omega) hl]
  simp only [Option.bind_some]
  by_cases h : (1048576 : Int) - l.length < 0
  · rw [if_pos h, if_pos (by decide)]
    exact ⟨-1, rfl, fun hh => absurd (by decide) hh⟩
  · rw [if_neg h, if_neg h, szByteS m _ (by omega) (by omega) hm]
    simp only [Option.bind_some]
    by_cases h' : (1048576 : Int) - l.length - m.length < 0
    · rw [if_pos h', if_pos (by decide)]
      exact ⟨-1, rfl, fun hh => absurd (by decide) hh⟩
    · rw [if_neg h', if_neg h']
      exact ⟨_, rfl, fun _ => by omega⟩
theorem toFour (a0 a1 a2 a3 a4 a5 a6 a7 a8 a9 a10 a11 a12 a13 a14 a15 a16 : Int) (l m : List Int) (hn : l.length + m.length ≤ 140737488355328) {k : Nat} (hk : l.length + m.length < k) : laws_toFour.f k a0 a1 a2 a3 a4 a5 a6 a7 a8 a9 a10 a11 a12 a13 a14 a15 a16 l m = some (a0, a1, a2, a3, a4, a5, a6, a7, a8, a9, a10, a11, a12, a13, a14, a15, a16, l, m) := by
  unfold laws_toFour.f
  rw [toAddr, toAddr, toByteS (xs := l) (by omega) (by omega), toByteS (xs := m) (by omega) (by omega)]
  rfl
theorem eqFour (a0 a1 a2 a3 a4 a5 a6 a7 a8 a9 a10 a11 a12 a13 a14 a15 a16 : Int) (l m : List Int) (hn : l.length + m.length ≤ 140737488355328) {k : Nat} (hk : l.length + m.length < k) : laws_eqFour.f k a0 a1 a2 a3 a4 a5 a6 a7 a8 a9 a10 a11 a12 a13 a14 a15 a16 l m a0 a1 a2 a3 a4 a5 a6 a7 a8 a9 a10 a11 a12 a13 a14 a15 a16 l m = some true := by
  unfold laws_eqFour.f
  simp only [if_true, eqAddr, eqByteS (xs := l) (by omega) (k := k) (by omega), eqByteS (xs := m) (by omega) (k := k) (by omega), Option.bind_some]

theorem specHalf (n : Int) : spec_l03Half.f n = some (decide (Half n)) := by
  unfold spec_l03Half.f Half
  by_cases h : n ≥ 0
  · rw [if_pos h]
    simp [h]
  · rw [if_neg h]
    simp [h]
theorem specAddrOk (k a b c d : Int) : spec_AddrOk.f k a b c d = some (decide (AddrOK k a b c d)) := by
  unfold spec_AddrOk.f
  simp only [specHalf, Option.bind_some]
  unfold AddrOK
  by_cases h4 : k = 4
  · subst h4
    by_cases ha : a = 0 <;> by_cases hb : b = 0 <;> by_cases hc : c = 0 <;> simp [ha, hb, hc]
  · by_cases h6 : k = 6
    · subst h6
      by_cases ha : Half a <;> by_cases hb : Half b <;> by_cases hc : Half c <;> simp [ha, hb, hc]
    · simp [h4, h6]

theorem isLong (n : Int) : impl_isLong.f n = some (decide (Half n)) := by
  unfold impl_isLong.f impl_within.f Half
  by_cases h : n ≥ 0
  · rw [if_pos h]
    simp [h]
  · rw [if_neg h]
    simp [h]
theorem implAddrOk (k a b c d : Int) : impl_AddrOk.f k a b c d = some (decide (AddrOK k a b c d)) := by
  unfold impl_AddrOk.f
  simp only [isLong, Option.bind_some]
  unfold AddrOK
  by_cases h4 : k = 4
  · subst h4
    by_cases ha : a = 0 <;> by_cases hb : b = 0 <;> by_cases hc : c = 0 <;> simp [ha, hb, hc]
  · by_cases h6 : k = 6
    · subst h6
      by_cases ha : Half a <;> by_cases hb : Half b <;> by_cases hc : Half c <;> simp [ha, hb, hc]
    · simp [h4, h6]

theorem isWord (n : Int) : impl_isWord.f n = some (decide (0 ≤ n ∧ n ≤ 65535)) := by
  unfold impl_isWord.f impl_within.f
  by_cases h : n ≥ 0
  · rw [if_pos h]
    simp [h]
  · rw [if_neg h]
    simp [h]

theorem isByte (n : Int) : impl_isByte.f n = some (decide (0 ≤ n ∧ n ≤ 255)) := by
  unfold impl_isByte.f impl_within.f
  by_cases h : n ≥ 0
  · rw [if_pos h]
    simp [h]
  · rw [if_neg h]
    simp [h]

theorem specIn (n m : Int) : spec_l05In.f n m = some (decide (0 ≤ n ∧ n ≤ m)) := by
  unfold spec_l05In.f
  by_cases h : n ≥ 0
  · rw [if_pos h]
    simp [h]
  · rw [if_neg h]
    simp [h]

theorem within (n lo hi : Int) : impl_within.f n lo hi = some (decide (lo ≤ n ∧ n ≤ hi)) := by
  unfold impl_within.f
  by_cases h : n ≥ lo
  · rw [if_pos h]
    simp [h]
  · rw [if_neg h]
    simp [h]

theorem isAddrOf (k a b c d n : Int) : impl_isAddrOf.f k a b c d n = some (decide (AddrOK k a b c d ∧ k = n)) := by
  unfold impl_isAddrOf.f
  rw [implAddrOk]
  simp only [Option.bind_some]
  by_cases h : AddrOK k a b c d
  · rw [decide_eq_true h, if_pos rfl]
    refine some_decide ?_
    simp [h]
  · rw [decide_eq_false h, if_neg Bool.false_ne_true]
    refine some_decide ?_
    simp [h]

def FourOK (a0 a1 a2 a3 a4 a5 a6 a7 a8 a9 a10 a11 a12 a13 a14 a15 a16 ol bl : Int) : Prop :=
  (0 ≤ a0 ∧ a0 ≤ 63) ∧ (0 ≤ a1 ∧ a1 ≤ 3) ∧ (0 ≤ a2 ∧ a2 ≤ 65535) ∧ (0 ≤ a3 ∧ a3 ≤ 7) ∧ (0 ≤ a4 ∧ a4 ≤ 8191) ∧ (0 ≤ a5 ∧ a5 ≤ 255) ∧ (0 ≤ a6 ∧ a6 ≤ 255) ∧
  (AddrOK a7 a8 a9 a10 a11 ∧ a7 = 4) ∧ (AddrOK a12 a13 a14 a15 a16 ∧ a12 = 4) ∧ ol ≤ 40 ∧ ol % 4 = 0 ∧ 20 + ol + bl ≤ 1500
instance (a0 a1 a2 a3 a4 a5 a6 a7 a8 a9 a10 a11 a12 a13 a14 a15 a16 ol bl : Int) : Decidable (FourOK a0 a1 a2 a3 a4 a5 a6 a7 a8 a9 a10 a11 a12 a13 a14 a15 a16 ol bl) := by unfold FourOK; infer_instance
theorem specFourOk (a0 a1 a2 a3 a4 a5 a6 a7 a8 a9 a10 a11 a12 a13 a14 a15 a16 : Int) (l m : List Int) (hl : l.length + m.length ≤ 1048576) : spec_FourOk.f a0 a1 a2 a3 a4 a5 a6 a7 a8 a9 a10 a11 a12 a13 a14 a15 a16 l m = some (decide (FourOK a0 a1 a2 a3 a4 a5 a6 a7 a8 a9 a10 a11 a12 a13 a14 a15 a16 l.length m.length)) := by
  have hw : wrap64 (1480 - (l.length : Int)) = 1480 - l.length := w64 (by omega) (by omega)
  unfold spec_FourOk.f
  simp only [specIn, Option.bind_some, specAddrOk, hw, decide_eq_true_eq, if_true, Bool.not_eq_true', decide_eq_false_iff_not]
  repeat' (with_reducible refine ite_goal (fun c_ => ?_) (fun c_ => ?_))
  all_goals refine some_decide ?_
  all_goals unfold FourOK
  all_goals (simp only [Bool.false_eq_true, false_iff, decide_eq_true_eq]; grind)
theorem implFourOk (a0 a1 a2 a3 a4 a5 a6 a7 a8 a9 a10 a11 a12 a13 a14 a15 a16 : Int) (l m : List Int) (hl : l.length + m.length ≤ 1048576) : impl_FourOk.f a0 a1 a2 a3 a4 a5 a6 a7 a8 a9 a10 a11 a12 a13 a14 a15 a16 l m = some (decide (FourOK a0 a1 a2 a3 a4 a5 a6 a7 a8 a9 a10 a11 a12 a13 a14 a15 a16 l.length m.length)) := by
  have hw : wrap64 (20 + (l.length : Int)) = 20 + l.length := w64 (by omega) (by omega)
  have hw2 : wrap64 (20 + (l.length : Int) + m.length) = 20 + l.length + m.length := w64 (by omega) (by omega)
  unfold impl_FourOk.f
  simp only [within, isWord, isByte, Option.bind_some, isAddrOf, impl_fourSize.f, impl_fourHead.f, hw, hw2, decide_eq_true_eq, if_true, Bool.not_eq_true', decide_eq_false_iff_not]
  repeat' (with_reducible refine ite_goal (fun c_ => ?_) (fun c_ => ?_))
  all_goals refine some_decide ?_
  all_goals unfold FourOK
  all_goals (simp only [Bool.false_eq_true, false_iff, decide_eq_true_eq]; grind)

def pieceB (ok : Bool) (a3 a4 : Int) : Bool := if ok = true then (if a4 = 0 then (Int.tmod a3 2 == 1) else true) else false
theorem specFourPiece (a0 a1 a2 a3 a4 a5 a6 a7 a8 a9 a10 a11 a12 a13 a14 a15 a16 : Int) (l m : List Int) (hl : l.length + m.length ≤ 1048576) : spec_FourPiece.f a0 a1 a2 a3 a4 a5 a6 a7 a8 a9 a10 a11 a12 a13 a14 a15 a16 l m = some (pieceB (decide (FourOK a0 a1 a2 a3 a4 a5 a6 a7 a8 a9 a10 a11 a12 a13 a14 a15 a16 l.length m.length)) a3 a4) := by
  unfold spec_FourPiece.f pieceB
  rw [specFourOk _ _ _ _ _ _ _ _ _ _ _ _ _ _ _ _ _ l m hl]
  simp only [Option.bind_some]
  repeat' split
  all_goals rfl
theorem implFourPiece (a0 a1 a2 a3 a4 a5 a6 a7 a8 a9 a10 a11 a12 a13 a14 a15 a16 : Int) (l m : List Int) (hl : l.length + m.length ≤ 1048576) : impl_FourPiece.f a0 a1 a2 a3 a4 a5 a6 a7 a8 a9 a10 a11 a12 a13 a14 a15 a16 l m = some (pieceB (decide (FourOK a0 a1 a2 a3 a4 a5 a6 a7 a8 a9 a10 a11 a12 a13 a14 a15 a16 l.length m.length)) a3 a4) := by
  unfold impl_FourPiece.f pieceB
  rw [implFourOk _ _ _ _ _ _ _ _ _ _ _ _ _ _ _ _ _ l m hl]
  simp only [Option.bind_some]
  repeat' split
  all_goals rfl

end ExactFourPiece
open ExactFourPiece

theorem FnExactFourPiece : laws_FnExactFourPiece.Pure := by
  intro a0 a1 a2 a3 a4 a5 a6 a7 a8 a9 a10 a11 a12 a13 a14 a15 a16 l m _ _ _ _ _ _ _ _ _ _ _ _ _ _ _ _ _ hl _ hm _
  refine ⟨l.length + m.length + 20, ?_⟩
  obtain ⟨r, hr, hc⟩ := szFour a0 a1 a2 a3 a4 a5 a6 a7 a8 a9 a10 a11 a12 a13 a14 a15 a16 l m hl hm
  unfold laws_FnExactFourPiece.f
  rw [hr]
  simp only [Option.bind_some]
  by_cases h : r < 0
  · rw [if_pos h]
  · have hn := hc h
    rw [if_neg h]
    have e1 := toFour a0 a1 a2 a3 a4 a5 a6 a7 a8 a9 a10 a11 a12 a13 a14 a15 a16 l m (by omega) (show l.length + m.length < l.length + m.length + 20 by omega)
    have e2 := eqFour a0 a1 a2 a3 a4 a5 a6 a7 a8 a9 a10 a11 a12 a13 a14 a15 a16 l m (by omega) (show l.length + m.length < l.length + m.length + 20 by omega)
    have e3 := specFourPiece a0 a1 a2 a3 a4 a5 a6 a7 a8 a9 a10 a11 a12 a13 a14 a15 a16 l m hn
    have e4 := implFourPiece a0 a1 a2 a3 a4 a5 a6 a7 a8 a9 a10 a11 a12 a13 a14 a15 a16 l m hn
    simp only [e1, e2, e3, e4, Option.bind_some, bne_self_eq_false, Bool.false_eq_true, if_false, if_true]

end Go.Proofs.Ythkocmpilkoibaa.Pure
