/- The program's Turned returns what the reference's returns, for all arguments. No condition. -/
import Derived.Test.YtnpfhfckkjkifaaSFnExactTurned
import Derived.Test.YtnpfhfckkjkifaaBase
namespace Go.Proofs.Ytnpfhfckkjkifaa.Pure
open Go.RowKit Go.Proofs.Ytnpfhfckkjkifaa.FFnExactTurned Go.Proofs.YtnpfhfckkjkifaaW.PrintWords Go.Proofs.YtnpfhfckkjkifaaW.PrintLast Go.Proofs.YtnpfhfckkjkifaaW.PrintMore Go.Proofs.Ytnpfhfckkjkifaa.Base

namespace ExactTurned
theorem toAddr (k a b c d : Int) : laws_toAddr.f k a b c d = some (k, a, b, c, d) := rfl

theorem eqAddr (k a b c d : Int) : laws_eqAddr.f k a b c d k a b c d = some true := by
  unfold laws_eqAddr.f
  simp only [if_true]

theorem specHalf (n : Int) : spec_l03Half.f n = some (decide (Half n)) := by
  unfold spec_l03Half.f Half
  by_cases h : n ≥ 0
  · rw [if_pos h]
    simp [h]
  · rw [if_neg h]
    simp [h]
theorem specAddrOk (k a b c d : Int) : spec_AddrOk.f k a b c d = some (decide (AddrOK k a b c d)) := by
  unfold spec_AddrOk.f
  simp only [specHalf, Option.bind_some]
  unfold AddrOK
  by_cases h4 : k = 4
  · subst h4
    by_cases ha : a = 0 <;> by_cases hb : b = 0 <;> by_cases hc : c = 0 <;> simp [ha, hb, hc]
  · by_cases h6 : k = 6
    · subst h6
      by_cases ha : Half a <;> by_cases hb : Half b <;> by_cases hc : Half c <;> simp [ha, hb, hc]
    · simp [h4, h6]

theorem isLong (n : Int) : impl_isLong.f n = some (decide (Half n)) := by
  unfold impl_isLong.f impl_within.f Half
  by_cases h : n ≥ 0
  · rw [if_pos h]
    simp [h]
  · rw [if_neg h]
    simp [h]
theorem implAddrOk (k a b c d : Int) : impl_AddrOk.f k a b c d = some (decide (AddrOK k a b c d)) := by
  unfold impl_AddrOk.f
  simp only [isLong, Option.bind_some]
  unfold AddrOK
  by_cases h4 : k = 4
  · subst h4
    by_cases ha : a = 0 <;> by_cases hb : b = 0 <;> by_cases hc : c = 0 <;> simp [ha, hb, hc]
  · by_cases h6 : k = 6
    · subst h6
      by_cases ha : Half a <;> by_cases hb : Half b <;> by_cases hc : Half c <;> simp [ha, hb, hc]
    · simp [h4, h6]

theorem isByte (n : Int) : impl_isByte.f n = some (decide (0 ≤ n ∧ n ≤ 255)) := by
  unfold impl_isByte.f impl_within.f
  by_cases h : n ≥ 0
  · rw [if_pos h]
    simp [h]
  · rw [if_neg h]
    simp [h]

theorem specIn (n m : Int) : spec_l05In.f n m = some (decide (0 ≤ n ∧ n ≤ m)) := by
  unfold spec_l05In.f
  by_cases h : n ≥ 0
  · rw [if_pos h]
    simp [h]
  · rw [if_neg h]
    simp [h]

theorem isWord (n : Int) : impl_isWord.f n = some (decide (0 ≤ n ∧ n ≤ 65535)) := by
  unfold impl_isWord.f impl_within.f
  by_cases h : n ≥ 0
  · rw [if_pos h]
    simp [h]
  · rw [if_neg h]
    simp [h]

theorem areWords_l (xs : List Int) (hn : xs.length ≤ 140737488355328) (d : Nat) : ∀ (k : Nat) (i : Int), 0 ≤ i → i + d = xs.length → d < k → impl_areWords.l0 k xs xs.length i = some (decide (∀ x ∈ xs.drop i.toNat, 0 ≤ x ∧ x ≤ 65535)) := by
  induction d with
  | zero =>
    intro k i h0 hi hk
    obtain ⟨k, rfl⟩ := pos_k hk
    simp only [impl_areWords.l0]
    rw [if_neg (by omega), List.drop_eq_nil_of_le (by omega)]
    simp
  | succ d ih =>
    intro k i h0 hi hk
    obtain ⟨k, rfl⟩ := pos_k hk
    simp only [impl_areWords.l0]
    rw [if_pos (by omega), if_pos (by omega), if_pos (by omega), isWord, drop_rd h0 (by omega)]
    simp only [Option.bind_some]
    rw [w64 (by omega) (by omega), ih k (i + 1) (by omega) (by omega) (by omega)]
    by_cases h : 0 ≤ rd xs i ∧ rd xs i ≤ 65535
    · rw [decide_eq_true h, if_pos (by first | rfl | trivial)]
      simp [h]
    · rw [decide_eq_false h, if_neg Bool.false_ne_true]
      have : ¬ ∀ x ∈ rd xs i :: xs.drop (i + 1).toNat, 0 ≤ x ∧ x ≤ 65535 := fun hh => h (hh _ (by simp))
      rw [decide_eq_false this]
theorem areWords {xs : List Int} (hn : xs.length ≤ 140737488355328) {k : Nat} (hk : xs.length < k) : impl_areWords.f k xs = some (decide (∀ x ∈ xs, 0 ≤ x ∧ x ≤ 65535)) := by
  unfold impl_areWords.f
  rw [areWords_l xs hn xs.length k 0 (by omega) (by omega) hk]
  rfl

theorem areWords2 {a b : Int} {k : Nat} (hk : 10 ≤ k) : impl_areWords.f k [a, b] = some (inB a 0 65535 && inB b 0 65535) := by
  rw [areWords (by simp) (by simp; omega)]
  congr 1
  unfold inB
  rw [Bool.eq_iff_iff]
  simp

theorem specPair (k a b c d k' a' b' c' d' : Int) : spec_l07Pair.f k a b c d k' a' b' c' d' = some (pairB k a b c d k' a' b' c' d') := by
  unfold spec_l07Pair.f pairB
  rw [specAddrOk, specAddrOk]
  simp only [Option.bind_some]
  generalize decide (AddrOK k a b c d) = p
  generalize decide (AddrOK k' a' b' c' d') = q
  cases p <;> cases q <;> rfl

theorem areBoth (k a b c d k' a' b' c' d' : Int) : impl_areBoth.f k a b c d k' a' b' c' d' = some (pairB k a b c d k' a' b' c' d') := by
  unfold impl_areBoth.f pairB
  rw [implAddrOk, implAddrOk]
  simp only [Option.bind_some]
  generalize decide (AddrOK k a b c d) = p
  generalize decide (AddrOK k' a' b' c' d') = q
  cases p <;> cases q <;> rfl

def keyB (k a b c d k' a' b' c' d' p s t : Int) : Bool := pairB k a b c d k' a' b' c' d' && (inB p 0 255 && (inB s 0 65535 && inB t 0 65535))
theorem specKeyOk (k a b c d k' a' b' c' d' p s t : Int) : spec_KeyOk.f k a b c d k' a' b' c' d' p s t = some (keyB k a b c d k' a' b' c' d' p s t) := by
  unfold spec_KeyOk.f keyB
  rw [specPair, specIn, specIn, specIn]
  simp only [Option.bind_some]
  unfold inB
  generalize pairB k a b c d k' a' b' c' d' = x
  generalize decide (0 ≤ p ∧ p ≤ 255) = y
  generalize decide (0 ≤ s ∧ s ≤ 65535) = z
  generalize decide (0 ≤ t ∧ t ≤ 65535) = w
  cases x <;> cases y <;> cases z <;> cases w <;> rfl
theorem implKeyOk {n : Nat} (hn : 10 ≤ n) (k a b c d k' a' b' c' d' p s t : Int) : impl_KeyOk.f n k a b c d k' a' b' c' d' p s t = some (keyB k a b c d k' a' b' c' d' p s t) := by
  unfold impl_KeyOk.f keyB
  rw [areBoth, isByte, areWords2 hn]
  simp only [Option.bind_some]
  unfold inB
  generalize pairB k a b c d k' a' b' c' d' = x
  generalize decide (0 ≤ p ∧ p ≤ 255) = y
  generalize decide (0 ≤ s ∧ s ≤ 65535) = z
  generalize decide (0 ≤ t ∧ t ≤ 65535) = w
  cases x <;> cases y <;> cases z <;> cases w <;> rfl

theorem eqKey (a0 a1 a2 a3 a4 a5 a6 a7 a8 a9 a10 a11 a12 : Int) : laws_eqKey.f a0 a1 a2 a3 a4 a5 a6 a7 a8 a9 a10 a11 a12 a0 a1 a2 a3 a4 a5 a6 a7 a8 a9 a10 a11 a12 = some true := by
  unfold laws_eqKey.f
  simp only [eqAddr, Option.bind_some, if_true]
end ExactTurned
open ExactTurned

theorem FnExactTurned : laws_FnExactTurned.Pure := by
  intro a0 a1 a2 a3 a4 a5 a6 a7 a8 a9 a10 a11 a12 _ _ _ _ _ _ _ _ _ _ _ _ _
  refine ⟨10, ?_⟩
  unfold laws_FnExactTurned.f laws_toKey.f spec_Turned.f impl_Turned.f
  simp only [toAddr, Option.bind_some, specKeyOk, implKeyOk (Nat.le_refl 10)]
  cases keyB a0 a1 a2 a3 a4 a5 a6 a7 a8 a9 a10 a11 a12
  · simp only [Bool.false_eq_true, if_false, Option.bind_some, eqKey, if_true]
  · simp only [if_true, Option.bind_some, eqKey]

end Go.Proofs.Ytnpfhfckkjkifaa.Pure
