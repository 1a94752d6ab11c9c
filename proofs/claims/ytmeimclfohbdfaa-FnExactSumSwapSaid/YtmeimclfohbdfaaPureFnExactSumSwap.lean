/- The program's SumSwap returns what the reference's returns, for all arguments. No condition. -/
import Derived.Test.YtmeimclfohbdfaaFFnExactSumSwapx
import Derived.Test.YtmeimclfohbdfaaBase
namespace Go.Proofs.Ytmeimclfohbdfaa.Pure
open Go.RowKit Go.Proofs.Ytmeimclfohbdfaa.FFnExactSumSwap Go.Proofs.YtmeimclfohbdfaaW.PrintWords Go.Proofs.YtmeimclfohbdfaaW.PrintLast Go.Proofs.YtmeimclfohbdfaaW.PrintMore Go.Proofs.Ytmeimclfohbdfaa.Base

namespace ExactSumSwap
theorem isWord (n : Int) : impl_isWord.f n = some (decide (0 ≤ n ∧ n ≤ 65535)) := by
  unfold impl_isWord.f impl_within.f
  by_cases h : n ≥ 0
  · rw [if_pos h]
    simp [h]
  · rw [if_neg h]
    simp [h]

theorem areWords_l (xs : List Int) (hn : xs.length ≤ 140737488355328) (d : Nat) : ∀ (k : Nat) (i : Int), 0 ≤ i → i + d = xs.length → d < k → impl_areWords.l0 k xs xs.length i = some (decide (∀ x ∈ xs.drop i.toNat, 0 ≤ x ∧ x ≤ 65535)) := by
  induction d with
  | zero =>
    intro k i h0 hi hk
    obtain ⟨k, rfl⟩ := pos_k hk
    simp only [impl_areWords.l0]
    rw [if_neg (by omega), List.drop_eq_nil_of_le (by omega)]
    simp
  | succ d ih =>
    intro k i h0 hi hk
    obtain ⟨k, rfl⟩ := pos_k hk
    simp only [impl_areWords.l0]
    rw [if_pos (by omega), if_pos (by omega), if_pos (by omega), isWord, drop_rd h0 (by omega)]
    simp only [Option.bind_some]
    rw [w64 (by omega) (by omega), ih k (i + 1) (by omega) (by omega) (by omega)]
    by_cases h : 0 ≤ rd xs i ∧ rd xs i ≤ 65535
    · rw [decide_eq_true h, if_pos (by first | rfl | trivial)]
      simp [h]
    · rw [decide_eq_false h, if_neg Bool.false_ne_true]
      have : ¬ ∀ x ∈ rd xs i :: xs.drop (i + 1).toNat, 0 ≤ x ∧ x ≤ 65535 := fun hh => h (hh _ (by simp))
      rw [decide_eq_false this]
theorem areWords {xs : List Int} (hn : xs.length ≤ 140737488355328) {k : Nat} (hk : xs.length < k) : impl_areWords.f k xs = some (decide (∀ x ∈ xs, 0 ≤ x ∧ x ≤ 65535)) := by
  unfold impl_areWords.f
  rw [areWords_l xs hn xs.length k 0 (by omega) (by omega) hk]
  rfl

theorem implSum {a b : Int} (h0 : 0 ≤ a) (h1 : a ≤ 65535) (h2 : 0 ≤ b) (h3 : b ≤ 65535) : impl_sum.f a b = some (osum a b) := by
  unfold impl_sum.f osum
  rw [w64 (n := a + b) (by omega) (by omega), w64 (by omega) (by omega)]
  split <;> rfl

theorem implSwap {a b c : Int} (ha : 0 ≤ a ∧ a ≤ 65535) (hb : 0 ≤ b ∧ b ≤ 65535) (hc : 0 ≤ c ∧ c ≤ 65535) : impl_swap.f a b c = some (65535 - osum (osum (65535 - a) (65535 - b)) c) := by
  have h1 := osum_word (a := 65535 - a) (b := 65535 - b) (by omega) (by omega) (by omega) (by omega)
  have h2 := osum_word h1.1 h1.2 hc.1 hc.2
  unfold impl_swap.f
  rw [w64 (n := 65535 - a) (by omega) (by omega), w64 (n := 65535 - b) (by omega) (by omega), implSum (by omega) (by omega) (by omega) (by omega)]
  simp only [Option.bind_some]
  rw [implSum h1.1 h1.2 hc.1 hc.2]
  simp only [Option.bind_some]
  rw [w64 (by omega) (by omega)]

theorem specWord (n : Int) : spec_l02Word.f n = some (decide (0 ≤ n ∧ n ≤ 65535)) := by
  unfold spec_l02Word.f
  by_cases h : n ≥ 0
  · rw [if_pos h]
    simp [h]
  · rw [if_neg h]
    simp [h]
theorem specSumAdd_j {k : Nat} (hk : 0 < k) (a b : Int) : spec_SumAdd.j0 k a b true = some (-1) := by
  obtain ⟨k, rfl⟩ := pos_k hk
  simp only [spec_SumAdd.j0]
  rw [if_pos (by first | rfl | trivial)]
theorem specSumAdd {a b : Int} {k : Nat} (hk : 0 < k) : spec_SumAdd.f k a b = some (if (0 ≤ a ∧ a ≤ 65535) ∧ (0 ≤ b ∧ b ≤ 65535) then osum a b else -1) := by
  unfold spec_SumAdd.f
  rw [specWord, specWord]
  simp only [Option.bind_some]
  by_cases h : 0 ≤ a ∧ a ≤ 65535
  · by_cases h' : 0 ≤ b ∧ b ≤ 65535
    · rw [decide_eq_true h, decide_eq_true h', if_pos (by first | rfl | trivial), if_pos ⟨h, h'⟩]
      obtain ⟨k, rfl⟩ := pos_k hk
      simp only [spec_SumAdd.j0]
      unfold osum
      rw [if_neg (by decide), w64 (n := a + b) (by omega) (by omega), w64 (by omega) (by omega)]
      split <;> rfl
    · rw [decide_eq_true h, decide_eq_false h', if_pos (by first | rfl | trivial), if_neg (fun hh => h' hh.2)]
      exact specSumAdd_j hk a b
  · rw [decide_eq_false h, if_neg Bool.false_ne_true, if_neg (fun hh => h hh.1)]
    exact specSumAdd_j hk a b

theorem specSumSwap_j {k : Nat} (hk : 0 < k) (a b c : Int) : spec_SumSwap.j0 k a b c true = some (-1) := by
  obtain ⟨k, rfl⟩ := pos_k hk
  simp only [spec_SumSwap.j0]
  rw [if_pos (by first | rfl | trivial)]
theorem specSumSwap {a b c : Int} {k : Nat} (hk : 10 ≤ k) : spec_SumSwap.f k a b c = some (if (0 ≤ a ∧ a ≤ 65535) ∧ (0 ≤ b ∧ b ≤ 65535) ∧ (0 ≤ c ∧ c ≤ 65535) then 65535 - osum (osum (65535 - a) (65535 - b)) c else -1) := by
  unfold spec_SumSwap.f
  rw [specWord, specWord, specWord]
  simp only [Option.bind_some]
  by_cases h : 0 ≤ a ∧ a ≤ 65535
  · by_cases h' : 0 ≤ b ∧ b ≤ 65535
    · by_cases h'' : 0 ≤ c ∧ c ≤ 65535
      · rw [decide_eq_true h, decide_eq_true h', decide_eq_true h'', if_pos (by first | rfl | trivial), if_pos (by first | rfl | trivial), if_pos ⟨h, h', h''⟩]
        obtain ⟨k, rfl⟩ : ∃ m, k = m + 2 := ⟨k - 2, by omega⟩
        have h1 := osum_word (a := 65535 - a) (b := 65535 - b) (by omega) (by omega) (by omega) (by omega)
        have h2 := osum_word h1.1 h1.2 h''.1 h''.2
        simp only [spec_SumSwap.j0]
        rw [if_neg (by decide), w64 (n := 65535 - a) (by omega) (by omega), w64 (n := 65535 - b) (by omega) (by omega), specSumAdd (by omega), if_pos ⟨by omega, by omega⟩]
        simp only [Option.bind_some]
        rw [specSumAdd (by omega), if_pos ⟨h1, h''⟩]
        simp only [Option.bind_some]
        rw [w64 (by omega) (by omega)]
      · rw [decide_eq_true h, decide_eq_true h', decide_eq_false h'', if_pos (by first | rfl | trivial), if_pos (by first | rfl | trivial), if_neg (fun hh => h'' hh.2.2)]
        exact specSumSwap_j (by omega) a b c
    · rw [decide_eq_true h, decide_eq_false h', if_pos (by first | rfl | trivial), if_neg Bool.false_ne_true, if_neg (fun hh => h' hh.2.1)]
      exact specSumSwap_j (by omega) a b c
  · rw [decide_eq_false h, if_neg Bool.false_ne_true, if_neg (fun hh => h hh.1)]
    exact specSumSwap_j (by omega) a b c

theorem implSumSwap {a b c : Int} {k : Nat} (hk : 10 ≤ k) : impl_SumSwap.f k a b c = some (if (0 ≤ a ∧ a ≤ 65535) ∧ (0 ≤ b ∧ b ≤ 65535) ∧ (0 ≤ c ∧ c ≤ 65535) then 65535 - osum (osum (65535 - a) (65535 - b)) c else -1) := by
  unfold impl_SumSwap.f
  rw [areWords (by simp) (by simp; omega)]
  simp only [Option.bind_some]
  by_cases h : (0 ≤ a ∧ a ≤ 65535) ∧ (0 ≤ b ∧ b ≤ 65535) ∧ (0 ≤ c ∧ c ≤ 65535)
  · rw [decide_eq_true (by simpa using h), if_pos (by first | rfl | trivial), if_pos h, implSwap h.1 h.2.1 h.2.2]
    rfl
  · rw [decide_eq_false (by simpa using h), if_neg Bool.false_ne_true, if_neg h]

end ExactSumSwap
open ExactSumSwap

theorem FnExactSumSwap : laws_FnExactSumSwap.Pure := by
  intro a0 a1 a2 _ _ _
  refine ⟨10, ?_⟩
  unfold laws_FnExactSumSwap.f
  rw [specSumSwap (by omega), implSumSwap (by omega)]
  simp only [Option.bind_some]
  rw [if_pos (by first | rfl | trivial)]

end Go.Proofs.Ytmeimclfohbdfaa.Pure
