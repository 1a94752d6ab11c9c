/- The program's SumSwaps returns what the reference's returns, for all arguments. No condition. -/
import Derived.Test.YtnpfhfckkjkifaaFFnExactSumSwapsx
import Derived.Test.YtnpfhfckkjkifaaBase
namespace Go.Proofs.Ytnpfhfckkjkifaa.Pure
open Go.RowKit Go.Proofs.Ytnpfhfckkjkifaa.FFnExactSumSwaps Go.Proofs.YtnpfhfckkjkifaaW.PrintWords Go.Proofs.YtnpfhfckkjkifaaW.PrintLast Go.Proofs.YtnpfhfckkjkifaaW.PrintMore Go.Proofs.Ytnpfhfckkjkifaa.Base

set_option linter.unusedVariables false
set_option linter.unusedSimpArgs false
namespace ExactSumSwaps
theorem toIntS_l (xs : List Int) (hn : xs.length ≤ 17592186044416) (d : Nat) : ∀ (k : Nat) (ys : List Int) (i : Int), 0 ≤ i → i + d = xs.length → d < k → ys.length = xs.length → (∀ j : Nat, (j : Int) < i → ys[j]? = xs[j]?) → laws_toIntS.l0 k xs ys i = some xs := by
  induction d with
  | zero =>
    intro k ys i h0 hi hk hl hj
    obtain ⟨k, rfl⟩ := pos_k hk
    simp only [laws_toIntS.l0]
    rw [if_neg (by omega)]
    congr 1
    apply List.ext_getElem?
    intro j
    by_cases h : (j : Int) < i
    · exact hj j h
    · rw [List.getElem?_eq_none (by omega), List.getElem?_eq_none (by omega)]
  | succ d ih =>
    intro k ys i h0 hi hk hl hj
    obtain ⟨k, rfl⟩ := pos_k hk
    simp only [laws_toIntS.l0]
    rw [if_pos (by omega), if_pos (by omega), if_pos (by omega), w64 (by omega) (by omega)]
    refine ih k _ (i + 1) (by omega) (by omega) (by omega) (by rw [List.length_set]; omega) ?_
    intro j hj'
    by_cases h : (j : Int) = i
    · have e : i.toNat = j := by omega
      rw [e, List.getElem?_set_self (by omega), ← h, ← rd_get? (by omega) (by omega)]
      rfl
    · rw [List.getElem?_set_ne (by omega)]
      exact hj j (by omega)
theorem toIntS {xs : List Int} (hn : xs.length ≤ 17592186044416) {k : Nat} (hk : xs.length < k) : laws_toIntS.f k xs = some xs := by
  unfold laws_toIntS.f
  rw [if_pos (by omega), if_pos (by omega)]
  exact toIntS_l xs hn xs.length k _ 0 (by omega) (by omega) hk (by simp) (fun j hj => by omega)

theorem eqIntS_l (xs : List Int) (hn : xs.length ≤ 140737488355328) (d : Nat) : ∀ (k : Nat) (i : Int), 0 ≤ i → i + d = xs.length → d < k → laws_eqIntS.l0 k xs xs i = some true := by
  induction d with
  | zero =>
    intro k i h0 hi hk
    obtain ⟨k, rfl⟩ := pos_k hk
    simp only [laws_eqIntS.l0]
    rw [if_neg (by omega)]
  | succ d ih =>
    intro k i h0 hi hk
    obtain ⟨k, rfl⟩ := pos_k hk
    simp only [laws_eqIntS.l0]
    rw [if_pos (by omega), if_pos (by omega), if_pos (by omega), if_pos (by first | rfl | trivial), w64 (by omega) (by omega)]
    exact ih k (i + 1) (by omega) (by omega) (by omega)
theorem eqIntS {xs : List Int} (hn : xs.length ≤ 140737488355328) {k : Nat} (hk : xs.length < k) : laws_eqIntS.f k xs xs = some true := by
  unfold laws_eqIntS.f
  rw [if_pos rfl]
  exact eqIntS_l xs hn xs.length k 0 (by omega) (by omega) hk

theorem isWord (n : Int) : impl_isWord.f n = some (decide (0 ≤ n ∧ n ≤ 65535)) := by
  unfold impl_isWord.f impl_within.f
  by_cases h : n ≥ 0
  · rw [if_pos h]
    simp [h]
  · rw [if_neg h]
    simp [h]

theorem areWords_l (xs : List Int) (hn : xs.length ≤ 140737488355328) (d : Nat) : ∀ (k : Nat) (i : Int), 0 ≤ i → i + d = xs.length → d < k → impl_areWords.l0 k xs xs.length i = some (decide (∀ x ∈ xs.drop i.toNat, 0 ≤ x ∧ x ≤ 65535)) := by
  induction d with
  | zero =>
    intro k i h0 hi hk
    obtain ⟨k, rfl⟩ := pos_k hk
    simp only [impl_areWords.l0]
    rw [if_neg (by omega), List.drop_eq_nil_of_le (by omega)]
    simp
  | succ d ih =>
    intro k i h0 hi hk
    obtain ⟨k, rfl⟩ := pos_k hk
    simp only [impl_areWords.l0]
    rw [if_pos (by omega), if_pos (by omega), if_pos (by omega), isWord, drop_rd h0 (by omega)]
    simp only [Option.bind_some]
    rw [w64 (by omega) (by omega), ih k (i + 1) (by omega) (by omega) (by omega)]
    by_cases h : 0 ≤ rd xs i ∧ rd xs i ≤ 65535
    · rw [decide_eq_true h, if_pos (by first | rfl | trivial)]
      simp [h]
    · rw [decide_eq_false h, if_neg Bool.false_ne_true]
      have : ¬ ∀ x ∈ rd xs i :: xs.drop (i + 1).toNat, 0 ≤ x ∧ x ≤ 65535 := fun hh => h (hh _ (by simp))
      rw [decide_eq_false this]
theorem areWords {xs : List Int} (hn : xs.length ≤ 140737488355328) {k : Nat} (hk : xs.length < k) : impl_areWords.f k xs = some (decide (∀ x ∈ xs, 0 ≤ x ∧ x ≤ 65535)) := by
  unfold impl_areWords.f
  rw [areWords_l xs hn xs.length k 0 (by omega) (by omega) hk]
  rfl

theorem implSum {a b : Int} (h0 : 0 ≤ a) (h1 : a ≤ 65535) (h2 : 0 ≤ b) (h3 : b ≤ 65535) : impl_sum.f a b = some (osum a b) := by
  unfold impl_sum.f osum
  rw [w64 (n := a + b) (by omega) (by omega), w64 (by omega) (by omega)]
  split <;> rfl

theorem implSwap {a b c : Int} (ha : 0 ≤ a ∧ a ≤ 65535) (hb : 0 ≤ b ∧ b ≤ 65535) (hc : 0 ≤ c ∧ c ≤ 65535) : impl_swap.f a b c = some (65535 - osum (osum (65535 - a) (65535 - b)) c) := by
  have h1 := osum_word (a := 65535 - a) (b := 65535 - b) (by omega) (by omega) (by omega) (by omega)
  have h2 := osum_word h1.1 h1.2 hc.1 hc.2
  unfold impl_swap.f
  rw [w64 (n := 65535 - a) (by omega) (by omega), w64 (n := 65535 - b) (by omega) (by omega), implSum (by omega) (by omega) (by omega) (by omega)]
  simp only [Option.bind_some]
  rw [implSum h1.1 h1.2 hc.1 hc.2]
  simp only [Option.bind_some]
  rw [w64 (by omega) (by omega)]

theorem specWord (n : Int) : spec_l02Word.f n = some (decide (0 ≤ n ∧ n ≤ 65535)) := by
  unfold spec_l02Word.f
  by_cases h : n ≥ 0
  · rw [if_pos h]
    simp [h]
  · rw [if_neg h]
    simp [h]
theorem specSumAdd_j {k : Nat} (hk : 0 < k) (a b : Int) : spec_SumAdd.j0 k a b true = some (-1) := by
  obtain ⟨k, rfl⟩ := pos_k hk
  simp only [spec_SumAdd.j0]
  rw [if_pos (by first | rfl | trivial)]
theorem specSumAdd {a b : Int} {k : Nat} (hk : 0 < k) : spec_SumAdd.f k a b = some (if (0 ≤ a ∧ a ≤ 65535) ∧ (0 ≤ b ∧ b ≤ 65535) then osum a b else -1) := by
  unfold spec_SumAdd.f
  rw [specWord, specWord]
  simp only [Option.bind_some]
  by_cases h : 0 ≤ a ∧ a ≤ 65535
  · by_cases h' : 0 ≤ b ∧ b ≤ 65535
    · rw [decide_eq_true h, decide_eq_true h', if_pos (by first | rfl | trivial), if_pos ⟨h, h'⟩]
      obtain ⟨k, rfl⟩ := pos_k hk
      simp only [spec_SumAdd.j0]
      unfold osum
      rw [if_neg (by decide), w64 (n := a + b) (by omega) (by omega), w64 (by omega) (by omega)]
      split <;> rfl
    · rw [decide_eq_true h, decide_eq_false h', if_pos (by first | rfl | trivial), if_neg (fun hh => h' hh.2)]
      exact specSumAdd_j hk a b
  · rw [decide_eq_false h, if_neg Bool.false_ne_true, if_neg (fun hh => h hh.1)]
    exact specSumAdd_j hk a b

theorem specSumSwap_j {k : Nat} (hk : 0 < k) (a b c : Int) : spec_SumSwap.j0 k a b c true = some (-1) := by
  obtain ⟨k, rfl⟩ := pos_k hk
  simp only [spec_SumSwap.j0]
  rw [if_pos (by first | rfl | trivial)]
theorem specSumSwap {a b c : Int} {k : Nat} (hk : 10 ≤ k) : spec_SumSwap.f k a b c = some (if (0 ≤ a ∧ a ≤ 65535) ∧ (0 ≤ b ∧ b ≤ 65535) ∧ (0 ≤ c ∧ c ≤ 65535) then 65535 - osum (osum (65535 - a) (65535 - b)) c else -1) := by
  unfold spec_SumSwap.f
  rw [specWord, specWord, specWord]
  simp only [Option.bind_some]
  by_cases h : 0 ≤ a ∧ a ≤ 65535
  · by_cases h' : 0 ≤ b ∧ b ≤ 65535
    · by_cases h'' : 0 ≤ c ∧ c ≤ 65535
      · rw [decide_eq_true h, decide_eq_true h', decide_eq_true h'', if_pos (by first | rfl | trivial), if_pos (by first | rfl | trivial), if_pos ⟨h, h', h''⟩]
        obtain ⟨k, rfl⟩ : ∃ m, k = m + 2 := ⟨k - 2, by omega⟩
        have h1 := osum_word (a := 65535 - a) (b := 65535 - b) (by omega) (by omega) (by omega) (by omega)
        have h2 := osum_word h1.1 h1.2 h''.1 h''.2
        simp only [spec_SumSwap.j0]
        rw [if_neg (by decide), w64 (n := 65535 - a) (by omega) (by omega), w64 (n := 65535 - b) (by omega) (by omega), specSumAdd (by omega), if_pos ⟨by omega, by omega⟩]
        simp only [Option.bind_some]
        rw [specSumAdd (by omega), if_pos ⟨h1, h''⟩]
        simp only [Option.bind_some]
        rw [w64 (by omega) (by omega)]
      · rw [decide_eq_true h, decide_eq_true h', decide_eq_false h'', if_pos (by first | rfl | trivial), if_pos (by first | rfl | trivial), if_neg (fun hh => h'' hh.2.2)]
        exact specSumSwap_j (by omega) a b c
    · rw [decide_eq_true h, decide_eq_false h', if_pos (by first | rfl | trivial), if_neg Bool.false_ne_true, if_neg (fun hh => h' hh.2.1)]
      exact specSumSwap_j (by omega) a b c
  · rw [decide_eq_false h, if_neg Bool.false_ne_true, if_neg (fun hh => h hh.1)]
    exact specSumSwap_j (by omega) a b c

def Words (xs : List Int) : Prop := ∀ x ∈ xs, 0 ≤ x ∧ x ≤ 65535
instance (xs : List Int) : Decidable (Words xs) := by unfold Words; infer_instance
def swaps : List Int → List Int → Int → Int
  | a :: ps, b :: qs, s => swaps ps qs (65535 - osum (osum (65535 - s) (65535 - a)) b)
  | _, _, s => s
theorem swap_word {s a b : Int} (hs : 0 ≤ s ∧ s ≤ 65535) (ha : 0 ≤ a ∧ a ≤ 65535) (hb : 0 ≤ b ∧ b ≤ 65535) : 0 ≤ 65535 - osum (osum (65535 - s) (65535 - a)) b ∧ 65535 - osum (osum (65535 - s) (65535 - a)) b ≤ 65535 := by
  have h1 := osum_word (a := 65535 - s) (b := 65535 - a) (by omega) (by omega) (by omega) (by omega)
  have h2 := osum_word h1.1 h1.2 hb.1 hb.2
  omega
theorem Words.at_ {xs : List Int} (h : Words xs) {i : Int} (h0 : 0 ≤ i) (hi : i < xs.length) : 0 ≤ rd xs i ∧ rd xs i ≤ 65535 := h _ (rd_mem h0 hi)
theorem spec_l1 (xs ys : List Int) (hl : xs.length = ys.length) (hn : xs.length ≤ 40) (hx : Words xs) (hy : Words ys) (d : Nat) : ∀ (k : Nat) (s i : Int), 0 ≤ i → i + d = xs.length → d + 10 < k → 0 ≤ s ∧ s ≤ 65535 → spec_SumSwaps.l1 k s xs ys i = some (swaps (xs.drop i.toNat) (ys.drop i.toNat) s) := by
  induction d with
  | zero =>
    intro k s i h0 hi hk hs
    obtain ⟨k, rfl⟩ := pos_k hk
    simp only [spec_SumSwaps.l1]
    rw [if_neg (by omega), List.drop_eq_nil_of_le (by omega), List.drop_eq_nil_of_le (by omega)]
    rfl
  | succ d ih =>
    intro k s i h0 hi hk hs
    obtain ⟨k, rfl⟩ := pos_k hk
    have ha := hx.at_ h0 (by omega)
    have hb := hy.at_ h0 (by omega)
    simp only [spec_SumSwaps.l1]
    rw [if_pos (by omega), if_pos h0, if_pos (by omega), specSumSwap (by omega), if_pos ⟨hs, ha, hb⟩]
    simp only [Option.bind_some]
    rw [w64 (by omega) (by omega), ih k _ (i + 1) (by omega) (by omega) (by omega) (swap_word hs ha hb), drop_rd h0 (by omega), drop_rd (xs := ys) h0 (by omega)]
    rfl
theorem spec_l0 (xs ys : List Int) (hl : xs.length = ys.length) (hn : xs.length ≤ 40) (s : Int) (hs : 0 ≤ s ∧ s ≤ 65535) (d : Nat) : ∀ (k : Nat) (i : Int), 0 ≤ i → i + d = xs.length → d + 60 < k → (∀ j : Int, 0 ≤ j → j < i → (0 ≤ rd xs j ∧ rd xs j ≤ 65535) ∧ (0 ≤ rd ys j ∧ rd ys j ≤ 65535)) → spec_SumSwaps.l0 k s xs ys i = some (if Words xs ∧ Words ys then swaps xs ys s else -1) := by
  induction d with
  | zero =>
    intro k i h0 hi hk hw
    obtain ⟨k, rfl⟩ := pos_k hk
    have hx : Words xs := fun x hx => by
      obtain ⟨n, hn, rfl⟩ := List.mem_iff_getElem.1 hx
      have := (hw n (by omega) (by omega)).1
      rwa [rd_getD, List.getD_eq_getElem?_getD, List.getElem?_eq_getElem hn] at this
    have hy : Words ys := fun x hx => by
      obtain ⟨n, hn, rfl⟩ := List.mem_iff_getElem.1 hx
      have := (hw n (by omega) (by omega)).2
      rwa [rd_getD, List.getD_eq_getElem?_getD, List.getElem?_eq_getElem hn] at this
    simp only [spec_SumSwaps.l0]
    rw [if_neg (by omega), if_pos ⟨hx, hy⟩, spec_l1 xs ys hl hn hx hy xs.length k s 0 (by omega) (by omega) (by omega) hs]
    rfl
  | succ d ih =>
    intro k i h0 hi hk hw
    obtain ⟨k, rfl⟩ := pos_k hk
    simp only [spec_SumSwaps.l0]
    rw [if_pos (by omega), if_pos h0, specWord]
    simp only [Option.bind_some]
    by_cases ha : 0 ≤ rd xs i ∧ rd xs i ≤ 65535
    · rw [decide_eq_true ha, if_pos rfl, if_pos (by omega), specWord]
      simp only [Option.bind_some]
      by_cases hb : 0 ≤ rd ys i ∧ rd ys i ≤ 65535
      · rw [decide_eq_true hb, if_pos rfl, w64 (by omega) (by omega)]
        refine ih k (i + 1) (by omega) (by omega) (by omega) (fun j hj hj' => ?_)
        by_cases e : j = i
        · subst e
          exact ⟨ha, hb⟩
        · exact hw j hj (by omega)
      · rw [decide_eq_false hb, if_neg Bool.false_ne_true, if_neg (fun hh => hb (hh.2.at_ h0 (by omega)))]
    · rw [decide_eq_false ha, if_neg Bool.false_ne_true, if_neg (fun hh => ha (hh.1.at_ h0 (by omega)))]
def swapsAll (s : Int) (xs ys : List Int) : Int := if xs.length = ys.length ∧ xs.length ≤ 40 ∧ (0 ≤ s ∧ s ≤ 65535) ∧ Words xs ∧ Words ys then swaps xs ys s else -1
theorem specSwaps_j {k : Nat} (hk : 0 < k) (s : Int) (xs ys : List Int) : spec_SumSwaps.j0 k s xs ys true = some (-1) := by
  obtain ⟨k, rfl⟩ := pos_k hk
  simp only [spec_SumSwaps.j0]
  rw [if_pos (by first | rfl | trivial)]
theorem specSumSwaps {s : Int} {xs ys : List Int} {k : Nat} (hk : xs.length + 100 < k) : spec_SumSwaps.f k s xs ys = some (swapsAll s xs ys) := by
  unfold spec_SumSwaps.f swapsAll
  by_cases hl : xs.length = ys.length
  · rw [if_pos (by omega)]
    by_cases hn : xs.length ≤ 40
    · rw [if_neg (by omega), specWord]
      simp only [Option.bind_some]
      by_cases hs : 0 ≤ s ∧ s ≤ 65535
      · obtain ⟨k, rfl⟩ : ∃ m, k = m + 1 := ⟨k - 1, by omega⟩
        rw [decide_eq_true hs]
        simp only [spec_SumSwaps.j0, Bool.not_true]
        rw [if_neg Bool.false_ne_true, spec_l0 xs ys hl hn s hs xs.length k 0 (by omega) (by omega) (by omega) (fun j h h' => by omega)]
        simp only [hl, hs, true_and, and_self]
        rw [hl] at hn
        simp only [hn, true_and]
      · rw [decide_eq_false hs, if_neg (fun hh => hs hh.2.2.1)]
        exact specSwaps_j (by omega) s xs ys
    · rw [if_pos (by omega), if_neg (fun hh => hn hh.2.1)]
      exact specSwaps_j (by omega) s xs ys
  · rw [if_neg (by omega), if_neg (fun hh => hl hh.1)]
    exact specSwaps_j (by omega) s xs ys
theorem impl_l0 (xs ys : List Int) (hl : xs.length = ys.length) (hn : xs.length ≤ 40) (hx : Words xs) (hy : Words ys) (d : Nat) : ∀ (k : Nat) (s i : Int), 0 ≤ i → i + d = xs.length → d + 10 < k → 0 ≤ s ∧ s ≤ 65535 → impl_SumSwaps.l0 k s ys xs xs.length i = some (swaps (xs.drop i.toNat) (ys.drop i.toNat) s) := by
  induction d with
  | zero =>
    intro k s i h0 hi hk hs
    obtain ⟨k, rfl⟩ := pos_k hk
    simp only [impl_SumSwaps.l0]
    rw [if_neg (by omega), List.drop_eq_nil_of_le (by omega), List.drop_eq_nil_of_le (by omega)]
    rfl
  | succ d ih =>
    intro k s i h0 hi hk hs
    obtain ⟨k, rfl⟩ := pos_k hk
    have ha := hx.at_ h0 (by omega)
    have hb := hy.at_ h0 (by omega)
    simp only [impl_SumSwaps.l0]
    rw [if_pos (by omega), if_pos h0, if_pos (by omega), if_pos (by omega), implSwap hs ha hb]
    simp only [Option.bind_some]
    rw [w64 (by omega) (by omega), ih k _ (i + 1) (by omega) (by omega) (by omega) (swap_word hs ha hb), drop_rd h0 (by omega), drop_rd (xs := ys) h0 (by omega)]
    rfl
theorem implSwaps_j {k : Nat} (hk : 0 < k) (s : Int) (xs ys : List Int) : impl_SumSwaps.j0 k s xs ys true = some (-1) := by
  obtain ⟨k, rfl⟩ := pos_k hk
  simp only [impl_SumSwaps.j0]
  rw [if_pos (by first | rfl | trivial)]
theorem implSumSwaps {s : Int} {xs ys : List Int} {k : Nat} (hk : xs.length + 100 < k) : impl_SumSwaps.f k s xs ys = some (swapsAll s xs ys) := by
  unfold impl_SumSwaps.f swapsAll
  by_cases hl : xs.length = ys.length
  · rw [if_pos (by omega)]
    by_cases hn : xs.length ≤ 40
    · rw [if_neg (by omega), isWord]
      simp only [Option.bind_some]
      by_cases hs : 0 ≤ s ∧ s ≤ 65535
      · rw [decide_eq_true hs, if_pos rfl, areWords (xs := xs) (by omega) (by omega)]
        simp only [Option.bind_some]
        by_cases hx : Words xs
        · rw [decide_eq_true (show ∀ x ∈ xs, 0 ≤ x ∧ x ≤ 65535 from hx), if_pos rfl, areWords (xs := ys) (by omega) (by omega)]
          simp only [Option.bind_some]
          by_cases hy : Words ys
          · obtain ⟨k, rfl⟩ : ∃ m, k = m + 1 := ⟨k - 1, by omega⟩
            rw [decide_eq_true (show ∀ x ∈ ys, 0 ≤ x ∧ x ≤ 65535 from hy), if_pos ⟨hl, hn, hs, hx, hy⟩]
            simp only [impl_SumSwaps.j0, Bool.not_true]
            rw [if_neg Bool.false_ne_true, impl_l0 xs ys hl hn hx hy xs.length k s 0 (by omega) (by omega) (by omega) hs]
            rfl
          · rw [decide_eq_false (show ¬ ∀ x ∈ ys, 0 ≤ x ∧ x ≤ 65535 from hy), if_neg (fun hh => hy hh.2.2.2.2)]
            exact implSwaps_j (by omega) s xs ys
        · rw [decide_eq_false (show ¬ ∀ x ∈ xs, 0 ≤ x ∧ x ≤ 65535 from hx), if_neg Bool.false_ne_true, if_neg (fun hh => hx hh.2.2.2.1)]
          exact implSwaps_j (by omega) s xs ys
      · rw [decide_eq_false hs, if_neg Bool.false_ne_true, if_neg (fun hh => hs hh.2.2.1)]
        exact implSwaps_j (by omega) s xs ys
    · rw [if_pos (by omega), if_neg (fun hh => hn hh.2.1)]
      exact implSwaps_j (by omega) s xs ys
  · rw [if_neg (by omega), if_neg (fun hh => hl hh.1)]
    exact implSwaps_j (by omega) s xs ys
end ExactSumSwaps
open ExactSumSwaps

theorem FnExactSumSwaps : laws_FnExactSumSwaps.Pure := by
  intro a0 l1 l2 _ _ h1 _ _ h2 _
  refine ⟨l1.length + l2.length + 200, ?_⟩
  unfold laws_FnExactSumSwaps.f
  by_cases h : (l1.length : Int) > 1048576
  · rw [if_pos h]
  · rw [if_neg h]
    by_cases h' : (l2.length : Int) > 1048576
    · rw [if_pos h']
    · rw [if_neg h']
      have e1 := toIntS (xs := l1) (by omega) (show l1.length < l1.length + l2.length + 200 by omega)
      have e2 := toIntS (xs := l2) (by omega) (show l2.length < l1.length + l2.length + 200 by omega)
      have e3 := eqIntS (xs := l1) (by omega) (show l1.length < l1.length + l2.length + 200 by omega)
      have e4 := eqIntS (xs := l2) (by omega) (show l2.length < l1.length + l2.length + 200 by omega)
      have e5 := specSumSwaps (s := a0) (xs := l1) (ys := l2) (show l1.length + 100 < l1.length + l2.length + 200 by omega)
      have e6 := implSumSwaps (s := a0) (xs := l1) (ys := l2) (show l1.length + 100 < l1.length + l2.length + 200 by omega)
      simp only [e1, e2, e3, e4, e5, e6, Option.bind_some, if_true]

end Go.Proofs.Ytnpfhfckkjkifaa.Pure
