/- The program's Checksum returns what the reference's returns, for all arguments. No condition. -/
import Derived.Test.YtnpfhfckkjkifaaFFnExactChecksumx
import Derived.Test.YtnpfhfckkjkifaaBase
namespace Go.Proofs.Ytnpfhfckkjkifaa.Pure
open Go.RowKit Go.Proofs.Ytnpfhfckkjkifaa.FFnExactChecksum Go.Proofs.YtnpfhfckkjkifaaW.PrintWords Go.Proofs.YtnpfhfckkjkifaaW.PrintLast Go.Proofs.YtnpfhfckkjkifaaW.PrintMore Go.Proofs.Ytnpfhfckkjkifaa.Base

namespace ExactChecksum
theorem toByteS_l (xs : List Int) (hn : xs.length ≤ 140737488355328) (d : Nat) : ∀ (k : Nat) (ys : List Int) (i : Int), 0 ≤ i → i + d = xs.length → d < k → ys.length = xs.length → (∀ j : Nat, (j : Int) < i → ys[j]? = xs[j]?) → laws_toByteS.l0 k xs ys i = some xs := by
  induction d with
  | zero =>
    intro k ys i h0 hi hk hl hj
    obtain ⟨k, rfl⟩ := pos_k hk
    simp only [laws_toByteS.l0]
    rw [if_neg (by omega)]
    congr 1
    apply List.ext_getElem?
    intro j
    by_cases h : (j : Int) < i
    · exact hj j h
    · rw [List.getElem?_eq_none (by omega), List.getElem?_eq_none (by omega)]
  | succ d ih =>
    intro k ys i h0 hi hk hl hj
    obtain ⟨k, rfl⟩ := pos_k hk
    simp only [laws_toByteS.l0]
    rw [if_pos (by omega), if_pos (by omega), if_pos (by omega), w64 (by omega) (by omega)]
    refine ih k _ (i + 1) (by omega) (by omega) (by omega) (by rw [List.length_set]; omega) ?_
    intro j hj'
    by_cases h : (j : Int) = i
    · have e : i.toNat = j := by omega
      rw [e, List.getElem?_set_self (by omega), ← h, ← rd_get? (by omega) (by omega)]
      rfl
    · rw [List.getElem?_set_ne (by omega)]
      exact hj j (by omega)
theorem toByteS {xs : List Int} (hn : xs.length ≤ 140737488355328) {k : Nat} (hk : xs.length < k) : laws_toByteS.f k xs = some xs := by
  unfold laws_toByteS.f
  rw [if_pos (by omega), if_pos (by omega)]
  exact toByteS_l xs hn xs.length k _ 0 (by omega) (by omega) hk (by simp) (fun j hj => by omega)

theorem eqByteS_l (xs : List Int) (hn : xs.length ≤ 140737488355328) (d : Nat) : ∀ (k : Nat) (i : Int), 0 ≤ i → i + d = xs.length → d < k → laws_eqByteS.l0 k xs xs i = some true := by
  induction d with
  | zero =>
    intro k i h0 hi hk
    obtain ⟨k, rfl⟩ := pos_k hk
    simp only [laws_eqByteS.l0]
    rw [if_neg (by omega)]
  | succ d ih =>
    intro k i h0 hi hk
    obtain ⟨k, rfl⟩ := pos_k hk
    simp only [laws_eqByteS.l0]
    rw [if_pos (by omega), if_pos (by omega), if_pos (by omega), if_pos (by first | rfl | trivial), w64 (by omega) (by omega)]
    exact ih k (i + 1) (by omega) (by omega) (by omega)
theorem eqByteS {xs : List Int} (hn : xs.length ≤ 140737488355328) {k : Nat} (hk : xs.length < k) : laws_eqByteS.f k xs xs = some true := by
  unfold laws_eqByteS.f
  rw [if_pos rfl]
  exact eqByteS_l xs hn xs.length k 0 (by omega) (by omega) hk

theorem implSum {a b : Int} (h0 : 0 ≤ a) (h1 : a ≤ 65535) (h2 : 0 ≤ b) (h3 : b ≤ 65535) : impl_sum.f a b = some (osum a b) := by
  unfold impl_sum.f osum
  rw [w64 (n := a + b) (by omega) (by omega), w64 (by omega) (by omega)]
  split <;> rfl

theorem specWord (n : Int) : spec_l02Word.f n = some (decide (0 ≤ n ∧ n ≤ 65535)) := by
  unfold spec_l02Word.f
  by_cases h : n ≥ 0
  · rw [if_pos h]
    simp [h]
  · rw [if_neg h]
    simp [h]
theorem specSumAdd_j {k : Nat} (hk : 0 < k) (a b : Int) : spec_SumAdd.j0 k a b true = some (-1) := by
  obtain ⟨k, rfl⟩ := pos_k hk
  simp only [spec_SumAdd.j0]
  rw [if_pos (by first | rfl | trivial)]
theorem specSumAdd {a b : Int} {k : Nat} (hk : 0 < k) : spec_SumAdd.f k a b = some (if (0 ≤ a ∧ a ≤ 65535) ∧ (0 ≤ b ∧ b ≤ 65535) then osum a b else -1) := by
  unfold spec_SumAdd.f
  rw [specWord, specWord]
  simp only [Option.bind_some]
  by_cases h : 0 ≤ a ∧ a ≤ 65535
  · by_cases h' : 0 ≤ b ∧ b ≤ 65535
    · rw [decide_eq_true h, decide_eq_true h', if_pos (by first | rfl | trivial), if_pos ⟨h, h'⟩]
      obtain ⟨k, rfl⟩ := pos_k hk
      simp only [spec_SumAdd.j0]
      unfold osum
      rw [if_neg (by decide), w64 (n := a + b) (by omega) (by omega), w64 (by omega) (by omega)]
      split <;> rfl
    · rw [decide_eq_true h, decide_eq_false h', if_pos (by first | rfl | trivial), if_neg (fun hh => h' hh.2)]
      exact specSumAdd_j hk a b
  · rw [decide_eq_false h, if_neg Bool.false_ne_true, if_neg (fun hh => h hh.1)]
    exact specSumAdd_j hk a b

theorem specOnes_l (xs : List Int) (hx : U8 xs) (hn : xs.length ≤ 140737488355328) (d : Nat) : ∀ (k : Nat) (s i : Int), 0 ≤ i → (xs.length : Int) - i ≤ d → i ≤ xs.length + 1 → d + 1 < k → 0 ≤ s → s ≤ 65535 → spec_OnesSum.l0 k xs s i = some (ones (xs.drop i.toNat) s) := by
  induction d with
  | zero =>
    intro k s i h0 hi _ hk _ _
    obtain ⟨k, rfl⟩ := pos_k hk
    simp only [spec_OnesSum.l0]
    rw [if_neg (by omega), List.drop_eq_nil_of_le (by omega)]
    rfl
  | succ d ih =>
    intro k s i h0 hi hi2 hk hs0 hs1
    obtain ⟨k, rfl⟩ := pos_k hk
    by_cases hlt : i < xs.length
    · have hb := hx.byte i
      simp only [spec_OnesSum.l0]
      rw [if_pos hlt, if_pos h0, w64 (n := i + 1) (by omega) (by omega), w64 (n := rd xs i) (by omega) (by omega), w64 (n := 256 * rd xs i) (by omega) (by omega), w64 (n := i + 2) (by omega) (by omega), drop_rd h0 hlt]
      by_cases h2 : i + 1 < xs.length
      · have hc := hx.byte (i + 1)
        have ho := osum_word hs0 hs1 (show 0 ≤ rd xs i * 256 + rd xs (i + 1) by omega) (by omega)
        rw [if_pos h2, if_pos (by omega), w64 (n := rd xs (i + 1)) (by omega) (by omega), w64 (n := 256 * rd xs i + rd xs (i + 1)) (by omega) (by omega), specSumAdd (by omega), if_pos ⟨⟨by omega, by omega⟩, by omega, by omega⟩]
        simp only [Option.bind_some]
        rw [Int.mul_comm 256, ih k _ (i + 2) (by omega) (by omega) (by omega) (by omega) ho.1 ho.2, drop_rd (i := i + 1) (by omega) h2, show i + 1 + 1 = i + 2 by omega]
        rfl
      · have ho := osum_word hs0 hs1 (show 0 ≤ rd xs i * 256 by omega) (by omega)
        rw [if_neg h2, specSumAdd (by omega), if_pos ⟨⟨by omega, by omega⟩, by omega, by omega⟩]
        simp only [Option.bind_some]
        rw [Int.mul_comm 256, ih k _ (i + 2) (by omega) (by omega) (by omega) (by omega) ho.1 ho.2, List.drop_eq_nil_of_le (i := (i + 1).toNat) (by omega), List.drop_eq_nil_of_le (i := (i + 2).toNat) (by omega)]
        rfl
    · simp only [spec_OnesSum.l0]
      rw [if_neg hlt, List.drop_eq_nil_of_le (by omega)]
      rfl
theorem specOnesSum {xs : List Int} (hx : U8 xs) {k : Nat} (hk : xs.length + 10 < k) : spec_OnesSum.f k xs = some (if (xs.length : Int) > 2000 then -1 else ones xs 0) := by
  unfold spec_OnesSum.f
  by_cases h : (xs.length : Int) > 2000
  · rw [if_pos h, if_pos h]
  · rw [if_neg h, if_neg h, specOnes_l xs hx (by omega) xs.length k 0 0 (by omega) (by omega) (by omega) (by omega) (by omega) (by omega)]
    rfl

theorem implOnes_l (xs : List Int) (hx : U8 xs) (hn : xs.length ≤ 140737488355328) (d : Nat) : ∀ (k : Nat) (s i : Int), 0 ≤ i → (xs.length : Int) - i ≤ d → i ≤ xs.length + 1 → d + 1 < k → 0 ≤ s → s ≤ 65535 → impl_onesSum.l0 k xs s i = some (ones (xs.drop i.toNat) s) := by
  induction d with
  | zero =>
    intro k s i h0 hi _ hk _ _
    obtain ⟨k, rfl⟩ := pos_k hk
    simp only [impl_onesSum.l0]
    rw [if_neg (by omega), List.drop_eq_nil_of_le (by omega)]
    rfl
  | succ d ih =>
    intro k s i h0 hi hi2 hk hs0 hs1
    obtain ⟨k, rfl⟩ := pos_k hk
    by_cases hlt : i < xs.length
    · have hb := hx.byte i
      simp only [impl_onesSum.l0]
      rw [if_pos hlt, if_pos h0, w64 (n := i + 1) (by omega) (by omega), w64 (n := rd xs i) (by omega) (by omega), w64 (n := i + 2) (by omega) (by omega), drop_rd h0 hlt]
      by_cases h2 : i + 1 < xs.length
      · have hc := hx.byte (i + 1)
        have ho := osum_word hs0 hs1 (show 0 ≤ rd xs i * 256 + rd xs (i + 1) by omega) (by omega)
        rw [if_pos h2, if_pos (by omega), or_be (by omega) (by omega) hc.1 hc.2, implSum (by omega) (by omega) (by omega) (by omega)]
        simp only [Option.bind_some]
        rw [ih k _ (i + 2) (by omega) (by omega) (by omega) (by omega) ho.1 ho.2, drop_rd (i := i + 1) (by omega) h2, show i + 1 + 1 = i + 2 by omega]
        rfl
      · have ho := osum_word hs0 hs1 (show 0 ≤ rd xs i * 256 by omega) (by omega)
        rw [if_neg h2, w64 (n := rd xs i * 256) (by omega) (by omega), implSum (by omega) (by omega) (by omega) (by omega)]
        simp only [Option.bind_some]
        rw [ih k _ (i + 2) (by omega) (by omega) (by omega) (by omega) ho.1 ho.2, List.drop_eq_nil_of_le (i := (i + 1).toNat) (by omega), List.drop_eq_nil_of_le (i := (i + 2).toNat) (by omega)]
        rfl
    · simp only [impl_onesSum.l0]
      rw [if_neg hlt, List.drop_eq_nil_of_le (by omega)]
      rfl
theorem implOnes {xs : List Int} (hx : U8 xs) (hn : xs.length ≤ 140737488355328) {k : Nat} (hk : xs.length + 10 < k) : impl_onesSum.f k xs = some (ones xs 0) := by
  unfold impl_onesSum.f
  rw [implOnes_l xs hx hn xs.length k 0 0 (by omega) (by omega) (by omega) (by omega) (by omega) (by omega)]
  rfl

theorem specChecksum {xs : List Int} (hx : U8 xs) {k : Nat} (hk : xs.length + 10 < k) : spec_Checksum.f k xs = some (if (xs.length : Int) > 2000 then -1 else 65535 - ones xs 0) := by
  have ho := ones_word xs.length xs 0 (Nat.le_refl _) hx (by omega) (by omega)
  unfold spec_Checksum.f
  rw [specOnesSum hx hk]
  simp only [Option.bind_some]
  by_cases h : (xs.length : Int) > 2000
  · rw [if_pos h, if_pos h, if_pos (by decide)]
  · rw [if_neg h, if_neg h, if_neg (by omega), w64 (by omega) (by omega)]

theorem implChecksum {xs : List Int} (hx : U8 xs) {k : Nat} (hk : xs.length + 10 < k) : impl_Checksum.f k xs = some (if (xs.length : Int) > 2000 then -1 else 65535 - ones xs 0) := by
  have ho := ones_word xs.length xs 0 (Nat.le_refl _) hx (by omega) (by omega)
  unfold impl_Checksum.f
  by_cases h : (xs.length : Int) > 2000
  · rw [if_pos h, if_pos h]
  · rw [if_neg h, if_neg h, implOnes hx (by omega) hk]
    simp only [Option.bind_some]
    rw [w64 (by omega) (by omega)]

end ExactChecksum
open ExactChecksum

theorem FnExactChecksum : laws_FnExactChecksum.Pure := by
  intro l0 _ hl hu
  have hx := U8.of_wf hu
  refine ⟨l0.length + 20, ?_⟩
  unfold laws_FnExactChecksum.f
  by_cases h : (l0.length : Int) > 1048576
  · rw [if_pos h]
  · rw [if_neg h, toByteS (by omega) (by omega)]
    simp only [Option.bind_some]
    rw [specChecksum hx (by omega), implChecksum hx (by omega)]
    simp only [Option.bind_some]
    rw [if_pos (by first | rfl | trivial)]
    rw [eqByteS (by omega) (by omega)]
    simp only [Option.bind_some]
    rw [if_pos (by first | rfl | trivial)]

end Go.Proofs.Ytnpfhfckkjkifaa.Pure
