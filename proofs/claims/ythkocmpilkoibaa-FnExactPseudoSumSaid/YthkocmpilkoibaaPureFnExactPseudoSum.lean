/- The program's PseudoSum returns what the reference's returns, for all arguments. No condition. -/
import Derived.Test.YthkocmpilkoibaaSFnExactPseudoSum
import Derived.Test.YthkocmpilkoibaaBase
namespace Go.Proofs.Ythkocmpilkoibaa.Pure
open Go.RowKit Go.Proofs.Ythkocmpilkoibaa.FFnExactPseudoSum Go.Proofs.YthkocmpilkoibaaW.PrintWords Go.Proofs.YthkocmpilkoibaaW.PrintLast Go.Proofs.YthkocmpilkoibaaW.PrintMore Go.Proofs.Ythkocmpilkoibaa.Base

set_option linter.unusedVariables false
set_option linter.unusedSimpArgs false
namespace ExactPseudoSum
theorem toAddr (k a b c d : Int) : laws_toAddr.f k a b c d = some (k, a, b, c, d) := rfl

theorem specHalf (n : Int) : spec_l03Half.f n = some (decide (Half n)) := by
  unfold spec_l03Half.f Half
  by_cases h : n ≥ 0
  · rw [if_pos h]
    simp [h]
  · rw [if_neg h]
    simp [h]
theorem specAddrOk (k a b c d : Int) : spec_AddrOk.f k a b c d = some (decide (AddrOK k a b c d)) := by
  unfold spec_AddrOk.f
  simp only [specHalf, Option.bind_some]
  unfold AddrOK
  by_cases h4 : k = 4
  · subst h4
    by_cases ha : a = 0 <;> by_cases hb : b = 0 <;> by_cases hc : c = 0 <;> simp [ha, hb, hc]
  · by_cases h6 : k = 6
    · subst h6
      by_cases ha : Half a <;> by_cases hb : Half b <;> by_cases hc : Half c <;> simp [ha, hb, hc]
    · simp [h4, h6]

theorem isLong (n : Int) : impl_isLong.f n = some (decide (Half n)) := by
  unfold impl_isLong.f impl_within.f Half
  by_cases h : n ≥ 0
  · rw [if_pos h]
    simp [h]
  · rw [if_neg h]
    simp [h]
theorem implAddrOk (k a b c d : Int) : impl_AddrOk.f k a b c d = some (decide (AddrOK k a b c d)) := by
  unfold impl_AddrOk.f
  simp only [isLong, Option.bind_some]
  unfold AddrOK
  by_cases h4 : k = 4
  · subst h4
    by_cases ha : a = 0 <;> by_cases hb : b = 0 <;> by_cases hc : c = 0 <;> simp [ha, hb, hc]
  · by_cases h6 : k = 6
    · subst h6
      by_cases ha : Half a <;> by_cases hb : Half b <;> by_cases hc : Half c <;> simp [ha, hb, hc]
    · simp [h4, h6]

theorem isByte (n : Int) : impl_isByte.f n = some (decide (0 ≤ n ∧ n ≤ 255)) := by
  unfold impl_isByte.f impl_within.f
  by_cases h : n ≥ 0
  · rw [if_pos h]
    simp [h]
  · rw [if_neg h]
    simp [h]

theorem specIn (n m : Int) : spec_l05In.f n m = some (decide (0 ≤ n ∧ n ≤ m)) := by
  unfold spec_l05In.f
  by_cases h : n ≥ 0
  · rw [if_pos h]
    simp [h]
  · rw [if_neg h]
    simp [h]

theorem within (n lo hi : Int) : impl_within.f n lo hi = some (decide (lo ≤ n ∧ n ≤ hi)) := by
  unfold impl_within.f
  by_cases h : n ≥ lo
  · rw [if_pos h]
    simp [h]
  · rw [if_neg h]
    simp [h]

theorem shr_nat (x : Int) (n : Nat) (h : n ≤ 64) (y : Int) (hy : y = n) : shr .i64 x y = x / 2 ^ n := by
  subst hy
  unfold shr
  rw [Int.toNat_natCast, Nat.min_eq_left (by exact h)]
theorem put_step (k : Nat) (a n : Int) (ys : List Int) (L i : Int) (m : Nat) (hL : L = ys.length) (h0 : 0 ≤ i) (h : i < L) (hn : n = L) (hn1 : n ≤ 8) (hm : (m : Int) = 8 * (n - 1 - i)) :
    impl_put.l0 (k + 1) a n ys L i = impl_put.l0 k a n (ys.set i.toNat (a / 2 ^ m % 256)) L (i + 1) := by
  simp only [impl_put.l0]
  rw [if_pos h, w64 (n := n - 1) (by omega) (by omega), w64 (n := n - 1 - i) (by omega) (by omega), w64 (n := 8 * (n - 1 - i)) (by omega) (by omega), if_pos (by omega), if_pos h0, if_pos (by omega),
    shr_nat a m (by omega) _ hm.symm, w64 (by omega) (by omega)]
theorem put_end (k : Nat) (a n : Int) (ys : List Int) (L i : Int) (h : ¬ i < L) : impl_put.l0 (k + 1) a n ys L i = some ys := by
  simp only [impl_put.l0]
  rw [if_neg h]
theorem put2 {k : Nat} (hk : 10 ≤ k) {a : Int} : impl_put.f k a 2 = some [a / 256 % 256, a % 256] := by
  obtain ⟨k, rfl⟩ : ∃ m, k = m + 3 := ⟨k - 3, by omega⟩
  unfold impl_put.f
  rw [if_pos (by decide), if_pos (by decide)]
  simp only [Option.bind_some]
  rw [put_step _ _ _ _ _ _ 8 (by simp) (by decide) (by decide) (by decide) (by decide) (by decide)]
  rw [put_step _ _ _ _ _ _ 0 (by simp) (by decide) (by decide) (by decide) (by decide) (by decide)]
  rw [put_end _ _ _ _ _ _ (by decide)]
  congr 1
  simp [List.replicate, List.set]
theorem put4 {k : Nat} (hk : 10 ≤ k) {a : Int} : impl_put.f k a 4 = some [a / 16777216 % 256, a / 65536 % 256, a / 256 % 256, a % 256] := by
  obtain ⟨k, rfl⟩ : ∃ m, k = m + 5 := ⟨k - 5, by omega⟩
  unfold impl_put.f
  rw [if_pos (by decide), if_pos (by decide)]
  simp only [Option.bind_some]
  rw [put_step _ _ _ _ _ _ 24 (by simp) (by decide) (by decide) (by decide) (by decide) (by decide)]
  rw [put_step _ _ _ _ _ _ 16 (by simp) (by decide) (by decide) (by decide) (by decide) (by decide)]
  rw [put_step _ _ _ _ _ _ 8 (by simp) (by decide) (by decide) (by decide) (by decide) (by decide)]
  rw [put_step _ _ _ _ _ _ 0 (by simp) (by decide) (by decide) (by decide) (by decide) (by decide)]
  rw [put_end _ _ _ _ _ _ (by decide)]
  congr 1
  simp [List.replicate, List.set]
theorem put6 {k : Nat} (hk : 10 ≤ k) {a : Int} : impl_put.f k a 6 = some [a / 1099511627776 % 256, a / 4294967296 % 256, a / 16777216 % 256, a / 65536 % 256, a / 256 % 256, a % 256] := by
  obtain ⟨k, rfl⟩ : ∃ m, k = m + 7 := ⟨k - 7, by omega⟩
  unfold impl_put.f
  rw [if_pos (by decide), if_pos (by decide)]
  simp only [Option.bind_some]
  rw [put_step _ _ _ _ _ _ 40 (by simp) (by decide) (by decide) (by decide) (by decide) (by decide)]
  rw [put_step _ _ _ _ _ _ 32 (by simp) (by decide) (by decide) (by decide) (by decide) (by decide)]
  rw [put_step _ _ _ _ _ _ 24 (by simp) (by decide) (by decide) (by decide) (by decide) (by decide)]
  rw [put_step _ _ _ _ _ _ 16 (by simp) (by decide) (by decide) (by decide) (by decide) (by decide)]
  rw [put_step _ _ _ _ _ _ 8 (by simp) (by decide) (by decide) (by decide) (by decide) (by decide)]
  rw [put_step _ _ _ _ _ _ 0 (by simp) (by decide) (by decide) (by decide) (by decide) (by decide)]
  rw [put_end _ _ _ _ _ _ (by decide)]
  congr 1
  simp [List.replicate, List.set]

theorem implPut16 {k : Nat} (hk : 10 ≤ k) (a : Int) : impl_Put16.f k a = some (b2 a) := by
  unfold impl_Put16.f
  rw [put2 hk]
  rfl

theorem specLow {a m : Int} (_ha : -9223372036854775808 ≤ a ∧ a ≤ 9223372036854775807) (hm0 : 0 < m) (hm1 : m ≤ 4294967296) : spec_l01Low.f a m = some (a % m) := by
  unfold spec_l01Low.f
  have h1 := Int.emod_nonneg a (show m ≠ 0 by omega)
  have h2 := Int.emod_lt_of_pos a hm0
  have h3 := Int.tmod_eq_emod (a := a) (b := m)
  rw [if_neg (by omega)]
  by_cases h : 0 ≤ a
  · rw [tmod_pos h, if_neg (by omega)]
  · have e := Int.emod_def a m
    by_cases hz : m ∣ a
    · have h4 : Int.tmod a m = 0 := Int.tmod_eq_zero_of_dvd hz
      have h5 : a % m = 0 := Int.emod_eq_zero_of_dvd hz
      rw [h4, h5, if_neg (by omega)]
    · have h4 : Int.tmod a m = a % m - m := by
        rw [h3, if_neg (by intro hh; rcases hh with hh | hh; exact h hh; exact hz hh)]
        omega
      rw [h4, if_pos (by omega), w64 (by omega) (by omega)]
      congr 1
      omega

theorem specPut16 {a : Int} (hb : -9223372036854775808 ≤ a ∧ a ≤ 9223372036854775807) : spec_Put16.f a = some [a / 256 % 256, a % 256] := by
  unfold spec_Put16.f
  rw [specLow hb (by omega) (by omega)]
  simp only [Option.bind_some]
  rw [tdiv_pos (by omega), tmod_pos (by omega), w64 (by omega) (by omega), show a % 65536 / 256 % 256 = a / 256 % 256 by omega, show a % 65536 % 256 % 256 = a % 256 by omega]

theorem specPut32 {a : Int} (hb : -9223372036854775808 ≤ a ∧ a ≤ 9223372036854775807) : spec_Put32.f a = some [a / 16777216 % 256, a / 65536 % 256, a / 256 % 256, a % 256] := by
  unfold spec_Put32.f
  rw [specLow hb (by omega) (by omega)]
  simp only [Option.bind_some]
  rw [tdiv_pos (by omega), tmod_pos (by omega), w64 (by omega) (by omega), specPut16 (by omega), specPut16 (by omega)]
  simp only [Option.bind_some]
  rw [if_pos (by simp), show a % 4294967296 / 65536 / 256 % 256 = a / 16777216 % 256 by omega, show a % 4294967296 / 65536 % 256 = a / 65536 % 256 by omega, show a % 4294967296 % 65536 / 256 % 256 = a / 256 % 256 by omega, show a % 4294967296 % 65536 % 256 = a % 256 by omega]
  rfl

theorem grow {n : Int} (h0 : 0 ≤ n) (h1 : n ≤ 140737488355328) (l : List Int) : slices_Grow_byte_byte.f l n = some [] := by
  unfold slices_Grow_byte_byte.f
  rw [if_pos h0, if_pos h1]
theorem concat_l1 (ls : List (List Int)) (hn : ls.length ≤ 1000) (d : Nat) : ∀ (k : Nat) (acc : List Int) (i : Int), 0 ≤ i → i + d = ls.length → d < k → acc.length + ((ls.drop i.toNat).flatten).length < 140737488355328 → slices_Concat_byte_byte.l1 k acc ls ls.length i = some (acc ++ (ls.drop i.toNat).flatten) := by
  induction d with
  | zero =>
    intro k acc i h0 hi hk hl
    obtain ⟨k, rfl⟩ := pos_k hk
    simp only [slices_Concat_byte_byte.l1]
    rw [if_neg (by omega), List.drop_eq_nil_of_le (by omega)]
    simp
  | succ d ih =>
    intro k acc i h0 hi hk hl
    obtain ⟨k, rfl⟩ := pos_k hk
    have e : ls.drop i.toNat = rd_L1 ls i :: ls.drop (i + 1).toNat := dropG ([] : List Int) h0 (show i < ls.length by omega)
    rw [e, List.flatten_cons, List.length_append] at hl
    simp only [slices_Concat_byte_byte.l1]
    rw [if_pos (by omega), if_pos h0, if_pos (by omega), if_pos (by omega), w64 (by omega) (by omega), ih k _ (i + 1) (by omega) (by omega) (by omega) (by rw [List.length_append]; omega), e, List.flatten_cons, List.append_assoc]
theorem concat_l0 (ls : List (List Int)) (hn : ls.length ≤ 1000) (hb : ls.flatten.length < 140737488355328) (d : Nat) : ∀ (k : Nat) (s i : Int), 0 ≤ i → i + d = ls.length → d + ls.length + 10 < k → 0 ≤ s → s + ((ls.drop i.toNat).flatten).length < 140737488355328 → slices_Concat_byte_byte.l0 k ls s ls ls.length i = some ls.flatten := by
  induction d with
  | zero =>
    intro k s i h0 hi hk hs hl
    obtain ⟨k, rfl⟩ := pos_k hk
    simp only [slices_Concat_byte_byte.l0]
    rw [if_neg (by omega), grow hs (by omega)]
    simp only [Option.bind_some]
    rw [concat_l1 ls hn ls.length k [] 0 (by omega) (by omega) (by omega) (by simpa using hb)]
    simp
  | succ d ih =>
    intro k s i h0 hi hk hs hl
    obtain ⟨k, rfl⟩ := pos_k hk
    have e : ls.drop i.toNat = rd_L1 ls i :: ls.drop (i + 1).toNat := dropG ([] : List Int) h0 (show i < ls.length by omega)
    rw [e, List.flatten_cons, List.length_append] at hl
    simp only [slices_Concat_byte_byte.l0]
    rw [if_pos (by omega), if_pos h0, if_pos (by omega), w64 (n := s + ((rd_L1 ls i).length : Int)) (by omega) (by omega), if_neg (by omega), w64 (by omega) (by omega), ih k _ (i + 1) (by omega) (by omega) (by omega) (by omega) (by omega)]
theorem concat {ls : List (List Int)} (hn : ls.length ≤ 1000) (hb : ls.flatten.length < 140737488355328) {k : Nat} (hk : 2 * ls.length + 10 < k) : slices_Concat_byte_byte.f k ls = some ls.flatten := by
  unfold slices_Concat_byte_byte.f
  rw [concat_l0 ls hn hb ls.length k 0 0 (by omega) (by omega) (by omega) (by omega) (by show (0 : Int) + (ls.flatten.length : Int) < _; omega)]

theorem specAddrBytes (k a b c d : Int) : spec_AddrBytes.f k a b c d = some (addrBytes k a b c d) := by
  unfold spec_AddrBytes.f addrBytes
  rw [specAddrOk]
  simp only [Option.bind_some]
  by_cases h : AddrOK k a b c d
  · rw [decide_eq_true h, if_pos rfl, if_pos h]
    have h' := h
    unfold AddrOK Half at h'
    by_cases h4 : k = 4
    · rw [if_pos h4, if_pos h4, specPut32 (by omega)]
      rfl
    · rw [if_neg h4, if_neg h4, specPut32 (a := a) (by omega), specPut32 (a := b) (by omega), specPut32 (a := c) (by omega), specPut32 (a := d) (by omega)]
      simp only [Option.bind_some]
      rw [if_pos (by simp), if_pos (by simp), if_pos (by simp)]
      rfl
  · rw [decide_eq_false h, if_neg Bool.false_ne_true, if_neg h]
theorem implPut32 {k : Nat} (hk : 10 ≤ k) (a : Int) : impl_Put32.f k a = some (b4 a) := by
  unfold impl_Put32.f
  rw [put4 hk]
  rfl
theorem implAddrBytes {n : Nat} (hn : 30 ≤ n) (k a b c d : Int) : impl_AddrBytes.f n k a b c d = some (addrBytes k a b c d) := by
  unfold impl_AddrBytes.f addrBytes
  rw [implAddrOk]
  simp only [Option.bind_some]
  by_cases h : AddrOK k a b c d
  · rw [decide_eq_true h, if_pos rfl, if_pos h]
    by_cases h4 : k = 4
    · rw [if_pos h4, if_pos h4, implPut32 (by omega)]
      rfl
    · rw [if_neg h4, if_neg h4, implPut32 (by omega), implPut32 (by omega), implPut32 (by omega), implPut32 (by omega)]
      simp only [Option.bind_some]
      rw [concat (by simp) (by simp [b4]) (by simp; omega)]
      simp
  · rw [decide_eq_false h, if_neg Bool.false_ne_true, if_neg h]
theorem addrBytes_len (k a b c d : Int) : (addrBytes k a b c d).length ≤ 16 := by
  unfold addrBytes
  split
  · split <;> simp [b4]
  · simp
theorem addrBytes_u8 (k a b c d : Int) : U8 (addrBytes k a b c d) := by
  unfold addrBytes
  split
  · split
    · exact U8.b4 _
    · exact (U8.b4 _).append ((U8.b4 _).append ((U8.b4 _).append (U8.b4 _)))
  · exact U8.nil

theorem specPair (k a b c d k' a' b' c' d' : Int) : spec_l07Pair.f k a b c d k' a' b' c' d' = some (pairB k a b c d k' a' b' c' d') := by
  unfold spec_l07Pair.f pairB
  rw [specAddrOk, specAddrOk]
  simp only [Option.bind_some]
  generalize decide (AddrOK k a b c d) = p
  generalize decide (AddrOK k' a' b' c' d') = q
  cases p <;> cases q <;> rfl

theorem areBoth (k a b c d k' a' b' c' d' : Int) : impl_areBoth.f k a b c d k' a' b' c' d' = some (pairB k a b c d k' a' b' c' d') := by
  unfold impl_areBoth.f pairB
  rw [implAddrOk, implAddrOk]
  simp only [Option.bind_some]
  generalize decide (AddrOK k a b c d) = p
  generalize decide (AddrOK k' a' b' c' d') = q
  cases p <;> cases q <;> rfl

theorem implSum {a b : Int} (h0 : 0 ≤ a) (h1 : a ≤ 65535) (h2 : 0 ≤ b) (h3 : b ≤ 65535) : impl_sum.f a b = some (osum a b) := by
  unfold impl_sum.f osum
  rw [w64 (n := a + b) (by omega) (by omega), w64 (by omega) (by omega)]
  split <;> rfl

theorem specWord (n : Int) : spec_l02Word.f n = some (decide (0 ≤ n ∧ n ≤ 65535)) := by
  unfold spec_l02Word.f
  by_cases h : n ≥ 0
  · rw [if_pos h]
    simp [h]
  · rw [if_neg h]
    simp [h]
theorem specSumAdd_j {k : Nat} (hk : 0 < k) (a b : Int) : spec_SumAdd.j0 k a b true = some (-1) := by
  obtain ⟨k, rfl⟩ := pos_k hk
  simp only [spec_SumAdd.j0]
  rw [if_pos (by first | rfl | trivial)]
theorem specSumAdd {a b : Int} {k : Nat} (hk : 0 < k) : spec_SumAdd.f k a b = some (if (0 ≤ a ∧ a ≤ 65535) ∧ (0 ≤ b ∧ b ≤ 65535) then osum a b else -1) := by
  unfold spec_SumAdd.f
  rw [specWord, specWord]
  simp only [Option.bind_some]
  by_cases h : 0 ≤ a ∧ a ≤ 65535
  · by_cases h' : 0 ≤ b ∧ b ≤ 65535
    · rw [decide_eq_true h, decide_eq_true h', if_pos (by first | rfl | trivial), if_pos ⟨h, h'⟩]
      obtain ⟨k, rfl⟩ := pos_k hk
      simp only [spec_SumAdd.j0]
      unfold osum
      rw [if_neg (by decide), w64 (n := a + b) (by omega) (by omega), w64 (by omega) (by omega)]
      split <;> rfl
    · rw [decide_eq_true h, decide_eq_false h', if_pos (by first | rfl | trivial), if_neg (fun hh => h' hh.2)]
      exact specSumAdd_j hk a b
  · rw [decide_eq_false h, if_neg Bool.false_ne_true, if_neg (fun hh => h hh.1)]
    exact specSumAdd_j hk a b

theorem specOnes_l (xs : List Int) (hx : U8 xs) (hn : xs.length ≤ 140737488355328) (d : Nat) : ∀ (k : Nat) (s i : Int), 0 ≤ i → (xs.length : Int) - i ≤ d → i ≤ xs.length + 1 → d + 1 < k → 0 ≤ s → s ≤ 65535 → spec_OnesSum.l0 k xs s i = some (ones (xs.drop i.toNat) s) := by
  induction d with
  | zero =>
    intro k s i h0 hi _ hk _ _
    obtain ⟨k, rfl⟩ := pos_k hk
    simp only [spec_OnesSum.l0]
    rw [if_neg (by omega), List.drop_eq_nil_of_le (by omega)]
    rfl
  | succ d ih =>
    intro k s i h0 hi hi2 hk hs0 hs1
    obtain ⟨k, rfl⟩ := pos_k hk
    by_cases hlt : i < xs.length
    · have hb := hx.byte i
      simp only [spec_OnesSum.l0]
      rw [if_pos hlt, if_pos h0, w64 (n := i + 1) (by omega) (by omega), w64 (n := rd xs i) (by omega) (by omega), w64 (n := 256 * rd xs i) (by omega) (by omega), w64 (n := i + 2) (by omega) (by omega), drop_rd h0 hlt]
      by_cases h2 : i + 1 < xs.length
      · have hc := hx.byte (i + 1)
        have ho := osum_word hs0 hs1 (show 0 ≤ rd xs i * 256 + rd xs (i + 1) by omega) (by omega)
        rw [if_pos h2, if_pos (by omega), w64 (n := rd xs (i + 1)) (by omega) (by omega), w64 (n := 256 * rd xs i + rd xs (i + 1)) (by omega) (by omega), specSumAdd (by omega), if_pos ⟨⟨by omega, by omega⟩, by omega, by omega⟩]
        simp only [Option.bind_some]
        rw [Int.mul_comm 256, ih k _ (i + 2) (by omega) (by omega) (by omega) (by omega) ho.1 ho.2, drop_rd (i := i + 1) (by omega) h2, show i + 1 + 1 = i + 2 by omega]
        rfl
      · have ho := osum_word hs0 hs1 (show 0 ≤ rd xs i * 256 by omega) (by omega)
        rw [if_neg h2, specSumAdd (by omega), if_pos ⟨⟨by omega, by omega⟩, by omega, by omega⟩]
        simp only [Option.bind_some]
        rw [Int.mul_comm 256, ih k _ (i + 2) (by omega) (by omega) (by omega) (by omega) ho.1 ho.2, List.drop_eq_nil_of_le (i := (i + 1).toNat) (by omega), List.drop_eq_nil_of_le (i := (i + 2).toNat) (by omega)]
        rfl
    · simp only [spec_OnesSum.l0]
      rw [if_neg hlt, List.drop_eq_nil_of_le (by omega)]
      rfl
theorem specOnesSum {xs : List Int} (hx : U8 xs) {k : Nat} (hk : xs.length + 10 < k) : spec_OnesSum.f k xs = some (if (xs.length : Int) > 2000 then -1 else ones xs 0) := by
  unfold spec_OnesSum.f
  by_cases h : (xs.length : Int) > 2000
  · rw [if_pos h, if_pos h]
  · rw [if_neg h, if_neg h, specOnes_l xs hx (by omega) xs.length k 0 0 (by omega) (by omega) (by omega) (by omega) (by omega) (by omega)]
    rfl

theorem implOnes_l (xs : List Int) (hx : U8 xs) (hn : xs.length ≤ 140737488355328) (d : Nat) : ∀ (k : Nat) (s i : Int), 0 ≤ i → (xs.length : Int) - i ≤ d → i ≤ xs.length + 1 → d + 1 < k → 0 ≤ s → s ≤ 65535 → impl_onesSum.l0 k xs s i = some (ones (xs.drop i.toNat) s) := by
  induction d with
  | zero =>
    intro k s i h0 hi _ hk _ _
    obtain ⟨k, rfl⟩ := pos_k hk
    simp only [impl_onesSum.l0]
    rw [if_neg (by omega), List.drop_eq_nil_of_le (by omega)]
    rfl
  | succ d ih =>
    intro k s i h0 hi hi2 hk hs0 hs1
    obtain ⟨k, rfl⟩ := pos_k hk
    by_cases hlt : i < xs.length
    · have hb := hx.byte i
      simp only [impl_onesSum.l0]
      rw [if_pos hlt, if_pos h0, w64 (n := i + 1) (by omega) (by omega), w64 (n := rd xs i) (by omega) (by omega), w64 (n := i + 2) (by omega) (by omega), drop_rd h0 hlt]
      by_cases h2 : i + 1 < xs.length
      · have hc := hx.byte (i + 1)
        have ho := osum_word hs0 hs1 (show 0 ≤ rd xs i * 256 + rd xs (i + 1) by omega) (by omega)
        rw [if_pos h2, if_pos (by omega), or_be (by omega) (by omega) hc.1 hc.2, implSum (by omega) (by omega) (by omega) (by omega)]
        simp only [Option.bind_some]
        rw [ih k _ (i + 2) (by omega) (by omega) (by omega) (by omega) ho.1 ho.2, drop_rd (i := i + 1) (by omega) h2, show i + 1 + 1 = i + 2 by omega]
        rfl
      · have ho := osum_word hs0 hs1 (show 0 ≤ rd xs i * 256 by omega) (by omega)
        rw [if_neg h2, w64 (n := rd xs i * 256) (by omega) (by omega), implSum (by omega) (by omega) (by omega) (by omega)]
        simp only [Option.bind_some]
        rw [ih k _ (i + 2) (by omega) (by omega) (by omega) (by omega) ho.1 ho.2, List.drop_eq_nil_of_le (i := (i + 1).toNat) (by omega), List.drop_eq_nil_of_le (i := (i + 2).toNat) (by omega)]
        rfl
    · simp only [impl_onesSum.l0]
      rw [if_neg hlt, List.drop_eq_nil_of_le (by omega)]
      rfl
theorem implOnes {xs : List Int} (hx : U8 xs) (hn : xs.length ≤ 140737488355328) {k : Nat} (hk : xs.length + 10 < k) : impl_onesSum.f k xs = some (ones xs 0) := by
  unfold impl_onesSum.f
  rw [implOnes_l xs hx hn xs.length k 0 0 (by omega) (by omega) (by omega) (by omega) (by omega) (by omega)]
  rfl

theorem ones_w (xs : List Int) (hx : U8 xs) : 0 ≤ ones xs 0 ∧ ones xs 0 ≤ 65535 := ones_word xs.length xs 0 (Nat.le_refl _) hx (by omega) (by omega)
def pseudoBytes (k a b c d k' a' b' c' d' p n : Int) : List Int :=
  addrBytes k a b c d ++ (addrBytes k' a' b' c' d' ++ (if k = 6 then b4 n ++ [0, 0, 0, p % 256] else [0, p % 256] ++ b2 n))
theorem pseudo_u8 (k a b c d k' a' b' c' d' p n : Int) : U8 (pseudoBytes k a b c d k' a' b' c' d' p n) := by
  unfold pseudoBytes
  refine (addrBytes_u8 _ _ _ _ _).append ((addrBytes_u8 _ _ _ _ _).append ?_)
  split
  · exact (U8.b4 _).append (U8.cons (by omega) (by omega) (U8.cons (by omega) (by omega) (U8.cons (by omega) (by omega) (U8.cons (by omega) (by omega) U8.nil))))
  · exact U8.append (U8.cons (by omega) (by omega) (U8.cons (by omega) (by omega) U8.nil)) (U8.b2 _)
theorem pseudo_len (k a b c d k' a' b' c' d' p n : Int) : (pseudoBytes k a b c d k' a' b' c' d' p n).length ≤ 40 := by
  have h1 := addrBytes_len k a b c d
  have h2 := addrBytes_len k' a' b' c' d'
  unfold pseudoBytes
  simp only [List.length_append]
  split
  · simp [b4]; omega
  · simp [b2]; omega
def pseudoV (k a b c d k' a' b' c' d' p n : Int) : Int :=
  if pairB k a b c d k' a' b' c' d' = true ∧ (0 ≤ p ∧ p ≤ 255) ∧ (0 ≤ n ∧ n ≤ 1500) then ones (pseudoBytes k a b c d k' a' b' c' d' p n) 0 else -1
theorem pair_kind {k a b c d k' a' b' c' d' : Int} (h : pairB k a b c d k' a' b' c' d' = true) : k = 4 ∨ k = 6 := by
  unfold pairB at h
  simp only [Bool.and_eq_true, decide_eq_true_eq] at h
  have h1 := h.1
  unfold AddrOK at h1
  omega
theorem specPseudo_j {m : Nat} (hm : 0 < m) (p n k a b c d k' a' b' c' d' : Int) : spec_PseudoSum.j0 m p n true k a b c d k' a' b' c' d' = some (-1) := by
  obtain ⟨m, rfl⟩ := pos_k hm
  simp only [spec_PseudoSum.j0]
  rw [if_pos (by first | rfl | trivial)]
theorem specPseudoSum {m : Nat} (hm : 100 ≤ m) (k a b c d k' a' b' c' d' p n : Int) : spec_PseudoSum.f m k a b c d k' a' b' c' d' p n = some (pseudoV k a b c d k' a' b' c' d' p n) := by
  unfold spec_PseudoSum.f pseudoV
  rw [specPair, specIn, specIn]
  simp only [Option.bind_some]
  by_cases hp : pairB k a b c d k' a' b' c' d' = true
  · rw [if_pos hp]
    by_cases h1 : 0 ≤ p ∧ p ≤ 255
    · rw [decide_eq_true h1, if_pos rfl]
      by_cases h2 : 0 ≤ n ∧ n ≤ 1500
      · obtain ⟨m, rfl⟩ : ∃ q, m = q + 1 := ⟨m - 1, by omega⟩
        have hl := pseudo_len k a b c d k' a' b' c' d' p n
        have hu := pseudo_u8 k a b c d k' a' b' c' d' p n
        have l1 := addrBytes_len k a b c d
        have l2 := addrBytes_len k' a' b' c' d'
        have hk := pair_kind hp
        rw [decide_eq_true h2, if_pos ⟨hp, h1, h2⟩]
        simp only [spec_PseudoSum.j0, Bool.not_true]
        rw [if_neg Bool.false_ne_true, specAddrBytes, specAddrBytes]
        simp only [Option.bind_some]
        rw [if_pos (by omega)]
        unfold pseudoBytes at hl hu ⊢
        by_cases h4 : k = 4
        · rw [if_neg (show ¬ k = 6 by omega)] at hl hu ⊢
          rw [if_pos h4, if_pos (by simp; omega), specPut16 (by omega)]
          simp only [Option.bind_some]
          rw [if_pos (by simp; omega)]
          rw [show addrBytes k a b c d ++ addrBytes k' a' b' c' d' ++ [0, p % 256] ++ [n / 256 % 256, n % 256] = addrBytes k a b c d ++ (addrBytes k' a' b' c' d' ++ ([0, p % 256] ++ b2 n)) by simp [b2]]
          rw [specOnesSum hu (by omega), if_neg (by omega)]
          rfl
        · rw [if_pos (show k = 6 by omega)] at hl hu ⊢
          rw [if_neg h4, specPut32 (by omega)]
          simp only [Option.bind_some]
          rw [if_pos (by simp; omega), if_pos (by simp; omega)]
          rw [show addrBytes k a b c d ++ addrBytes k' a' b' c' d' ++ [n / 16777216 % 256, n / 65536 % 256, n / 256 % 256, n % 256] ++ [0, 0, 0, p % 256] = addrBytes k a b c d ++ (addrBytes k' a' b' c' d' ++ (b4 n ++ [0, 0, 0, p % 256])) by simp [b4]]
          rw [specOnesSum hu (by omega), if_neg (by omega)]
          rfl
      · rw [decide_eq_false h2, if_neg (fun hh => h2 hh.2.2)]
        exact specPseudo_j (by omega) _ _ _ _ _ _ _ _ _ _ _ _
    · rw [decide_eq_false h1, if_neg Bool.false_ne_true, if_neg (fun hh => h1 hh.2.1)]
      exact specPseudo_j (by omega) _ _ _ _ _ _ _ _ _ _ _ _
  · rw [if_neg hp, if_neg (fun hh => hp hh.1)]
    exact specPseudo_j (by omega) _ _ _ _ _ _ _ _ _ _ _ _
theorem flat3 (A B C D : List Int) : [A, B, [C, D].flatten].flatten = A ++ (B ++ (C ++ D)) := by simp
theorem pseudoBytes_6 {k : Int} (h : k = 6) (a b c d k' a' b' c' d' p n : Int) : pseudoBytes k a b c d k' a' b' c' d' p n = addrBytes k a b c d ++ (addrBytes k' a' b' c' d' ++ (b4 n ++ [0, 0, 0, p % 256])) := by
  unfold pseudoBytes
  rw [if_pos h]
theorem pseudoBytes_4 {k : Int} (h : ¬ k = 6) (a b c d k' a' b' c' d' p n : Int) : pseudoBytes k a b c d k' a' b' c' d' p n = addrBytes k a b c d ++ (addrBytes k' a' b' c' d' ++ ([0, p % 256] ++ b2 n)) := by
  unfold pseudoBytes
  rw [if_neg h]
theorem concat2 {m : Nat} (hm : 50 ≤ m) (A B : List Int) (hA : A.length ≤ 100) (hB : B.length ≤ 100) : slices_Concat_byte_byte.f m [A, B] = some [A, B].flatten :=
  concat (by simp) (by simp; omega) (by simp; omega)
theorem concat3 {m : Nat} (hm : 50 ≤ m) (A B C : List Int) (hA : A.length ≤ 100) (hB : B.length ≤ 100) (hC : C.length ≤ 100) : slices_Concat_byte_byte.f m [A, B, C] = some [A, B, C].flatten :=
  concat (by simp) (by simp; omega) (by simp; omega)
theorem implPseudo_j {m : Nat} (hm : 90 ≤ m) (k a b c d k' a' b' c' d' : Int) (C D : List Int) (hC : C.length ≤ 8) (hD : D.length ≤ 8) (hu : U8 (addrBytes k a b c d ++ (addrBytes k' a' b' c' d' ++ (C ++ D)))) :
    impl_pseudoSum.j0 (m + 1) [C, D].flatten k a b c d k' a' b' c' d' = some (ones (addrBytes k a b c d ++ (addrBytes k' a' b' c' d' ++ (C ++ D))) 0) := by
  have l1 := addrBytes_len k a b c d
  have l2 := addrBytes_len k' a' b' c' d'
  have hl : (addrBytes k a b c d ++ (addrBytes k' a' b' c' d' ++ (C ++ D))).length ≤ 48 := by simp only [List.length_append]; omega
  have hf : [C, D].flatten.length ≤ 100 := by simp; omega
  simp only [impl_pseudoSum.j0]
  rw [implAddrBytes (by omega), Option.bind_some, implAddrBytes (by omega), Option.bind_some, concat3 (by omega) _ _ _ (by omega) (by omega) hf, Option.bind_some, flat3, implOnes hu (by omega) (by omega), Option.bind_some]
theorem implPseudo {m : Nat} (hm : 100 ≤ m) (k a b c d k' a' b' c' d' p n : Int) : impl_pseudoSum.f m k a b c d k' a' b' c' d' p n = some (ones (pseudoBytes k a b c d k' a' b' c' d' p n) 0) := by
  obtain ⟨m, rfl⟩ : ∃ q, m = q + 1 := ⟨m - 1, by omega⟩
  have hu := pseudo_u8 k a b c d k' a' b' c' d' p n
  have e2 : (b2 n).length = 2 := rfl
  have e4 : (b4 n).length = 4 := rfl
  unfold impl_pseudoSum.f
  rw [implPut16 (by omega), Option.bind_some, concat2 (by omega) _ _ (by simp) (by omega), Option.bind_some]
  by_cases h6 : k = 6
  · rw [pseudoBytes_6 h6] at hu ⊢
    rw [if_pos h6, implPut32 (by omega), Option.bind_some, concat2 (by omega) _ _ (by omega) (by simp), Option.bind_some]
    exact implPseudo_j (by omega) _ _ _ _ _ _ _ _ _ _ _ _ (by omega) (by simp) hu
  · rw [pseudoBytes_4 h6] at hu ⊢
    rw [if_neg h6]
    exact implPseudo_j (by omega) _ _ _ _ _ _ _ _ _ _ _ _ (by simp) (by omega) hu
theorem implPseudoSum {m : Nat} (hm : 100 ≤ m) (k a b c d k' a' b' c' d' p n : Int) : impl_PseudoSum.f m k a b c d k' a' b' c' d' p n = some (pseudoV k a b c d k' a' b' c' d' p n) := by
  unfold impl_PseudoSum.f pseudoV
  rw [areBoth, isByte, within, implPseudo hm]
  simp only [Option.bind_some, decide_eq_true_eq]
  by_cases hp : pairB k a b c d k' a' b' c' d' = true
  · by_cases h1 : 0 ≤ p ∧ p ≤ 255
    · by_cases h2 : 0 ≤ n ∧ n ≤ 1500
      · rw [if_pos hp, if_pos h1, if_pos h2, if_pos ⟨hp, h1, h2⟩]
      · rw [if_pos hp, if_pos h1, if_neg h2, if_neg (fun hh => h2 hh.2.2)]
    · rw [if_pos hp, if_neg h1, if_neg (fun hh => h1 hh.2.1)]
  · rw [if_neg hp, if_neg (fun hh => hp hh.1)]

end ExactPseudoSum
open ExactPseudoSum

theorem FnExactPseudoSum : laws_FnExactPseudoSum.Pure := by
  intro a0 a1 a2 a3 a4 b0 b1 b2 b3 b4 p n _ _ _ _ _ _ _ _ _ _ _ _
  refine ⟨100, ?_⟩
  unfold laws_FnExactPseudoSum.f
  simp only [toAddr, Option.bind_some, specPseudoSum (Nat.le_refl 100), implPseudoSum (Nat.le_refl 100), if_true]

end Go.Proofs.Ythkocmpilkoibaa.Pure
