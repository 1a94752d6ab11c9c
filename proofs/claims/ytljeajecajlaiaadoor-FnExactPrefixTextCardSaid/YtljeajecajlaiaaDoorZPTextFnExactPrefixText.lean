/- The law PrefixText: the program's text of a prefix is the reference's, for all prefixes. Conditions: the tables of powers of ten and of trailing zeros lie as their initialisers lay them. -/
import Derived.Test.YtljeajecajlaiaaDoorZLawFnExactPrefixText
import Derived.Test.YtljeajecajlaiaaDoorGFnExactPrefixTextx7
import Derived.Test.YtljeajecajlaiaaDoorGFnExactPrefixTextx11
namespace Go.Proofs.YtljeajecajlaiaaDoor.PrefixLaw
open Go.RowKit Go.Shelf Go.Proofs.YtljeajecajlaiaaDoorW.PrintWords Go.Proofs.YtljeajecajlaiaaDoorW.PrintLast Go.Proofs.YtljeajecajlaiaaDoorW.PrintMore Go.Proofs.YtljeajecajlaiaaDoor.Frame Go.Proofs.YtljeajecajlaiaaDoor.Base Go.Proofs.YtljeajecajlaiaaDoor.FFnExactPrefixText
set_option linter.unusedVariables false
set_option linter.unusedSimpArgs false
namespace Plain
theorem toAddr (k a b c d : Int) : laws_toAddr.f k a b c d = some (k, a, b, c, d) := rfl

theorem specHalf (n : Int) : spec_l03Half.f n = some (decide (Half n)) := by
  unfold spec_l03Half.f Half
  by_cases h : n ≥ 0
  · rw [if_pos h]
    simp [h]
  · rw [if_neg h]
    simp [h]
theorem specAddrOk (k a b c d : Int) : spec_AddrOk.f k a b c d = some (decide (AddrOK k a b c d)) := by
  unfold spec_AddrOk.f
  simp only [specHalf, Option.bind_some]
  unfold AddrOK
  by_cases h4 : k = 4
  · subst h4
    by_cases ha : a = 0 <;> by_cases hb : b = 0 <;> by_cases hc : c = 0 <;> simp [ha, hb, hc]
  · by_cases h6 : k = 6
    · subst h6
      by_cases ha : Half a <;> by_cases hb : Half b <;> by_cases hc : Half c <;> simp [ha, hb, hc]
    · simp [h4, h6]

theorem isLong (n : Int) : impl_isLong.f n = some (decide (Half n)) := by
  unfold impl_isLong.f impl_within.f Half
  by_cases h : n ≥ 0
  · rw [if_pos h]
    simp [h]
  · rw [if_neg h]
    simp [h]
theorem implAddrOk (k a b c d : Int) : impl_AddrOk.f k a b c d = some (decide (AddrOK k a b c d)) := by
  unfold impl_AddrOk.f
  simp only [isLong, Option.bind_some]
  unfold AddrOK
  by_cases h4 : k = 4
  · subst h4
    by_cases ha : a = 0 <;> by_cases hb : b = 0 <;> by_cases hc : c = 0 <;> simp [ha, hb, hc]
  · by_cases h6 : k = 6
    · subst h6
      by_cases ha : Half a <;> by_cases hb : Half b <;> by_cases hc : Half c <;> simp [ha, hb, hc]
    · simp [h4, h6]

theorem within (n lo hi : Int) : impl_within.f n lo hi = some (decide (lo ≤ n ∧ n ≤ hi)) := by
  unfold impl_within.f
  by_cases h : n ≥ lo
  · rw [if_pos h]
    simp [h]
  · rw [if_neg h]
    simp [h]

theorem shr_nat (x : Int) (n : Nat) (h : n ≤ 64) (y : Int) (hy : y = n) : shr .i64 x y = x / 2 ^ n := by
  subst hy
  unfold shr
  rw [Int.toNat_natCast, Nat.min_eq_left (by exact h)]
theorem put_step (k : Nat) (a n : Int) (ys : List Int) (L i : Int) (m : Nat) (hL : L = ys.length) (h0 : 0 ≤ i) (h : i < L) (hn : n = L) (hn1 : n ≤ 8) (hm : (m : Int) = 8 * (n - 1 - i)) :
    impl_put.l0 (k + 1) a n ys L i = impl_put.l0 k a n (ys.set i.toNat (a / 2 ^ m % 256)) L (i + 1) := by
  simp only [impl_put.l0]
  rw [if_pos h, w64 (n := n - 1) (by omega) (by omega), w64 (n := n - 1 - i) (by omega) (by omega), w64 (n := 8 * (n - 1 - i)) (by omega) (by omega), if_pos (by omega), if_pos h0, if_pos (by omega),
    shr_nat a m (by omega) _ hm.symm, w64 (by omega) (by omega)]
theorem put_end (k : Nat) (a n : Int) (ys : List Int) (L i : Int) (h : ¬ i < L) : impl_put.l0 (k + 1) a n ys L i = some ys := by
  simp only [impl_put.l0]
  rw [if_neg h]
theorem put2 {k : Nat} (hk : 10 ≤ k) {a : Int} : impl_put.f k a 2 = some [a / 256 % 256, a % 256] := by
  obtain ⟨k, rfl⟩ : ∃ m, k = m + 3 := ⟨k - 3, by omega⟩
  unfold impl_put.f
  rw [if_pos (by decide), if_pos (by decide)]
  simp only [Option.bind_some]
  rw [put_step _ _ _ _ _ _ 8 (by simp) (by decide) (by decide) (by decide) (by decide) (by decide)]
  rw [put_step _ _ _ _ _ _ 0 (by simp) (by decide) (by decide) (by decide) (by decide) (by decide)]
  rw [put_end _ _ _ _ _ _ (by decide)]
  congr 1
  simp [List.replicate, List.set]
theorem put4 {k : Nat} (hk : 10 ≤ k) {a : Int} : impl_put.f k a 4 = some [a / 16777216 % 256, a / 65536 % 256, a / 256 % 256, a % 256] := by
  obtain ⟨k, rfl⟩ : ∃ m, k = m + 5 := ⟨k - 5, by omega⟩
  unfold impl_put.f
  rw [if_pos (by decide), if_pos (by decide)]
  simp only [Option.bind_some]
  rw [put_step _ _ _ _ _ _ 24 (by simp) (by decide) (by decide) (by decide) (by decide) (by decide)]
  rw [put_step _ _ _ _ _ _ 16 (by simp) (by decide) (by decide) (by decide) (by decide) (by decide)]
  rw [put_step _ _ _ _ _ _ 8 (by simp) (by decide) (by decide) (by decide) (by decide) (by decide)]
  rw [put_step _ _ _ _ _ _ 0 (by simp) (by decide) (by decide) (by decide) (by decide) (by decide)]
  rw [put_end _ _ _ _ _ _ (by decide)]
  congr 1
  simp [List.replicate, List.set]
theorem put6 {k : Nat} (hk : 10 ≤ k) {a : Int} : impl_put.f k a 6 = some [a / 1099511627776 % 256, a / 4294967296 % 256, a / 16777216 % 256, a / 65536 % 256, a / 256 % 256, a % 256] := by
  obtain ⟨k, rfl⟩ : ∃ m, k = m + 7 := ⟨k - 7, by omega⟩
  unfold impl_put.f
  rw [if_pos (by decide), if_pos (by decide)]
  simp only [Option.bind_some]
  rw [put_step _ _ _ _ _ _ 40 (by simp) (by decide) (by decide) (by decide) (by decide) (by decide)]
  rw [put_step _ _ _ _ _ _ 32 (by simp) (by decide) (by decide) (by decide) (by decide) (by decide)]
  rw [put_step _ _ _ _ _ _ 24 (by simp) (by decide) (by decide) (by decide) (by decide) (by decide)]
  rw [put_step _ _ _ _ _ _ 16 (by simp) (by decide) (by decide) (by decide) (by decide) (by decide)]
  rw [put_step _ _ _ _ _ _ 8 (by simp) (by decide) (by decide) (by decide) (by decide) (by decide)]
  rw [put_step _ _ _ _ _ _ 0 (by simp) (by decide) (by decide) (by decide) (by decide) (by decide)]
  rw [put_end _ _ _ _ _ _ (by decide)]
  congr 1
  simp [List.replicate, List.set]

theorem specLow {a m : Int} (_ha : -9223372036854775808 ≤ a ∧ a ≤ 9223372036854775807) (hm0 : 0 < m) (hm1 : m ≤ 4294967296) : spec_l01Low.f a m = some (a % m) := by
  unfold spec_l01Low.f
  have h1 := Int.emod_nonneg a (show m ≠ 0 by omega)
  have h2 := Int.emod_lt_of_pos a hm0
  have h3 := Int.tmod_eq_emod (a := a) (b := m)
  rw [if_neg (by omega)]
  by_cases h : 0 ≤ a
  · rw [tmod_pos h, if_neg (by omega)]
  · have e := Int.emod_def a m
    by_cases hz : m ∣ a
    · have h4 : Int.tmod a m = 0 := Int.tmod_eq_zero_of_dvd hz
      have h5 : a % m = 0 := Int.emod_eq_zero_of_dvd hz
      rw [h4, h5, if_neg (by omega)]
    · have h4 : Int.tmod a m = a % m - m := by
        rw [h3, if_neg (by intro hh; rcases hh with hh | hh; exact h hh; exact hz hh)]
        omega
      rw [h4, if_pos (by omega), w64 (by omega) (by omega)]
      congr 1
      omega

theorem specPut16 {a : Int} (hb : -9223372036854775808 ≤ a ∧ a ≤ 9223372036854775807) : spec_Put16.f a = some [a / 256 % 256, a % 256] := by
  unfold spec_Put16.f
  rw [specLow hb (by omega) (by omega)]
  simp only [Option.bind_some]
  rw [tdiv_pos (by omega), tmod_pos (by omega), w64 (by omega) (by omega), show a % 65536 / 256 % 256 = a / 256 % 256 by omega, show a % 65536 % 256 % 256 = a % 256 by omega]

theorem specPut32 {a : Int} (hb : -9223372036854775808 ≤ a ∧ a ≤ 9223372036854775807) : spec_Put32.f a = some [a / 16777216 % 256, a / 65536 % 256, a / 256 % 256, a % 256] := by
  unfold spec_Put32.f
  rw [specLow hb (by omega) (by omega)]
  simp only [Option.bind_some]
  rw [tdiv_pos (by omega), tmod_pos (by omega), w64 (by omega) (by omega), specPut16 (by omega), specPut16 (by omega)]
  simp only [Option.bind_some]
  rw [if_pos (by simp), show a % 4294967296 / 65536 / 256 % 256 = a / 16777216 % 256 by omega, show a % 4294967296 / 65536 % 256 = a / 65536 % 256 by omega, show a % 4294967296 % 65536 / 256 % 256 = a / 256 % 256 by omega, show a % 4294967296 % 65536 % 256 = a % 256 by omega]
  rfl

theorem grow {n : Int} (h0 : 0 ≤ n) (h1 : n ≤ 140737488355328) (l : List Int) : slices_Grow_byte_byte.f l n = some [] := by
  unfold slices_Grow_byte_byte.f
  rw [if_pos h0, if_pos h1]
theorem concat_l1 (ls : List (List Int)) (hn : ls.length ≤ 1000) (d : Nat) : ∀ (k : Nat) (acc : List Int) (i : Int), 0 ≤ i → i + d = ls.length → d < k → acc.length + ((ls.drop i.toNat).flatten).length < 140737488355328 → slices_Concat_byte_byte.l1 k acc ls ls.length i = some (acc ++ (ls.drop i.toNat).flatten) := by
  induction d with
  | zero =>
    intro k acc i h0 hi hk hl
    obtain ⟨k, rfl⟩ := pos_k hk
    simp only [slices_Concat_byte_byte.l1]
    rw [if_neg (by omega), List.drop_eq_nil_of_le (by omega)]
    simp
  | succ d ih =>
    intro k acc i h0 hi hk hl
    obtain ⟨k, rfl⟩ := pos_k hk
    have e : ls.drop i.toNat = rd_L1 ls i :: ls.drop (i + 1).toNat := dropG ([] : List Int) h0 (show i < ls.length by omega)
    rw [e, List.flatten_cons, List.length_append] at hl
    simp only [slices_Concat_byte_byte.l1]
    rw [if_pos (by omega), if_pos h0, if_pos (by omega), if_pos (by omega), w64 (by omega) (by omega), ih k _ (i + 1) (by omega) (by omega) (by omega) (by rw [List.length_append]; omega), e, List.flatten_cons, List.append_assoc]
theorem concat_l0 (ls : List (List Int)) (hn : ls.length ≤ 1000) (hb : ls.flatten.length < 140737488355328) (d : Nat) : ∀ (k : Nat) (s i : Int), 0 ≤ i → i + d = ls.length → d + ls.length + 10 < k → 0 ≤ s → s + ((ls.drop i.toNat).flatten).length < 140737488355328 → slices_Concat_byte_byte.l0 k ls s ls ls.length i = some ls.flatten := by
  induction d with
  | zero =>
    intro k s i h0 hi hk hs hl
    obtain ⟨k, rfl⟩ := pos_k hk
    simp only [slices_Concat_byte_byte.l0]
    rw [if_neg (by omega), grow hs (by omega)]
    simp only [Option.bind_some]
    rw [concat_l1 ls hn ls.length k [] 0 (by omega) (by omega) (by omega) (by simpa using hb)]
    simp
  | succ d ih =>
    intro k s i h0 hi hk hs hl
    obtain ⟨k, rfl⟩ := pos_k hk
    have e : ls.drop i.toNat = rd_L1 ls i :: ls.drop (i + 1).toNat := dropG ([] : List Int) h0 (show i < ls.length by omega)
    rw [e, List.flatten_cons, List.length_append] at hl
    simp only [slices_Concat_byte_byte.l0]
    rw [if_pos (by omega), if_pos h0, if_pos (by omega), w64 (n := s + ((rd_L1 ls i).length : Int)) (by omega) (by omega), if_neg (by omega), w64 (by omega) (by omega), ih k _ (i + 1) (by omega) (by omega) (by omega) (by omega) (by omega)]
theorem concat {ls : List (List Int)} (hn : ls.length ≤ 1000) (hb : ls.flatten.length < 140737488355328) {k : Nat} (hk : 2 * ls.length + 10 < k) : slices_Concat_byte_byte.f k ls = some ls.flatten := by
  unfold slices_Concat_byte_byte.f
  rw [concat_l0 ls hn hb ls.length k 0 0 (by omega) (by omega) (by omega) (by omega) (by show (0 : Int) + (ls.flatten.length : Int) < _; omega)]

theorem specAddrBytes (k a b c d : Int) : spec_AddrBytes.f k a b c d = some (addrBytes k a b c d) := by
  unfold spec_AddrBytes.f addrBytes
  rw [specAddrOk]
  simp only [Option.bind_some]
  by_cases h : AddrOK k a b c d
  · rw [decide_eq_true h, if_pos rfl, if_pos h]
    have h' := h
    unfold AddrOK Half at h'
    by_cases h4 : k = 4
    · rw [if_pos h4, if_pos h4, specPut32 (by omega)]
      rfl
    · rw [if_neg h4, if_neg h4, specPut32 (a := a) (by omega), specPut32 (a := b) (by omega), specPut32 (a := c) (by omega), specPut32 (a := d) (by omega)]
      simp only [Option.bind_some]
      rw [if_pos (by simp), if_pos (by simp), if_pos (by simp)]
      rfl
  · rw [decide_eq_false h, if_neg Bool.false_ne_true, if_neg h]
theorem implPut32 {k : Nat} (hk : 10 ≤ k) (a : Int) : impl_Put32.f k a = some (b4 a) := by
  unfold impl_Put32.f
  rw [put4 hk]
  rfl
theorem implAddrBytes {n : Nat} (hn : 30 ≤ n) (k a b c d : Int) : impl_AddrBytes.f n k a b c d = some (addrBytes k a b c d) := by
  unfold impl_AddrBytes.f addrBytes
  rw [implAddrOk]
  simp only [Option.bind_some]
  by_cases h : AddrOK k a b c d
  · rw [decide_eq_true h, if_pos rfl, if_pos h]
    by_cases h4 : k = 4
    · rw [if_pos h4, if_pos h4, implPut32 (by omega)]
      rfl
    · rw [if_neg h4, if_neg h4, implPut32 (by omega), implPut32 (by omega), implPut32 (by omega), implPut32 (by omega)]
      simp only [Option.bind_some]
      rw [concat (by simp) (by simp [b4]) (by simp; omega)]
      simp
  · rw [decide_eq_false h, if_neg Bool.false_ne_true, if_neg h]
theorem addrBytes_len (k a b c d : Int) : (addrBytes k a b c d).length ≤ 16 := by
  unfold addrBytes
  split
  · split <;> simp [b4]
  · simp
theorem addrBytes_u8 (k a b c d : Int) : U8 (addrBytes k a b c d) := by
  unfold addrBytes
  split
  · split
    · exact U8.b4 _
    · exact (U8.b4 _).append ((U8.b4 _).append ((U8.b4 _).append (U8.b4 _)))
  · exact U8.nil

theorem beOf_step (k : Nat) (n : Int) (xs : List Int) (hx : U8 xs) (L i : Int) (hL : L = xs.length) (h0 : 0 ≤ i) (h : i < L) (hl : L ≤ 100) (hn0 : 0 ≤ n) (hn : n < 36028797018963968) :
    impl_beOf.l0 (k + 1) n xs L i = impl_beOf.l0 k (n * 256 + rd xs i) xs L (i + 1) := by
  have hb := hx.byte i
  simp only [impl_beOf.l0]
  rw [if_pos h, if_pos h0, if_pos (by omega), or_be hn0 hn hb.1 hb.2, w64 (by omega) (by omega)]
theorem beOf_end (k : Nat) (n : Int) (xs : List Int) (L i : Int) (h : ¬ i < L) : impl_beOf.l0 (k + 1) n xs L i = some n := by
  simp only [impl_beOf.l0]
  rw [if_neg h]
theorem beOf2 {k : Nat} (hk : 10 ≤ k) {a b : Int} (hx : U8 [a, b]) : impl_beOf.f k [a, b] = some (a * 256 + b) := by
  obtain ⟨k, rfl⟩ : ∃ m, k = m + 3 := ⟨k - 3, by omega⟩
  have ha := hx a (by simp)
  have hb := hx b (by simp)
  unfold impl_beOf.f
  rw [beOf_step _ _ _ hx _ _ rfl (by decide) (by simp) (by simp) (by omega) (by omega)]
  rw [show rd [a, b] 0 = a from rfl]
  rw [beOf_step _ _ _ hx _ _ rfl (by decide) (by simp) (by simp) (by omega) (by omega)]
  rw [show rd [a, b] (0 + 1) = b from rfl]
  rw [beOf_end _ _ _ _ _ (by simp)]
  congr 1
  omega
theorem beOf4 {k : Nat} (hk : 10 ≤ k) {a b c d : Int} (hx : U8 [a, b, c, d]) : impl_beOf.f k [a, b, c, d] = some (((a * 256 + b) * 256 + c) * 256 + d) := by
  obtain ⟨k, rfl⟩ : ∃ m, k = m + 5 := ⟨k - 5, by omega⟩
  have ha := hx a (by simp)
  have hb := hx b (by simp)
  have hc := hx c (by simp)
  have hd := hx d (by simp)
  unfold impl_beOf.f
  rw [beOf_step _ _ _ hx _ _ rfl (by decide) (by simp) (by simp) (by omega) (by omega)]
  rw [show rd [a, b, c, d] 0 = a from rfl]
  rw [beOf_step _ _ _ hx _ _ rfl (by decide) (by simp) (by simp) (by omega) (by omega)]
  rw [show rd [a, b, c, d] (0 + 1) = b from rfl]
  rw [beOf_step _ _ _ hx _ _ rfl (by decide) (by simp) (by simp) (by omega) (by omega)]
  rw [show rd [a, b, c, d] (0 + 1 + 1) = c from rfl]
  rw [beOf_step _ _ _ hx _ _ rfl (by decide) (by simp) (by simp) (by omega) (by omega)]
  rw [show rd [a, b, c, d] (0 + 1 + 1 + 1) = d from rfl]
  rw [beOf_end _ _ _ _ _ (by simp)]
  congr 1
  omega
theorem beOf6 {k : Nat} (hk : 10 ≤ k) {a b c d e f : Int} (hx : U8 [a, b, c, d, e, f]) : impl_beOf.f k [a, b, c, d, e, f] = some ((a * 256 + b) * 4294967296 + (((c * 256 + d) * 256 + e) * 256 + f)) := by
  obtain ⟨k, rfl⟩ : ∃ m, k = m + 7 := ⟨k - 7, by omega⟩
  have ha := hx a (by simp)
  have hb := hx b (by simp)
  have hc := hx c (by simp)
  have hd := hx d (by simp)
  have he := hx e (by simp)
  have hf := hx f (by simp)
  unfold impl_beOf.f
  rw [beOf_step _ _ _ hx _ _ rfl (by decide) (by simp) (by simp) (by omega) (by omega)]
  rw [show rd [a, b, c, d, e, f] 0 = a from rfl]
  rw [beOf_step _ _ _ hx _ _ rfl (by decide) (by simp) (by simp) (by omega) (by omega)]
  rw [show rd [a, b, c, d, e, f] (0 + 1) = b from rfl]
  rw [beOf_step _ _ _ hx _ _ rfl (by decide) (by simp) (by simp) (by omega) (by omega)]
  rw [show rd [a, b, c, d, e, f] (0 + 1 + 1) = c from rfl]
  rw [beOf_step _ _ _ hx _ _ rfl (by decide) (by simp) (by simp) (by omega) (by omega)]
  rw [show rd [a, b, c, d, e, f] (0 + 1 + 1 + 1) = d from rfl]
  rw [beOf_step _ _ _ hx _ _ rfl (by decide) (by simp) (by simp) (by omega) (by omega)]
  rw [show rd [a, b, c, d, e, f] (0 + 1 + 1 + 1 + 1) = e from rfl]
  rw [beOf_step _ _ _ hx _ _ rfl (by decide) (by simp) (by simp) (by omega) (by omega)]
  rw [show rd [a, b, c, d, e, f] (0 + 1 + 1 + 1 + 1 + 1) = f from rfl]
  rw [beOf_end _ _ _ _ _ (by simp)]
  congr 1
  omega

theorem beOf2i {xs : List Int} (hx : U8 xs) {i j : Int} (h0 : 0 ≤ i) (hj : j = i + 2) (h : j ≤ xs.length) {k : Nat} (hk : 10 ≤ k) : impl_beOf.f k ((xs.take j.toNat).drop i.toNat) = some (be2 xs i) := by
  subst hj
  have h1 := hx.byte i
  have h2 := hx.byte (i + 1)
  rw [slice2 h0 h, beOf2 hk (U8.cons h1.1 h1.2 (U8.cons h2.1 h2.2 U8.nil))]
  rfl
theorem beOf4i {xs : List Int} (hx : U8 xs) {i j : Int} (h0 : 0 ≤ i) (hj : j = i + 4) (h : j ≤ xs.length) {k : Nat} (hk : 10 ≤ k) : impl_beOf.f k ((xs.take j.toNat).drop i.toNat) = some (be4 xs i) := by
  subst hj
  have h1 := hx.byte i
  have h2 := hx.byte (i + 1)
  have h3 := hx.byte (i + 2)
  have h4 := hx.byte (i + 3)
  rw [slice4 h0 h, beOf4 hk (U8.cons h1.1 h1.2 (U8.cons h2.1 h2.2 (U8.cons h3.1 h3.2 (U8.cons h4.1 h4.2 U8.nil))))]
  rfl
theorem beOf6i {xs : List Int} (hx : U8 xs) {i j : Int} (h0 : 0 ≤ i) (hj : j = i + 6) (h : j ≤ xs.length) {k : Nat} (hk : 10 ≤ k) : impl_beOf.f k ((xs.take j.toNat).drop i.toNat) = some (be6 xs i) := by
  subst hj
  have h1 := hx.byte i
  have h2 := hx.byte (i + 1)
  have h3 := hx.byte (i + 2)
  have h4 := hx.byte (i + 3)
  have h5 := hx.byte (i + 4)
  have h6 := hx.byte (i + 5)
  rw [slice6 h0 h, beOf6 hk (U8.cons h1.1 h1.2 (U8.cons h2.1 h2.2 (U8.cons h3.1 h3.2 (U8.cons h4.1 h4.2 (U8.cons h5.1 h5.2 (U8.cons h6.1 h6.2 U8.nil))))))]
  unfold be6 be2 be4
  rw [show i + 2 + 1 = i + 3 by omega, show i + 2 + 2 = i + 4 by omega, show i + 2 + 3 = i + 5 by omega]

theorem specBe32_step (k : Nat) (xs : List Int) (hx : U8 xs) (a n i : Int) (h0 : 0 ≤ a) (hi : 0 ≤ i) (hi4 : i < 4) (h : a + 4 ≤ xs.length) (hn : xs.length ≤ 140737488355328) (hn0 : 0 ≤ n) (hn1 : n < 36028797018963968) :
    spec_Be32.l0 (k + 1) xs a n i = spec_Be32.l0 k xs a (n * 256 + rd xs (a + i)) (i + 1) := by
  have hb := hx.byte (a + i)
  simp only [spec_Be32.l0]
  rw [if_pos hi4, w64 (n := a + i) (by omega) (by omega), if_pos (by omega), if_pos (by omega), w64 (n := i + 1) (by omega) (by omega), w64 (n := rd xs (a + i)) (by omega) (by omega), w64 (n := 256 * n) (by omega) (by omega), w64 (by omega) (by omega), Int.mul_comm 256 n]
theorem specBe32 {xs : List Int} (hx : U8 xs) (hn : xs.length ≤ 140737488355328) (a : Int) (_ha : -9223372036854775808 ≤ a ∧ a ≤ 9223372036854775807) {k : Nat} (hk : 10 ≤ k) :
    spec_Be32.f k xs a = some (if 0 ≤ a ∧ a + 4 ≤ xs.length then (((rd xs a * 256 + rd xs (a + 1)) * 256 + rd xs (a + 2)) * 256 + rd xs (a + 3), true) else (0, false)) := by
  obtain ⟨k, rfl⟩ : ∃ m, k = m + 6 := ⟨k - 6, by omega⟩
  unfold spec_Be32.f
  rw [w64 (by omega) (by omega)]
  by_cases h : 0 ≤ a ∧ a + 4 ≤ xs.length
  · have h1 := hx.byte a
    have h2 := hx.byte (a + 1)
    have h3 := hx.byte (a + 2)
    have h4 := hx.byte (a + 3)
    rw [if_pos h, if_neg (by omega), if_neg (by omega)]
    rw [specBe32_step _ _ hx _ _ _ h.1 (by omega) (by omega) h.2 hn (by omega) (by omega), show a + 0 = a by omega, show (0 : Int) + 1 = 1 by rfl]
    rw [specBe32_step _ _ hx _ _ _ h.1 (by omega) (by omega) h.2 hn (by omega) (by omega), show (1 : Int) + 1 = 2 by rfl]
    rw [specBe32_step _ _ hx _ _ _ h.1 (by omega) (by omega) h.2 hn (by omega) (by omega), show (2 : Int) + 1 = 3 by rfl]
    rw [specBe32_step _ _ hx _ _ _ h.1 (by omega) (by omega) h.2 hn (by omega) (by omega), show (3 : Int) + 1 = 4 by rfl]
    simp only [spec_Be32.l0]
    rw [if_neg (by decide), show (0 : Int) * 256 + rd xs a = rd xs a by omega]
  · rw [if_neg h]
    by_cases h0 : a < 0
    · rw [if_pos h0]
    · rw [if_neg h0, if_pos (by omega)]

theorem specAddrOf {xs : List Int} (hx : U8 xs) (hn : xs.length ≤ 140737488355328) {k : Nat} (hk : 10 ≤ k) : spec_AddrOf.f k xs = some (addrOf xs) := by
  unfold spec_AddrOf.f addrOf be4
  by_cases h4 : (xs.length : Int) = 4
  · rw [if_pos h4, if_pos h4, specBe32 hx hn 0 (by omega) hk, if_pos (by omega)]
    rfl
  · rw [if_neg h4, if_neg h4]
    by_cases h16 : (xs.length : Int) = 16
    · rw [if_pos h16, if_pos h16, specBe32 hx hn 0 (by omega) hk, if_pos (by omega), specBe32 hx hn 4 (by omega) hk, if_pos (by omega), specBe32 hx hn 8 (by omega) hk, if_pos (by omega), specBe32 hx hn 12 (by omega) hk, if_pos (by omega)]
      rfl
    · rw [if_neg h16, if_neg h16]

theorem implAddrOf {xs : List Int} (hx : U8 xs) {k : Nat} (hk : 10 ≤ k) : impl_AddrOf.f k xs = some (addrOf xs) := by
  unfold impl_AddrOf.f addrOf
  by_cases h4 : (xs.length : Int) = 4
  · have h := beOf4i hx (i := 0) (j := 4) (by omega) (by omega) (by omega) hk
    rw [List.take_of_length_le (by omega)] at h
    rw [if_pos h4, if_pos h4, show impl_beOf.f k xs = some (be4 xs 0) from h]
    rfl
  · rw [if_neg h4, if_neg h4]
    by_cases h16 : (xs.length : Int) = 16
    · have h := beOf4i hx (i := 12) (j := 16) (by omega) (by omega) (by omega) hk
      rw [List.take_of_length_le (by omega)] at h
      rw [if_pos h16, if_pos h16, if_pos (by omega), show impl_beOf.f k (xs.take 4) = some (be4 xs 0) from beOf4i hx (i := 0) (j := 4) (by omega) (by omega) (by omega) hk]
      simp only [Option.bind_some]
      rw [if_pos (by omega), if_pos (by omega), show impl_beOf.f k ((xs.take 8).drop 4) = some (be4 xs 4) from beOf4i hx (i := 4) (j := 8) (by omega) (by omega) (by omega) hk]
      simp only [Option.bind_some]
      rw [if_pos (by omega), if_pos (by omega), show impl_beOf.f k ((xs.take 12).drop 8) = some (be4 xs 8) from beOf4i hx (i := 8) (j := 12) (by omega) (by omega) (by omega) hk, show impl_beOf.f k (xs.drop 12) = some (be4 xs 12) from h]
      rfl
    · rw [if_neg h16, if_neg h16]

/-! an address cut to its first bits -/
def keepN (n : Int) : Nat := if n < 0 then 0 else if n > 8 then 8 else n.toNat
theorem keepN_le (n : Int) : keepN n ≤ 8 := by
  unfold keepN
  split
  · omega
  · split <;> omega
def maskB (b : Int) (j : Nat) : Int := b - b % 2 ^ (8 - j)
def midB (b : Int) (lo hi : Nat) : Int := b - b % 2 ^ (8 - lo) + b % 2 ^ (8 - hi)
def mk (n : Int) : List Int → List Int
  | [] => []
  | b :: r => maskB b (keepN n) :: mk (n - 8) r
def st (n i : Int) : List Int → List Int
  | [] => []
  | b :: r => midB b (keepN n) (max (keepN n) (keepN i)) :: st (n - 8) (i - 8) r
theorem mk_length (n : Int) (xs : List Int) : (mk n xs).length = xs.length := by
  induction xs generalizing n with
  | nil => rfl
  | cons b r ih => simp [mk, ih]
theorem st_length (n i : Int) (xs : List Int) : (st n i xs).length = xs.length := by
  induction xs generalizing n i with
  | nil => rfl
  | cons b r ih => simp [st, ih]
theorem maskB_u8 {b : Int} (h0 : 0 ≤ b) (h1 : b ≤ 255) (j : Nat) : 0 ≤ maskB b j ∧ maskB b j ≤ 255 := by
  unfold maskB
  have h2 : (0 : Int) < 2 ^ (8 - j) := Int.pow_pos (by decide)
  have h3 := Int.emod_nonneg b (show (2 : Int) ^ (8 - j) ≠ 0 by omega)
  have h4 : b % 2 ^ (8 - j) ≤ b := by
    have := Int.emod_def b (2 ^ (8 - j))
    have h5 : 0 ≤ 2 ^ (8 - j) * (b / 2 ^ (8 - j)) := Int.mul_nonneg (by omega) (Int.ediv_nonneg h0 (by omega))
    omega
  omega
theorem mk_u8 {n : Int} {xs : List Int} (h : U8 xs) : U8 (mk n xs) := by
  induction xs generalizing n with
  | nil => exact U8.nil
  | cons b r ih =>
    have hb := h b (by simp)
    have := maskB_u8 hb.1 hb.2 (keepN n)
    exact U8.cons this.1 this.2 (ih (fun x hx => h x (by simp [hx])))
theorem mid_all : ∀ (b : Fin 256) (lo : Fin 9), midB (b.val : Int) lo.val lo.val = b.val := by decide +kernel
theorem mid_end : ∀ (b : Fin 256) (lo : Fin 9), midB (b.val : Int) lo.val 8 = maskB b.val lo.val := by decide +kernel
theorem mid_step : ∀ (b : Fin 256) (lo : Fin 9) (i : Fin 8), lo.val ≤ i.val →
    midB (b.val : Int) lo.val (i.val + 1) = (if midB (b.val : Int) lo.val i.val / 2 ^ (7 - i.val) % 2 = 1 then (midB (b.val : Int) lo.val i.val - 2 ^ (7 - i.val)) % 256 else midB (b.val : Int) lo.val i.val) ∧ 0 ≤ midB (b.val : Int) lo.val i.val ∧ midB (b.val : Int) lo.val i.val ≤ 255 := by decide +kernel
theorem and_mask : ∀ (b : Fin 256) (t : Fin 9), Go.bits .and .u8 (b.val : Int) ((shr .u16 65280 (t.val : Int)) % 256) = maskB b.val t.val := by decide +kernel
theorem fin_byte {b : Int} (h0 : 0 ≤ b) (h1 : b ≤ 255) : ∃ f : Fin 256, (f.val : Int) = b := ⟨⟨b.toNat, by omega⟩, by simp; omega⟩
theorem st_self {n : Int} {xs : List Int} (h : U8 xs) : st n n xs = xs := by
  induction xs generalizing n with
  | nil => rfl
  | cons b r ih =>
    have hb := h b (by simp)
    obtain ⟨f, hf⟩ := fin_byte hb.1 hb.2
    have := mid_all f ⟨keepN n, by have := keepN_le n; omega⟩
    simp only [st, Nat.max_self]
    rw [ih (fun x hx => h x (by simp [hx])), ← hf, this]
theorem st_done {n i : Int} {xs : List Int} (h : U8 xs) (hi : 8 * (xs.length : Int) ≤ i) : st n i xs = mk n xs := by
  induction xs generalizing n i with
  | nil => rfl
  | cons b r ih =>
    have hb := h b (by simp)
    obtain ⟨f, hf⟩ := fin_byte hb.1 hb.2
    have hk := keepN_le n
    have := mid_end f ⟨keepN n, by omega⟩
    rw [List.length_cons] at hi
    have h8 : keepN i = 8 := by unfold keepN; rw [if_neg (by omega)]; split <;> omega
    simp only [st, mk]
    rw [ih (fun x hx => h x (by simp [hx])) (by omega), h8, Nat.max_eq_right hk, ← hf, this]
theorem st_step {n i : Int} {xs : List Int} (h : U8 xs) (hn : n ≤ i) (h0 : 0 ≤ i) (hi : i < 8 * (xs.length : Int)) :
    (st n (i + 1) xs = if rd (st n i xs) (i / 8) / 2 ^ (7 - (i % 8).toNat) % 2 = 1 then (st n i xs).set (i / 8).toNat ((rd (st n i xs) (i / 8) - 2 ^ (7 - (i % 8).toNat)) % 256) else st n i xs) ∧ 0 ≤ rd (st n i xs) (i / 8) ∧ rd (st n i xs) (i / 8) ≤ 255 := by
  induction xs generalizing n i with
  | nil => simp at hi; omega
  | cons b r ih =>
    have hb := h b (by simp)
    obtain ⟨f, hf⟩ := fin_byte hb.1 hb.2
    have hk := keepN_le n
    by_cases h8 : i < 8
    · have e0 : i / 8 = 0 := by omega
      have e1 : i % 8 = i := by omega
      have k0 : keepN i = i.toNat := by unfold keepN; rw [if_neg (by omega), if_neg (by omega)]
      have k1 : keepN (i + 1) = i.toNat + 1 := by unfold keepN; rw [if_neg (by omega), if_neg (by omega)]; omega
      have kn : keepN n ≤ i.toNat := by unfold keepN; split; omega; split <;> omega
      have t0 : keepN (i - 8) = 0 := by unfold keepN; rw [if_pos (by omega)]
      have ht : st (n - 8) (i + 1 - 8) r = st (n - 8) (i - 8) r := by
        have : ∀ (m : Int) (ys : List Int) (p q : Int), p ≤ 0 → q ≤ 0 → st m p ys = st m q ys := by
          intro m ys
          induction ys generalizing m with
          | nil => intro p q _ _; rfl
          | cons y ys ih2 =>
            intro p q hp hq
            have kp : keepN p = 0 := by unfold keepN; split; rfl; split <;> omega
            have kq : keepN q = 0 := by unfold keepN; split; rfl; split <;> omega
            simp only [st, kp, kq]
            rw [ih2 (m - 8) (p - 8) (q - 8) (by omega) (by omega)]
        exact this _ _ _ _ (by omega) (by omega)
      have hs := mid_step f ⟨keepN n, by omega⟩ ⟨i.toNat, by omega⟩ kn
      rw [hf] at hs
      simp only [st, e0, e1]
      rw [ht, k0, k1, Nat.max_eq_right kn, Nat.max_eq_right (by omega)]
      have hr : ∀ (y : Int) (ys : List Int), rd (y :: ys) 0 = y := fun _ _ => rfl
      rw [hr]
      refine ⟨?_, hs.2⟩
      rw [hs.1]
      simp only
      split
      · rfl
      · rfl
    · have e0 : i / 8 = (i - 8) / 8 + 1 := by omega
      have e1 : i % 8 = (i - 8) % 8 := by omega
      have k0 : keepN i = 8 := by unfold keepN; rw [if_neg (by omega)]; split <;> omega
      have k1 : keepN (i + 1) = 8 := by unfold keepN; rw [if_neg (by omega)]; split <;> omega
      rw [List.length_cons] at hi
      obtain ⟨i1, i2, i3⟩ := ih (n := n - 8) (i := i - 8) (fun x hx => h x (by simp [hx])) (by omega) (by omega) (by omega)
      have hr : ∀ (y : Int) (ys : List Int), rd (y :: ys) ((i - 8) / 8 + 1) = rd ys ((i - 8) / 8) := fun y ys => by
        unfold rd
        rw [show ((i - 8) / 8 + 1).toNat = ((i - 8) / 8).toNat + 1 by omega]
        rfl
      have hset : ∀ (y v : Int) (ys : List Int), (y :: ys).set ((i - 8) / 8 + 1).toNat v = y :: ys.set ((i - 8) / 8).toNat v := fun y v ys => by
        rw [show ((i - 8) / 8 + 1).toNat = ((i - 8) / 8).toNat + 1 by omega]
        rfl
      have s0 : st n i (b :: r) = midB b (keepN n) (max (keepN n) 8) :: st (n - 8) (i - 8) r := by simp only [st]; rw [k0]
      have s1 : st n (i + 1) (b :: r) = midB b (keepN n) (max (keepN n) 8) :: st (n - 8) (i - 8 + 1) r := by simp only [st]; rw [k1, show i + 1 - 8 = i - 8 + 1 by omega]
      rw [s0, s1, e0, e1, hr, hset, i1]
      refine ⟨?_, i2, i3⟩
      split <;> rfl
theorem addrBytes_bits {k a b c d : Int} (h : AddrOK k a b c d) : 8 * ((addrBytes k a b c d).length : Int) = if k = 4 then 32 else 128 := by
  unfold addrBytes
  rw [if_pos h]
  split
  · simp [b4]
  · simp [b4]
def first5 (v : Int × Int × Int × Int × Int × Bool) : Int × Int × Int × Int × Int := (v.1, v.2.1, v.2.2.1, v.2.2.2.1, v.2.2.2.2.1)
def cutV (k a b c d n : Int) : Int × Int × Int × Int × Int :=
  if AddrOK k a b c d ∧ 0 ≤ n ∧ n ≤ (if k = 4 then 32 else 128) then first5 (addrOf (mk n (addrBytes k a b c d))) else (0, 0, 0, 0, 0)

theorem specBits (k a b c d : Int) : spec_l03Bits.f k a b c d = some (if k = 4 then 32 else 128) := by
  unfold spec_l03Bits.f
  split <;> rfl
theorem spec_l1 (ys : List Int) (i k a b c d : Int) (p : Nat) : ∀ (q n : Nat), p + q ≤ 7 → spec_Cut.l1 (n + p) ys i (2 ^ (p + q)) p k a b c d = spec_Cut.l1 n ys i (2 ^ q) 0 k a b c d := by
  induction p with
  | zero => intro q n _; rw [Nat.zero_add]; rfl
  | succ p ih =>
    intro q n h
    have e : (2 : Int) ^ (p + 1 + q) = 2 * 2 ^ (p + q) := by rw [show p + 1 + q = (p + q) + 1 by omega, Int.pow_succ, Int.mul_comm]
    have hp : (0 : Int) < 2 ^ (p + q) := Int.pow_pos (by decide)
    have hb : (2 : Int) ^ (p + q) ≤ 2 ^ 7 := by exact_mod_cast Nat.pow_le_pow_right (by decide) (show p + q ≤ 7 by omega)
    rw [show n + (p + 1) = (n + p) + 1 by omega]
    simp only [spec_Cut.l1]
    rw [if_pos (by omega), e, tdiv_pos (by omega), Int.mul_ediv_cancel_left _ (by decide), w64 (by omega) (by omega), w64 (by omega) (by omega), show ((p + 1 : Nat) : Int) - 1 = (p : Int) by omega]
    exact ih q n (by omega)
theorem spec_l0 (xs : List Int) (hx : U8 xs) (hl : xs.length ≤ 16) (n k a b c d : Int) (hb : (if k = 4 then 32 else 128) = 8 * (xs.length : Int)) (e : Nat) : ∀ (m : Nat) (i : Int), 0 ≤ n → n ≤ i → i + e = 8 * xs.length → 10 * e + 30 < m → spec_Cut.l0 m (st n i xs) i k a b c d = some (first5 (addrOf (mk n xs))) := by
  induction e with
  | zero =>
    intro m i hn hi he hm
    obtain ⟨m, rfl⟩ := pos_k hm
    simp only [spec_Cut.l0]
    rw [specBits, hb]
    simp only [Option.bind_some]
    rw [if_neg (by omega), st_done hx (by omega), specAddrOf (mk_u8 hx) (by rw [mk_length]; omega) (by omega)]
    rfl
  | succ e ih =>
    intro m i hn hi he hm
    obtain ⟨m, rfl⟩ := pos_k hm
    obtain ⟨s1, s2, s3⟩ := st_step (n := n) (i := i) hx hi (by omega) (by omega)
    have hlen := st_length n i xs
    generalize hys : st n i xs = ys at s1 s2 s3 hlen
    have h8 : (i % 8).toNat ≤ 7 := by omega
    have hq : (2 : Int) ^ (7 - (i % 8).toNat) ≤ 2 ^ 7 := by exact_mod_cast Nat.pow_le_pow_right (by decide) (show 7 - (i % 8).toNat ≤ 7 by omega)
    have hp : (0 : Int) < 2 ^ (7 - (i % 8).toNat) := Int.pow_pos (by decide)
    simp only [spec_Cut.l0]
    rw [specBits, hb]
    simp only [Option.bind_some]
    rw [if_pos (by omega), tmod_pos (by omega)]
    have key := spec_l1 ys i k a b c d (i % 8).toNat (7 - (i % 8).toNat) (m - (i % 8).toNat) (by omega)
    rw [show m - (i % 8).toNat + (i % 8).toNat = m by omega, show (i % 8).toNat + (7 - (i % 8).toNat) = 7 by omega, show (((i % 8).toNat : Nat) : Int) = i % 8 by omega, show (2 : Int) ^ 7 = 128 by rfl] at key
    rw [key]
    obtain ⟨m', hm'⟩ : ∃ q, m - (i % 8).toNat = q + 1 := ⟨m - (i % 8).toNat - 1, by omega⟩
    rw [hm']
    simp only [spec_Cut.l1]
    rw [if_neg (by decide), tdiv_pos (show 0 ≤ i by omega), w64 (n := i / 8) (by omega) (by omega), if_pos (by omega), if_pos (by omega), if_neg (by omega), w64 (n := rd ys (i / 8)) (by omega) (by omega), tdiv_pos s2]
    have hd0 := Int.ediv_nonneg s2 (show (0 : Int) ≤ 2 ^ (7 - (i % 8).toNat) by omega)
    have hd1 : rd ys (i / 8) / 2 ^ (7 - (i % 8).toNat) ≤ rd ys (i / 8) := Int.ediv_le_self _ s2
    rw [w64 (by omega) (by omega), tmod_pos hd0, w64 (n := i + 1) (by omega) (by omega), Int.emod_eq_of_lt (a := 2 ^ (7 - (i % 8).toNat)) (by omega) (by omega)]
    split
    · rename_i hc
      rw [if_pos hc] at s1
      rw [← s1]
      exact ih m' (i + 1) hn (by omega) (by omega) (by omega)
    · rename_i hc
      rw [if_neg hc] at s1
      rw [← s1]
      exact ih m' (i + 1) hn (by omega) (by omega) (by omega)
theorem specCut {m : Nat} (hm : 2000 ≤ m) (k a b c d n : Int) : spec_Cut.f m k a b c d n = some (cutV k a b c d n) := by
  unfold spec_Cut.f cutV
  rw [specAddrOk]
  simp only [Option.bind_some]
  by_cases h : AddrOK k a b c d
  · rw [decide_eq_true h, if_pos rfl]
    by_cases h0 : n < 0
    · rw [if_pos h0, if_neg (by omega)]
    · rw [if_neg h0, specBits]
      simp only [Option.bind_some]
      have hbits := addrBytes_bits h
      by_cases h1 : n ≤ (if k = 4 then 32 else 128)
      · rw [if_pos (show AddrOK k a b c d ∧ 0 ≤ n ∧ n ≤ (if k = 4 then 32 else 128) from ⟨h, by omega, h1⟩), if_neg (by omega)]
        rw [specAddrBytes]
        simp only [Option.bind_some]
        have hx := addrBytes_u8 k a b c d
        have hl := addrBytes_len k a b c d
        generalize addrBytes k a b c d = xs at hx hl hbits
        have key := spec_l0 xs hx hl n k a b c d hbits.symm (8 * xs.length - n.toNat) m n (by omega) (by omega) (by omega) (by omega)
        rw [st_self hx] at key
        exact key
      · rw [if_neg (show ¬ (AddrOK k a b c d ∧ 0 ≤ n ∧ n ≤ (if k = 4 then 32 else 128)) from fun hh => h1 hh.2.2), if_pos (by omega)]
  · rw [decide_eq_false h, if_neg Bool.false_ne_true, if_neg (fun hh => h hh.1)]

theorem implClip8 (n : Int) : impl_Clip.f n 0 8 = some (keepN n : Int) := by
  unfold impl_Clip.f keepN
  by_cases h : n < 0
  · rw [if_pos h, if_pos h]; rfl
  · rw [if_neg h, if_neg h]
    by_cases h8 : n > 8
    · rw [if_pos h8, if_pos h8]; rfl
    · rw [if_neg h8, if_neg h8]
      congr 1
      omega
theorem impl_cut_l0 (n : Int) (hn : 0 ≤ n ∧ n ≤ 128) (R : List Int) : ∀ (A : List Int) (m : Nat) (L i : Int), U8 A → U8 R → A.length + R.length ≤ 16 → L = (A.length : Int) + R.length → i = A.length → R.length + 30 < m → impl_Cut.l0 m n (A ++ R) L i = some (first5 (addrOf (A ++ mk (n - 8 * i) R))) := by
  induction R with
  | nil =>
    intro A m L i hA hR hl hL hi hm
    obtain ⟨m, rfl⟩ := pos_k hm
    simp only [impl_Cut.l0]
    rw [List.length_nil] at hL
    rw [if_neg (by omega), List.append_nil, implAddrOf hA (by omega)]
    simp only [mk, List.append_nil]
    rfl
  | cons b R ih =>
    intro A m L i hA hR hl hL hi hm
    obtain ⟨m, rfl⟩ := pos_k hm
    rw [List.length_cons] at hl hL hm
    have hb := hR b (by simp)
    have hrd : rd (A ++ b :: R) i = b := by
      unfold rd
      rw [List.getD_eq_getElem?_getD, List.getElem?_append_right (by omega), show i.toNat - A.length = 0 by omega]
      rfl
    have hset : ∀ v, (A ++ b :: R).set i.toNat v = A ++ [v] ++ R := fun v => by
      rw [List.set_append_right _ _ (by omega), show i.toNat - A.length = 0 by omega]
      simp
    obtain ⟨f, hf⟩ := fin_byte hb.1 hb.2
    have hk := keepN_le (n - 8 * i)
    have hm2 := and_mask f ⟨keepN (n - 8 * i), by omega⟩
    rw [hf] at hm2
    simp only at hm2
    have hmb := maskB_u8 hb.1 hb.2 (keepN (n - 8 * i))
    simp only [impl_Cut.l0]
    rw [if_pos (by omega), w64 (n := 8 * i) (by omega) (by omega), w64 (n := n - 8 * i) (by omega) (by omega), implClip8]
    simp only [Option.bind_some]
    rw [if_pos (by omega), if_pos (by simp; omega), if_pos (by omega), hrd, hm2, hset, w64 (by omega) (by omega)]
    rw [ih (A ++ [maskB b (keepN (n - 8 * i))]) m L (i + 1) (hA.append (U8.cons hmb.1 hmb.2 U8.nil)) (fun x hx => hR x (by simp [hx])) (by simp; omega) (by simp; omega) (by simp; omega) (by omega)]
    simp only [mk]
    rw [show n - 8 * i - 8 = n - 8 * (i + 1) by omega, List.append_assoc]
    rfl
theorem implBits (k a b c d : Int) : impl_bitsOf.f k a b c d = some (if k = 4 then 32 else 128) := by
  unfold impl_bitsOf.f
  split <;> rfl
theorem implCut {m : Nat} (hm : 2000 ≤ m) (k a b c d n : Int) : impl_Cut.f m k a b c d n = some (cutV k a b c d n) := by
  unfold impl_Cut.f cutV
  rw [implAddrOk, implBits]
  simp only [Option.bind_some]
  rw [within]
  simp only [Option.bind_some]
  by_cases h : AddrOK k a b c d
  · rw [decide_eq_true h, if_pos rfl]
    by_cases h1 : 0 ≤ n ∧ n ≤ (if k = 4 then 32 else 128)
    · obtain ⟨m, rfl⟩ : ∃ q, m = q + 1 := ⟨m - 1, by omega⟩
      have hbits := addrBytes_bits h
      rw [if_pos (show AddrOK k a b c d ∧ 0 ≤ n ∧ n ≤ (if k = 4 then 32 else 128) from ⟨h, h1⟩), decide_eq_true h1, if_pos rfl]
      rw [implAddrBytes (by omega)]
      simp only [Option.bind_some]
      have hx := addrBytes_u8 k a b c d
      have hl := addrBytes_len k a b c d
      generalize addrBytes k a b c d = xs at hx hl hbits
      have key := impl_cut_l0 n ⟨h1.1, by have := h1.2; split at this <;> omega⟩ xs [] (m + 1) xs.length 0 U8.nil hx (by simp; omega) (by simp) (by simp) (by omega)
      simp only [List.nil_append, show n - 8 * 0 = n by omega] at key
      exact key
    · rw [decide_eq_false h1, if_neg Bool.false_ne_true, if_neg (show ¬ (AddrOK k a b c d ∧ 0 ≤ n ∧ n ≤ (if k = 4 then 32 else 128)) from fun hh => h1 hh.2)]
  · rw [decide_eq_false h, if_neg Bool.false_ne_true, if_neg (fun hh => h hh.1)]

theorem toPrefix (a b c d e f : Int) : laws_toPrefix.f a b c d e f = some (a, b, c, d, e, f) := by
  unfold laws_toPrefix.f
  rw [toAddr, Option.bind_some]
def anyB (k a b c d n : Int) : Bool := (k == 0 && (a == 0 && (b == 0 && (c == 0 && (d == 0))))) && (n == 0)
def eqCut (v : Int × Int × Int × Int × Int) (k a b c d : Int) : Bool := v.1 == k && (v.2.1 == a && (v.2.2.1 == b && (v.2.2.2.1 == c && (v.2.2.2.2 == d))))
def prefixB (k a b c d n : Int) : Bool := anyB k a b c d n || (decide (AddrOK k a b c d) && decide (0 ≤ n) && decide (n ≤ (if k = 4 then 32 else 128)) && eqCut (cutV k a b c d n) k a b c d)
theorem specAny (k a b c d n : Int) : spec_l03Any.f k a b c d n = some (anyB k a b c d n) := rfl
theorem implAny (k a b c d n : Int) : impl_isAny.f k a b c d n = some (anyB k a b c d n) := rfl
theorem specPrefixOk {m : Nat} (hm : 2000 ≤ m) (k a b c d n : Int) : spec_PrefixOk.f m k a b c d n = some (prefixB k a b c d n) := by
  unfold spec_PrefixOk.f prefixB
  rw [specAny, Option.bind_some]
  cases anyB k a b c d n
  · rw [if_neg Bool.false_ne_true, specAddrOk, Option.bind_some, Bool.false_or]
    by_cases h : AddrOK k a b c d
    · rw [decide_eq_true h, if_pos rfl, Bool.true_and]
      by_cases h0 : n ≥ 0
      · rw [if_pos h0, decide_eq_true (show 0 ≤ n from h0), specBits, Option.bind_some, Bool.true_and]
        by_cases h1 : n ≤ (if k = 4 then 32 else 128)
        · rw [if_pos h1, decide_eq_true h1, specCut hm, Option.bind_some] <;> rfl
        · rw [if_neg h1, decide_eq_false h1] <;> rfl
      · rw [if_neg h0, decide_eq_false (show ¬ 0 ≤ n from h0)] <;> rfl
    · rw [decide_eq_false h, if_neg Bool.false_ne_true] <;> rfl
  · rw [if_pos rfl] <;> rfl
theorem implPrefixOk {m : Nat} (hm : 2000 ≤ m) (k a b c d n : Int) : impl_PrefixOk.f m k a b c d n = some (prefixB k a b c d n) := by
  unfold impl_PrefixOk.f prefixB
  rw [implAny, Option.bind_some]
  cases anyB k a b c d n
  · rw [if_neg Bool.false_ne_true, implAddrOk, Option.bind_some, Bool.false_or]
    by_cases h : AddrOK k a b c d
    · rw [decide_eq_true h, if_pos rfl, Bool.true_and, implBits, Option.bind_some, within, Option.bind_some]
      by_cases h1 : 0 ≤ n ∧ n ≤ (if k = 4 then 32 else 128)
      · rw [decide_eq_true h1, if_pos rfl, decide_eq_true h1.1, decide_eq_true h1.2, implCut hm, Option.bind_some] <;> rfl
      · rw [decide_eq_false h1, if_neg Bool.false_ne_true]
        by_cases h0 : 0 ≤ n
        · rw [decide_eq_false (show ¬ n ≤ (if k = 4 then 32 else 128) from fun h2 => h1 ⟨h0, h2⟩), Bool.and_false] <;> rfl
        · rw [decide_eq_false h0] <;> rfl
    · rw [decide_eq_false h, if_neg Bool.false_ne_true] <;> rfl
  · rw [if_pos rfl] <;> rfl
theorem prefix_addr {k a b c d n : Int} (hp : prefixB k a b c d n = true) (ha : anyB k a b c d n = false) : AddrOK k a b c d := by
  unfold prefixB at hp
  rw [ha] at hp
  simp only [Bool.false_or, Bool.and_eq_true, decide_eq_true_eq] at hp
  exact hp.1.1.1


end Plain
open Plain Go.Proofs.YtljeajecajlaiaaDoor.Hex Go.Proofs.YtljeajecajlaiaaDoor.Text Go.Proofs.YtljeajecajlaiaaDoor.Spec
/-- The text of an address, by both sides. -/
theorem addrBoth (a0 a1 a2 a3 a4 : Int) : ∃ S : ByteArray, S.size ≤ 1000 ∧ (∀ w1, Calls Tryd.prog 6 #[.agg #[.int .i64 a0, .int .i64 a1, .int .i64 a2, .int .i64 a3, .int .i64 a4]] w1 fun e w' => e = .returned (.string S) ∧ Below w1.heap.size w1 w') ∧
    (∀ w1, Lib.TabIs Tryd.prog w1 "internal/strconv.uint64pow10" .u64 Lib.pow10Tab → TabAt 5 Lib.deBruijn64tab w1 → Calls Tryd.prog 8 #[.agg #[.int .i64 a0, .int .i64 a1, .int .i64 a2, .int .i64 a3, .int .i64 a4]] w1 fun e w' => e = .returned (.string S) ∧ Below w1.heap.size w1 w') := by
  have hsh := AddrLaw.addrBytes_shape a0 a1 a2 a3 a4
  have hu := AddrLaw.addrBytes_u8 a0 a1 a2 a3 a4
  have hl := AddrLaw.addrBytes_len a0 a1 a2 a3 a4
  have hs := AddrLaw.specAddrBytes a0 a1 a2 a3 a4
  have hi := AddrLaw.implAddrBytes (show 30 ≤ 50 by omega) a0 a1 a2 a3 a4
  generalize Base.addrBytes a0 a1 a2 a3 a4 = r at hsh hu hl hs hi
  have hr : ∀ b ∈ r, 0 ≤ b ∧ b ≤ 255 := hu
  have hnum : ∀ b : Int, 0 ≤ b → b ≤ 255 → FFnExactAddrText.spec_NumText.f 30 b = some (itoaS b) := fun b h0 h1 => AddrLaw.spec_is b (by omega) (by omega)
  have hbe : ∀ x : Int, 0 ≤ x → x + 2 ≤ r.length → FFnExactAddrText.impl_beOf.f 50 ((r.take (x + 2).toNat).drop x.toNat) = some (be2 r x) := fun x h0 h1 => AddrLaw.beOf2i hu h0 rfl h1 (by omega)
  have hw : ∀ x : Int, 0 ≤ be2 r x ∧ be2 r x ≤ 65535 := fun x => be2_word hu x
  have p4 : ∀ p ∈ r.map itoaS, p.size ≤ 20 := fun p hp => by
    obtain ⟨q, hq, rfl⟩ := List.mem_map.1 hp
    exact itoaS_size (hr q hq).1 (hr q hq).2
  have p6 : ∀ p ∈ hexW r (r.length / 2), p.size ≤ 20 := fun p hp => by
    unfold hexW at hp
    obtain ⟨q, hq, rfl⟩ := List.mem_map.1 hp
    exact hexS_size _
  have l6 : (hexW r (r.length / 2)).length ≤ 16 := by unfold hexW; rw [List.length_map, List.length_range]; omega
  have hj4 := AddrLaw.strs_len 46 _ p4 (by rw [List.length_map]; omega)
  have hj6 := AddrLaw.strs_len 58 _ p6 (by omega)
  rcases hsh with h | ⟨hk, h⟩ | ⟨hk, h⟩
  · have hr0 : r = [] := List.eq_nil_of_length_eq_zero h
    refine ⟨⟨#[]⟩, by decide, fun w1 => specText0 a0 a1 a2 a3 a4 r hs hr h w1, fun w1 tb tt => ?_⟩
    by_cases hk : a0 = 4
    · have := addrText4 50 a0 a1 a2 a3 a4 r hk hi hr hl hj4 w1 tb
      rw [hr0] at this
      exact this
    · have := addrText6 50 50 a0 a1 a2 a3 a4 r hk hi hr hl (by omega) hbe hw hj6 w1 tt
      rw [hr0] at this
      exact this
  · exact ⟨_, by have := strJ_size 46 _ p4; rw [List.length_map] at this; omega, fun w1 => specText4 30 a0 a1 a2 a3 a4 r hs hr h hnum w1, fun w1 tb tt => addrText4 50 a0 a1 a2 a3 a4 r hk hi hr hl hj4 w1 tb⟩
  · refine ⟨_, ?_, fun w1 => specText6 10 a0 a1 a2 a3 a4 r hs hr h AddrLaw.hexIs w1, fun w1 tb tt => ?_⟩
    · have := strJ_size 58 _ p6
      rw [h] at this
      show (strJ 58 (hexW r 8)).size ≤ 1000
      have e : 16 / 2 = 8 := rfl
      rw [e] at this
      have l8 : (hexW r 8).length ≤ 16 := by unfold hexW; rw [List.length_map, List.length_range]; omega
      omega
    · have := addrText6 50 50 a0 a1 a2 a3 a4 r hk hi hr hl (by omega) hbe hw hj6 w1 tt
      rw [h] at this
      exact this
theorem itoaS_size2 {b : Int} (h : 0 ≤ b ∧ b ≤ 128) : (itoaS b).size ≤ 20 := itoaS_size h.1 (by omega)
/-- What PrefixText answers. -/
def textP (p a : Bool) (S : ByteArray) (n : Int) : ByteArray := if p = true then (if a = true then ⟨#[97, 110, 121]⟩ else (S ++ ⟨#[47]⟩) ++ itoaS n) else ⟨#[]⟩
set_option maxHeartbeats 8000000 in
set_option maxRecDepth 100000 in
theorem specPrefixText (p a : Bool) (S : ByteArray) (a0 : Int) (a1 : Int) (a2 : Int) (a3 : Int) (a4 : Int) (a5 : Int) (hS : S.size ≤ 1000) (hp : spec_PrefixOk.f 2000 a0 a1 a2 a3 a4 a5 = some p) (ha : spec_l03Any.f a0 a1 a2 a3 a4 a5 = some a) (hn : p = true → a = false → 0 ≤ a5 ∧ a5 ≤ 128) (w : World)
    (h6 : ∀ w1, Calls Tryd.prog 6 #[.agg #[.int .i64 a0, .int .i64 a1, .int .i64 a2, .int .i64 a3, .int .i64 a4]] w1 fun e w' => e = .returned (.string S) ∧ Below w1.heap.size w1 w') :
    Calls Tryd.prog 9 #[.agg #[.int .i64 a0, .int .i64 a1, .int .i64 a2, .int .i64 a3, .int .i64 a4, .int .i64 a5]] w fun e w' => e = .returned (.string (textP p a S a5)) ∧ Below w.heap.size w w' := by
  have hu32 := Tryd.underlying32
  have hu9 := Tryd.underlying9
  have hu25 := Tryd.underlying25
  have O3_ : IsOne Tryd.prog 3 := ⟨⟨_, Tryd.underlying3, rfl⟩, by kernel_rfl⟩
  have R25_ : IsRow Tryd.prog 25 5 := ⟨⟨_, Tryd.underlying25, rfl⟩, by kernel_rfl⟩
  have R32_ : IsRow Tryd.prog 32 6 := ⟨⟨_, Tryd.underlying32, rfl⟩, by kernel_rfl⟩
  have HF := Fr.start [32] w
  have HP := Aside0.mk hp
  have HA := Aside0.mk ha
  have HN := Aside0.mk hn
  have HS := Aside0.mk hS
  clear hp ha hn hS
  cases p <;> cases a
  all_goals (have HZ := Aside0.mk (fun (h1 : _ = true) (h2 : _ = false) => HN.out h1 h2))
  all_goals go_enter Tryd.func9, Tryd.ntmps9
  all_goals (repeat' (first
      | ((with_reducible refine gate_region (id := 0) ?_); apply plain_region) <;>
        (((with_reducible apply Fr.lbox HF rfl rfl rfl); (go_simp; rfl); decide; clear HF; intro g_ w_ HF); (refine lnorm (a' := ?_) ?_ ?_; rotate_left; (simp only [Act.put, List.setIfInBounds_toArray, List.set_cons_zero, List.set_cons_succ, i64_w, i32_w, u8_wr, tmod_nat, Int.reduceToNat, e4, e16, e15, e15a]; rfl))) <;>
        (apply lpure rfl rfl; (go_simp; with_reducible rfl); (simp only [Act.put, List.setIfInBounds_toArray, List.set_cons_zero, List.set_cons_succ, i64_w, i32_w, u8_wr, tmod_nat, Int.reduceToNat, e4, e16, e15, e15a]; rfl)) <;>
        (apply lend)
      | ((with_reducible refine gate_region (id := 1) ?_); apply plain_region) <;>
        (apply HF.lrow rfl rfl rfl R32_ rfl; (repeat (first | exact At.head | apply At.tail)); (simp only [List.drop_succ_cons, List.drop_zero, List.take_succ_cons, List.take_zero]; rfl); rfl; (simp only [Act.put, List.setIfInBounds_toArray, List.set_cons_zero, List.set_cons_succ, i64_w, i32_w, u8_wr, tmod_nat, Int.reduceToNat, e4, e16, e15, e15a]; rfl)) <;>
        (apply lcall rfl rfl rfl Tryd.func23 (by kernel_rfl) rfl; (with_reducible apply Calls.mono); exact spec_PrefixOk.calls 2000 a0 a1 a2 a3 a4 a5 _ _ HP.out; rintro e w_ ⟨rfl, hb_⟩; refine ⟨_, rfl, ?_⟩; replace HF := HF.call hb_; clear hb_; rotate_left; (first | rfl | (simp only [List.map_toArray, List.map_cons, List.map_nil]; first | done | rfl)); (refine lnorm (a' := ?_) ?_ ?_; rotate_left; (simp only [Act.put, List.setIfInBounds_toArray, List.set_cons_zero, List.set_cons_succ, i64_w, i32_w, u8_wr, tmod_nat, Int.reduceToNat, e4, e16, e15, e15a]; rfl))) <;>
        (apply lpure rfl rfl; (go_simp; with_reducible rfl); (simp only [Act.put, List.setIfInBounds_toArray, List.set_cons_zero, List.set_cons_succ, i64_w, i32_w, u8_wr, tmod_nat, Int.reduceToNat, e4, e16, e15, e15a]; rfl)) <;>
        (apply lend)
      | ((with_reducible refine gate_region (id := 2) ?_); apply plain_region) <;>
        (apply lpure rfl rfl; (go_simp; with_reducible rfl); (simp only [Act.put, List.setIfInBounds_toArray, List.set_cons_zero, List.set_cons_succ, i64_w, i32_w, u8_wr, tmod_nat, Int.reduceToNat, e4, e16, e15, e15a]; rfl)) <;>
        (apply lend)
      | ((with_reducible refine gate_region (id := 3) ?_); apply plain_region) <;>
        (apply HF.lrow rfl rfl rfl R32_ rfl; (repeat (first | exact At.head | apply At.tail)); (simp only [List.drop_succ_cons, List.drop_zero, List.take_succ_cons, List.take_zero]; rfl); rfl; (simp only [Act.put, List.setIfInBounds_toArray, List.set_cons_zero, List.set_cons_succ, i64_w, i32_w, u8_wr, tmod_nat, Int.reduceToNat, e4, e16, e15, e15a]; rfl)) <;>
        (apply lcall rfl rfl rfl Tryd.func24 (by kernel_rfl) rfl; (with_reducible apply Calls.mono); exact spec_l03Any.calls a0 a1 a2 a3 a4 a5 _ _ HA.out; rintro e w_ ⟨rfl, hb_⟩; refine ⟨_, rfl, ?_⟩; replace HF := HF.call hb_; clear hb_; rotate_left; (first | rfl | (simp only [List.map_toArray, List.map_cons, List.map_nil]; first | done | rfl)); (refine lnorm (a' := ?_) ?_ ?_; rotate_left; (simp only [Act.put, List.setIfInBounds_toArray, List.set_cons_zero, List.set_cons_succ, i64_w, i32_w, u8_wr, tmod_nat, Int.reduceToNat, e4, e16, e15, e15a]; rfl))) <;>
        (apply lend)
      | ((with_reducible refine gate_region (id := 4) ?_); apply plain_region) <;>
        (apply lpure rfl rfl; (go_simp; with_reducible rfl); (simp only [Act.put, List.setIfInBounds_toArray, List.set_cons_zero, List.set_cons_succ, i64_w, i32_w, u8_wr, tmod_nat, Int.reduceToNat, e4, e16, e15, e15a]; rfl)) <;>
        (apply lend)
      | ((with_reducible refine gate_region (id := 5) ?_); have HG := HF; refine HG.region2 HF (by kernel_rfl) rfl ?_; clear HF HG; intro w_ HF HG) <;>
        (apply Fr.rpure 0 rfl rfl rfl (by kernel_rfl) (fun _ _ _ h => h); (intro w_; go_simp; with_reducible rfl); (simp only [Act.put, List.setIfInBounds_toArray, List.set_cons_zero, List.set_cons_succ, i64_w, i32_w, u8_wr, tmod_nat, Int.reduceToNat, e4, e16, e15, e15a]; rfl)) <;>
        (apply Fr.rpure 4 rfl rfl rfl (by kernel_rfl) (fun _ _ _ h => h); (intro w_; go_simp; with_reducible rfl); (simp only [Act.put, List.setIfInBounds_toArray, List.set_cons_zero, List.set_cons_succ, i64_w, i32_w, u8_wr, tmod_nat, Int.reduceToNat, e4, e16, e15, e15a]; rfl)) <;>
        (apply HF.rrow 1 rfl rfl rfl rfl (by kernel_rfl) (fun _ _ _ h => h) R25_ rfl; (repeat (first | exact At.head | apply At.tail)); (simp only [List.drop_succ_cons, List.drop_zero, List.take_succ_cons, List.take_zero]; rfl); rfl; (simp only [Act.put, List.setIfInBounds_toArray, List.set_cons_zero, List.set_cons_succ, i64_w, i32_w, u8_wr, tmod_nat, Int.reduceToNat, e4, e16, e15, e15a]; rfl)) <;>
        (apply HF.rone 5 rfl rfl rfl rfl (by kernel_rfl) (fun _ _ _ h => h) O3_ rfl; (repeat (first | exact At.head | apply At.tail)); rfl; (simp only [Act.put, List.setIfInBounds_toArray, List.set_cons_zero, List.set_cons_succ, i64_w, i32_w, u8_wr, tmod_nat, Int.reduceToNat, e4, e16, e15, e15a]; rfl)) <;>
        (apply rcall 2 rfl rfl rfl rfl (by kernel_rfl) (by simp) Tryd.func6 (by kernel_rfl) rfl; (with_reducible apply Calls.mono); exact h6 _; rintro e w_ ⟨rfl, hb_⟩; refine ⟨_, rfl, HF.call hb_, ?_⟩; replace HG := HG.call hb_; clear HF hb_; intro HF; rotate_left; (first | rfl | (simp only [List.map_toArray, List.map_cons, List.map_nil]; first | done | rfl)); (refine norm_ (a' := ?_) ?_ ?_; rotate_left; (simp only [Act.put, List.setIfInBounds_toArray, List.set_cons_zero, List.set_cons_succ, i64_w, i32_w, u8_wr, tmod_nat, Int.reduceToNat, e4, e16, e15, e15a]; rfl))) <;>
        (apply Fr.rpure 3 rfl rfl rfl (by kernel_rfl) (fun _ _ _ h => h); (intro w_; exact run_sadd rfl rfl rfl hu9 (by have := HS.out; show S.size + 1 ≤ _; omega)); (simp only [Act.put, List.setIfInBounds_toArray, List.set_cons_zero, List.set_cons_succ, i64_w, i32_w, u8_wr, tmod_nat, Int.reduceToNat, e4, e16, e15, e15a]; rfl)) <;>
        (apply rcall 6 rfl rfl rfl rfl (by kernel_rfl) (by simp) Tryd.func16 (by kernel_rfl) rfl; (with_reducible apply Calls.mono); exact FFnExactAddrText.spec_NumText.calls 30 a5 (itoaS a5) _ (AddrLaw.spec_is a5 (by have := HN.out rfl rfl; omega) (by have := HN.out rfl rfl; omega)); rintro e w_ ⟨rfl, hb_⟩; refine ⟨_, rfl, HF.call hb_, ?_⟩; replace HG := HG.call hb_; clear HF hb_; intro HF; rotate_left; (first | rfl | (simp only [List.map_toArray, List.map_cons, List.map_nil]; first | done | rfl)); (refine norm_ (a' := ?_) ?_ ?_; rotate_left; (simp only [Act.put, List.setIfInBounds_toArray, List.set_cons_zero, List.set_cons_succ, i64_w, i32_w, u8_wr, tmod_nat, Int.reduceToNat, e4, e16, e15, e15a]; rfl))) <;>
        (apply Fr.rpure 7 rfl rfl rfl (by kernel_rfl) (fun _ _ _ h => h); (intro w_; exact run_sadd rfl rfl rfl hu9 (by have h1_ := HS.out; have h2_ := (itoaS_size2 (HN.out rfl rfl)); rw [ByteArray.size_append']; show (S.size + 1) + _ ≤ _; omega)); (simp only [Act.put, List.setIfInBounds_toArray, List.set_cons_zero, List.set_cons_succ, i64_w, i32_w, u8_wr, tmod_nat, Int.reduceToNat, e4, e16, e15, e15a]; rfl)) <;>
        (apply Fr.rpure 8 rfl rfl rfl (by kernel_rfl) (fun _ _ _ h => h); (intro w_; go_simp; with_reducible rfl); (simp only [Act.put, List.setIfInBounds_toArray, List.set_cons_zero, List.set_cons_succ, i64_w, i32_w, u8_wr, tmod_nat, Int.reduceToNat, e4, e16, e15, e15a]; rfl)) <;>
        (refine done_ (by kernel_rfl) ?_; clear HF; have HF := HG; clear HG)
      | go_step | fail))
  all_goals (go_ret; exact ⟨rfl, HF.below⟩)
set_option maxHeartbeats 8000000 in
set_option maxRecDepth 100000 in
theorem implPrefixText (p a : Bool) (S : ByteArray) (a0 : Int) (a1 : Int) (a2 : Int) (a3 : Int) (a4 : Int) (a5 : Int) (hS : S.size ≤ 1000) (hp : impl_PrefixOk.f 2000 a0 a1 a2 a3 a4 a5 = some p) (ha : impl_isAny.f a0 a1 a2 a3 a4 a5 = some a) (hn : p = true → a = false → 0 ≤ a5 ∧ a5 ≤ 128) (w : World)
    (htab : Lib.TabIs Tryd.prog w "internal/strconv.uint64pow10" .u64 Lib.pow10Tab)
    (h6 : ∀ w1, Below w.heap.size w w1 → Calls Tryd.prog 8 #[.agg #[.int .i64 a0, .int .i64 a1, .int .i64 a2, .int .i64 a3, .int .i64 a4]] w1 fun e w' => e = .returned (.string S) ∧ Below w1.heap.size w1 w') :
    Calls Tryd.prog 11 #[.agg #[.int .i64 a0, .int .i64 a1, .int .i64 a2, .int .i64 a3, .int .i64 a4, .int .i64 a5]] w fun e w' => e = .returned (.string (textP p a S a5)) ∧ Below w.heap.size w w' := by
  have hu32 := Tryd.underlying32
  have hu9 := Tryd.underlying9
  have hu25 := Tryd.underlying25
  have O3_ : IsOne Tryd.prog 3 := ⟨⟨_, Tryd.underlying3, rfl⟩, by kernel_rfl⟩
  have R25_ : IsRow Tryd.prog 25 5 := ⟨⟨_, Tryd.underlying25, rfl⟩, by kernel_rfl⟩
  have R32_ : IsRow Tryd.prog 32 6 := ⟨⟨_, Tryd.underlying32, rfl⟩, by kernel_rfl⟩
  have HF := Fr.start [32] w
  have HP := Aside0.mk hp
  have HA := Aside0.mk ha
  have HN := Aside0.mk hn
  have HS := Aside0.mk hS
  have HTB := Aside0.mk htab
  clear hp ha hn hS htab
  cases p <;> cases a
  all_goals go_enter Tryd.func11, Tryd.ntmps11
  all_goals (repeat' (first
      | ((with_reducible refine gate_region (id := 0) ?_); apply plain_region) <;>
        (((with_reducible apply Fr.lbox HF rfl rfl rfl); (go_simp; rfl); decide; clear HF; intro g_ w_ HF); (refine lnorm (a' := ?_) ?_ ?_; rotate_left; (simp only [Act.put, List.setIfInBounds_toArray, List.set_cons_zero, List.set_cons_succ, i64_w, i32_w, u8_wr, tmod_nat, Int.reduceToNat, e4, e16, e15, e15a]; rfl))) <;>
        (apply lpure rfl rfl; (go_simp; with_reducible rfl); (simp only [Act.put, List.setIfInBounds_toArray, List.set_cons_zero, List.set_cons_succ, i64_w, i32_w, u8_wr, tmod_nat, Int.reduceToNat, e4, e16, e15, e15a]; rfl)) <;>
        (apply lend)
      | ((with_reducible refine gate_region (id := 1) ?_); apply plain_region) <;>
        (apply HF.lrow rfl rfl rfl R32_ rfl; (repeat (first | exact At.head | apply At.tail)); (simp only [List.drop_succ_cons, List.drop_zero, List.take_succ_cons, List.take_zero]; rfl); rfl; (simp only [Act.put, List.setIfInBounds_toArray, List.set_cons_zero, List.set_cons_succ, i64_w, i32_w, u8_wr, tmod_nat, Int.reduceToNat, e4, e16, e15, e15a]; rfl)) <;>
        (apply lcall rfl rfl rfl Tryd.func25 (by kernel_rfl) rfl; (with_reducible apply Calls.mono); exact impl_PrefixOk.calls 2000 a0 a1 a2 a3 a4 a5 _ _ HP.out; rintro e w_ ⟨rfl, hb_⟩; refine ⟨_, rfl, ?_⟩; replace HF := HF.call hb_; clear hb_; rotate_left; (first | rfl | (simp only [List.map_toArray, List.map_cons, List.map_nil]; first | done | rfl)); (refine lnorm (a' := ?_) ?_ ?_; rotate_left; (simp only [Act.put, List.setIfInBounds_toArray, List.set_cons_zero, List.set_cons_succ, i64_w, i32_w, u8_wr, tmod_nat, Int.reduceToNat, e4, e16, e15, e15a]; rfl))) <;>
        (apply lpure rfl rfl; (go_simp; with_reducible rfl); (simp only [Act.put, List.setIfInBounds_toArray, List.set_cons_zero, List.set_cons_succ, i64_w, i32_w, u8_wr, tmod_nat, Int.reduceToNat, e4, e16, e15, e15a]; rfl)) <;>
        (apply lpure rfl rfl; (go_simp; with_reducible rfl); (simp only [Act.put, List.setIfInBounds_toArray, List.set_cons_zero, List.set_cons_succ, i64_w, i32_w, u8_wr, tmod_nat, Int.reduceToNat, e4, e16, e15, e15a]; rfl)) <;>
        (apply lend)
      | ((with_reducible refine gate_region (id := 2) ?_); apply plain_region) <;>
        (apply lpure rfl rfl; (go_simp; with_reducible rfl); (simp only [Act.put, List.setIfInBounds_toArray, List.set_cons_zero, List.set_cons_succ, i64_w, i32_w, u8_wr, tmod_nat, Int.reduceToNat, e4, e16, e15, e15a]; rfl)) <;>
        (apply lend)
      | ((with_reducible refine gate_region (id := 3) ?_); apply plain_region) <;>
        (apply HF.lrow rfl rfl rfl R32_ rfl; (repeat (first | exact At.head | apply At.tail)); (simp only [List.drop_succ_cons, List.drop_zero, List.take_succ_cons, List.take_zero]; rfl); rfl; (simp only [Act.put, List.setIfInBounds_toArray, List.set_cons_zero, List.set_cons_succ, i64_w, i32_w, u8_wr, tmod_nat, Int.reduceToNat, e4, e16, e15, e15a]; rfl)) <;>
        (apply lcall rfl rfl rfl Tryd.func26 (by kernel_rfl) rfl; (with_reducible apply Calls.mono); exact impl_isAny.calls a0 a1 a2 a3 a4 a5 _ _ HA.out; rintro e w_ ⟨rfl, hb_⟩; refine ⟨_, rfl, ?_⟩; replace HF := HF.call hb_; clear hb_; rotate_left; (first | rfl | (simp only [List.map_toArray, List.map_cons, List.map_nil]; first | done | rfl)); (refine lnorm (a' := ?_) ?_ ?_; rotate_left; (simp only [Act.put, List.setIfInBounds_toArray, List.set_cons_zero, List.set_cons_succ, i64_w, i32_w, u8_wr, tmod_nat, Int.reduceToNat, e4, e16, e15, e15a]; rfl))) <;>
        (apply lpure rfl rfl; (go_simp; with_reducible rfl); (simp only [Act.put, List.setIfInBounds_toArray, List.set_cons_zero, List.set_cons_succ, i64_w, i32_w, u8_wr, tmod_nat, Int.reduceToNat, e4, e16, e15, e15a]; rfl)) <;>
        (apply lend)
      | ((with_reducible refine gate_region (id := 4) ?_); apply plain_region) <;>
        (apply lpure rfl rfl; (go_simp; with_reducible rfl); (simp only [Act.put, List.setIfInBounds_toArray, List.set_cons_zero, List.set_cons_succ, i64_w, i32_w, u8_wr, tmod_nat, Int.reduceToNat, e4, e16, e15, e15a]; rfl)) <;>
        (apply lend)
      | ((with_reducible refine gate_region (id := 5) ?_); have HG := HF; refine HG.region2 HF (by kernel_rfl) rfl ?_; clear HF HG; intro w_ HF HG) <;>
        (apply Fr.rpure 0 rfl rfl rfl (by kernel_rfl) (fun _ _ _ h => h); (intro w_; go_simp; with_reducible rfl); (simp only [Act.put, List.setIfInBounds_toArray, List.set_cons_zero, List.set_cons_succ, i64_w, i32_w, u8_wr, tmod_nat, Int.reduceToNat, e4, e16, e15, e15a]; rfl)) <;>
        (apply Fr.rpure 4 rfl rfl rfl (by kernel_rfl) (fun _ _ _ h => h); (intro w_; go_simp; with_reducible rfl); (simp only [Act.put, List.setIfInBounds_toArray, List.set_cons_zero, List.set_cons_succ, i64_w, i32_w, u8_wr, tmod_nat, Int.reduceToNat, e4, e16, e15, e15a]; rfl)) <;>
        (apply HF.rrow 1 rfl rfl rfl rfl (by kernel_rfl) (fun _ _ _ h => h) R25_ rfl; (repeat (first | exact At.head | apply At.tail)); (simp only [List.drop_succ_cons, List.drop_zero, List.take_succ_cons, List.take_zero]; rfl); rfl; (simp only [Act.put, List.setIfInBounds_toArray, List.set_cons_zero, List.set_cons_succ, i64_w, i32_w, u8_wr, tmod_nat, Int.reduceToNat, e4, e16, e15, e15a]; rfl)) <;>
        (apply HF.rone 5 rfl rfl rfl rfl (by kernel_rfl) (fun _ _ _ h => h) O3_ rfl; (repeat (first | exact At.head | apply At.tail)); rfl; (simp only [Act.put, List.setIfInBounds_toArray, List.set_cons_zero, List.set_cons_succ, i64_w, i32_w, u8_wr, tmod_nat, Int.reduceToNat, e4, e16, e15, e15a]; rfl)) <;>
        (apply rcall 2 rfl rfl rfl rfl (by kernel_rfl) (by simp) Tryd.func8 (by kernel_rfl) rfl; (with_reducible apply Calls.mono); exact h6 _ HG.below; rintro e w_ ⟨rfl, hb_⟩; refine ⟨_, rfl, HF.call hb_, ?_⟩; replace HG := HG.call hb_; clear HF hb_; intro HF; rotate_left; (first | rfl | (simp only [List.map_toArray, List.map_cons, List.map_nil]; first | done | rfl)); (refine norm_ (a' := ?_) ?_ ?_; rotate_left; (simp only [Act.put, List.setIfInBounds_toArray, List.set_cons_zero, List.set_cons_succ, i64_w, i32_w, u8_wr, tmod_nat, Int.reduceToNat, e4, e16, e15, e15a]; rfl))) <;>
        (apply Fr.rpure 3 rfl rfl rfl (by kernel_rfl) (fun _ _ _ h => h); (intro w_; exact run_sadd rfl rfl rfl hu9 (by have := HS.out; show S.size + 1 ≤ _; omega)); (simp only [Act.put, List.setIfInBounds_toArray, List.set_cons_zero, List.set_cons_succ, i64_w, i32_w, u8_wr, tmod_nat, Int.reduceToNat, e4, e16, e15, e15a]; rfl)) <;>
        (apply rcall 6 rfl rfl rfl rfl (by kernel_rfl) (by simp) Tryd.func19 (by kernel_rfl) rfl; (with_reducible apply Calls.mono); exact numText a5 (by have := HN.out rfl rfl; omega) (by have := HN.out rfl rfl; omega) _ (Go.Joins.tab_stays gTab HTB.out HG.below (Nat.le_refl _)); rintro e w_ ⟨rfl, hb_⟩; refine ⟨_, rfl, HF.call hb_, ?_⟩; replace HG := HG.call hb_; clear HF hb_; intro HF; rotate_left; (first | rfl | (simp only [List.map_toArray, List.map_cons, List.map_nil]; first | done | rfl)); (refine norm_ (a' := ?_) ?_ ?_; rotate_left; (simp only [Act.put, List.setIfInBounds_toArray, List.set_cons_zero, List.set_cons_succ, i64_w, i32_w, u8_wr, tmod_nat, Int.reduceToNat, e4, e16, e15, e15a]; rfl))) <;>
        (apply Fr.rpure 7 rfl rfl rfl (by kernel_rfl) (fun _ _ _ h => h); (intro w_; exact run_sadd rfl rfl rfl hu9 (by have h1_ := HS.out; have h2_ := (itoaS_size2 (HN.out rfl rfl)); rw [ByteArray.size_append']; show (S.size + 1) + _ ≤ _; omega)); (simp only [Act.put, List.setIfInBounds_toArray, List.set_cons_zero, List.set_cons_succ, i64_w, i32_w, u8_wr, tmod_nat, Int.reduceToNat, e4, e16, e15, e15a]; rfl)) <;>
        (apply Fr.rpure 8 rfl rfl rfl (by kernel_rfl) (fun _ _ _ h => h); (intro w_; go_simp; with_reducible rfl); (simp only [Act.put, List.setIfInBounds_toArray, List.set_cons_zero, List.set_cons_succ, i64_w, i32_w, u8_wr, tmod_nat, Int.reduceToNat, e4, e16, e15, e15a]; rfl)) <;>
        (refine done_ (by kernel_rfl) ?_; clear HF; have HF := HG; clear HG)
      | go_step | fail))
  all_goals (go_ret; exact ⟨rfl, HF.below⟩)
set_option maxHeartbeats 4000000 in
set_option maxRecDepth 100000 in
theorem lawOf (a0 : Int) (a1 : Int) (a2 : Int) (a3 : Int) (a4 : Int) (a5 : Int) (S : ByteArray) (w : World) (h6 : ∀ w1, Calls Tryd.prog 9 #[.agg #[.int .i64 a0, .int .i64 a1, .int .i64 a2, .int .i64 a3, .int .i64 a4, .int .i64 a5]] w1 fun e w' => e = .returned (.string S) ∧ Below w1.heap.size w1 w') (h8 : ∀ w1, Below w.heap.size w w1 → Calls Tryd.prog 11 #[.agg #[.int .i64 a0, .int .i64 a1, .int .i64 a2, .int .i64 a3, .int .i64 a4, .int .i64 a5]] w1 fun e w' => e = .returned (.string S) ∧ Below w1.heap.size w1 w') :
    Calls Tryd.prog 4 #[.agg #[.int .i64 a0, .int .i64 a1, .int .i64 a2, .int .i64 a3, .int .i64 a4, .int .i64 a5]] w fun e w' => e = .returned (.bool true) ∧ Below w.heap.size w w' := by
  have R29_ : IsRow Tryd.prog 29 6 := ⟨⟨_, Tryd.underlying29, rfl⟩, by kernel_rfl⟩
  have hu29 := Tryd.underlying29
  have HF := Fr.start [29] w
  go_enter Tryd.func4, Tryd.ntmps4
  repeat' (first
      | ((with_reducible refine gate_region (id := 0) ?_); apply plain_region) <;>
        (((with_reducible apply Fr.lbox HF rfl rfl rfl); (go_simp; rfl); decide; clear HF; intro g_ w_ HF); (refine lnorm (a' := ?_) ?_ ?_; rotate_left; (simp only [Act.put, List.setIfInBounds_toArray, List.set_cons_zero, List.set_cons_succ, i64_w, i32_w, u8_wr, tmod_nat, Int.reduceToNat, e4, e16, e15, e15a]; rfl))) <;>
        (apply lpure rfl rfl; (go_simp; with_reducible rfl); (simp only [Act.put, List.setIfInBounds_toArray, List.set_cons_zero, List.set_cons_succ, i64_w, i32_w, u8_wr, tmod_nat, Int.reduceToNat, e4, e16, e15, e15a]; rfl)) <;>
        (apply lend)
      | ((with_reducible refine gate_region (id := 1) ?_); apply plain_region) <;>
        (apply HF.lrow rfl rfl rfl R29_ rfl; (repeat (first | exact At.head | apply At.tail)); (simp only [List.drop_succ_cons, List.drop_zero, List.take_succ_cons, List.take_zero]; rfl); rfl; (simp only [Act.put, List.setIfInBounds_toArray, List.set_cons_zero, List.set_cons_succ, i64_w, i32_w, u8_wr, tmod_nat, Int.reduceToNat, e4, e16, e15, e15a]; rfl)) <;>
        (apply lcall rfl rfl rfl Tryd.func10 (by kernel_rfl) rfl; (with_reducible apply Calls.mono); exact laws_toPrefix.calls a0 a1 a2 a3 a4 a5 _ _ _ _ _ _ _ rfl; rintro e w_ ⟨rfl, hb_⟩; refine ⟨_, rfl, ?_⟩; replace HF := HF.call hb_; clear hb_; rotate_left; (first | rfl | (simp only [List.map_toArray, List.map_cons, List.map_nil]; first | done | rfl)); (refine lnorm (a' := ?_) ?_ ?_; rotate_left; (simp only [Act.put, List.setIfInBounds_toArray, List.set_cons_zero, List.set_cons_succ, i64_w, i32_w, u8_wr, tmod_nat, Int.reduceToNat, e4, e16, e15, e15a]; rfl))) <;>
        (apply lcall rfl rfl rfl Tryd.func9 (by kernel_rfl) rfl; (with_reducible apply Calls.mono); exact h6 _; rintro e w_ ⟨rfl, hb_⟩; refine ⟨_, rfl, ?_⟩; replace HF := HF.call hb_; clear hb_; rotate_left; (first | rfl | (simp only [List.map_toArray, List.map_cons, List.map_nil]; first | done | rfl)); (refine lnorm (a' := ?_) ?_ ?_; rotate_left; (simp only [Act.put, List.setIfInBounds_toArray, List.set_cons_zero, List.set_cons_succ, i64_w, i32_w, u8_wr, tmod_nat, Int.reduceToNat, e4, e16, e15, e15a]; rfl))) <;>
        (apply lpure rfl rfl; (go_simp; with_reducible rfl); (simp only [Act.put, List.setIfInBounds_toArray, List.set_cons_zero, List.set_cons_succ, i64_w, i32_w, u8_wr, tmod_nat, Int.reduceToNat, e4, e16, e15, e15a]; rfl)) <;>
        (apply lend)
      | ((with_reducible refine gate_region (id := 2) ?_); apply plain_region) <;>
        (apply HF.lrow rfl rfl rfl R29_ rfl; (repeat (first | exact At.head | apply At.tail)); (simp only [List.drop_succ_cons, List.drop_zero, List.take_succ_cons, List.take_zero]; rfl); rfl; (simp only [Act.put, List.setIfInBounds_toArray, List.set_cons_zero, List.set_cons_succ, i64_w, i32_w, u8_wr, tmod_nat, Int.reduceToNat, e4, e16, e15, e15a]; rfl)) <;>
        (apply lcall rfl rfl rfl Tryd.func10 (by kernel_rfl) rfl; (with_reducible apply Calls.mono); exact laws_toPrefix.calls a0 a1 a2 a3 a4 a5 _ _ _ _ _ _ _ rfl; rintro e w_ ⟨rfl, hb_⟩; refine ⟨_, rfl, ?_⟩; replace HF := HF.call hb_; clear hb_; rotate_left; (first | rfl | (simp only [List.map_toArray, List.map_cons, List.map_nil]; first | done | rfl)); (refine lnorm (a' := ?_) ?_ ?_; rotate_left; (simp only [Act.put, List.setIfInBounds_toArray, List.set_cons_zero, List.set_cons_succ, i64_w, i32_w, u8_wr, tmod_nat, Int.reduceToNat, e4, e16, e15, e15a]; rfl))) <;>
        (apply lcall rfl rfl rfl Tryd.func11 (by kernel_rfl) rfl; (with_reducible apply Calls.mono); exact h8 _ HF.below; rintro e w_ ⟨rfl, hb_⟩; refine ⟨_, rfl, ?_⟩; replace HF := HF.call hb_; clear hb_; rotate_left; (first | rfl | (simp only [List.map_toArray, List.map_cons, List.map_nil]; first | done | rfl)); (refine lnorm (a' := ?_) ?_ ?_; rotate_left; (simp only [Act.put, List.setIfInBounds_toArray, List.set_cons_zero, List.set_cons_succ, i64_w, i32_w, u8_wr, tmod_nat, Int.reduceToNat, e4, e16, e15, e15a]; rfl))) <;>
        (apply lpure rfl rfl; (go_simp; with_reducible rfl); (simp only [Act.put, List.setIfInBounds_toArray, List.set_cons_zero, List.set_cons_succ, i64_w, i32_w, u8_wr, tmod_nat, Int.reduceToNat, e4, e16, e15, e15a]; rfl)) <;>
        (apply lend)
      | ((with_reducible refine gate_region (id := 3) ?_); apply plain_region) <;>
        (apply lpure rfl rfl; (go_simp; with_reducible rfl); (simp only [Act.put, List.setIfInBounds_toArray, List.set_cons_zero, List.set_cons_succ, i64_w, i32_w, u8_wr, tmod_nat, Int.reduceToNat, e4, e16, e15, e15a]; rfl)) <;>
        (apply lpure rfl rfl; (go_simp; with_reducible rfl); (simp only [Act.put, List.setIfInBounds_toArray, List.set_cons_zero, List.set_cons_succ, i64_w, i32_w, u8_wr, tmod_nat, Int.reduceToNat, e4, e16, e15, e15a]; rfl)) <;>
        (apply lpure rfl rfl; (go_simp; with_reducible rfl); (simp only [Act.put, List.setIfInBounds_toArray, List.set_cons_zero, List.set_cons_succ, i64_w, i32_w, u8_wr, tmod_nat, Int.reduceToNat, e4, e16, e15, e15a]; rfl)) <;>
        (apply lend)
      | ((with_reducible refine gate_region (id := 5) ?_); apply plain_region) <;>
        (apply lpure rfl rfl; (go_simp; with_reducible rfl); (simp only [Act.put, List.setIfInBounds_toArray, List.set_cons_zero, List.set_cons_succ, i64_w, i32_w, u8_wr, tmod_nat, Int.reduceToNat, e4, e16, e15, e15a]; rfl)) <;>
        (apply lend)
      | go_step | fail)
  all_goals (go_ret; exact ⟨rfl, HF.below⟩)
theorem law (a0 : Int) (a1 : Int) (a2 : Int) (a3 : Int) (a4 : Int) (a5 : Int) (w : World) (htab : Lib.TabIs Tryd.prog w "internal/strconv.uint64pow10" .u64 Lib.pow10Tab) (hT : TabAt 5 Lib.deBruijn64tab w) :
    Calls Tryd.prog 4 #[.agg #[.int .i64 a0, .int .i64 a1, .int .i64 a2, .int .i64 a3, .int .i64 a4, .int .i64 a5]] w fun e w' => e = .returned (.bool true) ∧ Below w.heap.size w w' := by
  obtain ⟨S, hS, h6, h8⟩ := addrBoth a0 a1 a2 a3 a4
  have tb : ∀ w1, Below w.heap.size w w1 → Lib.TabIs Tryd.prog w1 "internal/strconv.uint64pow10" .u64 Lib.pow10Tab := fun w1 hb => Go.Joins.tab_stays gTab htab hb (Nat.le_refl _)
  have tt : ∀ w1, Below w.heap.size w w1 → TabAt 5 Lib.deBruijn64tab w1 := fun w1 hb => tab_later hT hb
  have hn : prefixB a0 a1 a2 a3 a4 a5 = true → anyB a0 a1 a2 a3 a4 a5 = false → 0 ≤ a5 ∧ a5 ≤ 128 := fun h1 h2 => by
    unfold prefixB at h1
    rw [h2, Bool.false_or] at h1
    simp only [Bool.and_eq_true, decide_eq_true_eq] at h1
    have h3 := h1.1.2
    split at h3 <;> omega
  refine lawOf a0 a1 a2 a3 a4 a5 (textP (prefixB a0 a1 a2 a3 a4 a5) (anyB a0 a1 a2 a3 a4 a5) S a5) w (fun w1 => specPrefixText _ _ S a0 a1 a2 a3 a4 a5 hS (specPrefixOk (Nat.le_refl 2000) a0 a1 a2 a3 a4 a5) (specAny a0 a1 a2 a3 a4 a5) hn w1 h6) (fun w1 hb => ?_)
  exact implPrefixText _ _ S a0 a1 a2 a3 a4 a5 hS (implPrefixOk (Nat.le_refl 2000) a0 a1 a2 a3 a4 a5) (implAny a0 a1 a2 a3 a4 a5) hn w1 (tb w1 hb) (fun w2 hb2 => h8 w2 (tb w2 (below_step hb hb2)) (tt w2 (below_step hb hb2)))
end Go.Proofs.YtljeajecajlaiaaDoor.PrefixLaw
