/- The program's AddrBytes returns what the reference's returns, for all arguments. No condition. -/
import Derived.Test.YtnpfhfckkjkifaaSFnExactAddrBytes
import Derived.Test.YtnpfhfckkjkifaaBase
namespace Go.Proofs.Ytnpfhfckkjkifaa.Pure
open Go.RowKit Go.Proofs.Ytnpfhfckkjkifaa.FFnExactAddrBytes Go.Proofs.YtnpfhfckkjkifaaW.PrintWords Go.Proofs.YtnpfhfckkjkifaaW.PrintLast Go.Proofs.YtnpfhfckkjkifaaW.PrintMore Go.Proofs.Ytnpfhfckkjkifaa.Base

set_option linter.unusedVariables false
set_option linter.unusedSimpArgs false
namespace ExactAddrBytes
theorem toAddr (k a b c d : Int) : laws_toAddr.f k a b c d = some (k, a, b, c, d) := rfl

theorem eqByteS_l (xs : List Int) (hn : xs.length ≤ 140737488355328) (d : Nat) : ∀ (k : Nat) (i : Int), 0 ≤ i → i + d = xs.length → d < k → laws_eqByteS.l0 k xs xs i = some true := by
  induction d with
  | zero =>
    intro k i h0 hi hk
    obtain ⟨k, rfl⟩ := pos_k hk
    simp only [laws_eqByteS.l0]
    rw [if_neg (by omega)]
  | succ d ih =>
    intro k i h0 hi hk
    obtain ⟨k, rfl⟩ := pos_k hk
    simp only [laws_eqByteS.l0]
    rw [if_pos (by omega), if_pos (by omega), if_pos (by omega), if_pos (by first | rfl | trivial), w64 (by omega) (by omega)]
    exact ih k (i + 1) (by omega) (by omega) (by omega)
theorem eqByteS {xs : List Int} (hn : xs.length ≤ 140737488355328) {k : Nat} (hk : xs.length < k) : laws_eqByteS.f k xs xs = some true := by
  unfold laws_eqByteS.f
  rw [if_pos rfl]
  exact eqByteS_l xs hn xs.length k 0 (by omega) (by omega) hk

theorem markByteS_l (d : Nat) : ∀ (k : Nat) (ys : List Int) (m i : Int), 0 ≤ i → i + d = ys.length → d < k → 0 ≤ m → ys.length ≤ 140737488355328 → m + d ≤ 281474976710656 →
    ∃ zs, laws_markByteS.l0 k ys m i = some (m + d, zs) ∧ zs.length = ys.length ∧ (∀ j : Nat, (j : Int) < i → zs[j]? = ys[j]?) ∧ (∀ j : Nat, i ≤ j → j < ys.length → zs[j]? = some ((m + (j - i)) % 256)) := by
  induction d with
  | zero =>
    intro k ys m i h0 hi hk hm hl hb
    obtain ⟨k, rfl⟩ := pos_k hk
    refine ⟨ys, ?_, rfl, fun _ _ => rfl, fun j h1 h2 => by omega⟩
    simp only [laws_markByteS.l0]
    rw [if_neg (by omega), show m + ((0 : Nat) : Int) = m by omega]
  | succ d ih =>
    intro k ys m i h0 hi hk hm hl hb
    obtain ⟨k, rfl⟩ := pos_k hk
    obtain ⟨zs, h1, h2, h3, h4⟩ := ih k (ys.set i.toNat (m % 256)) (m + 1) (i + 1) (by omega) (by rw [List.length_set]; omega) (by omega) (by omega) (by rw [List.length_set]; omega) (by omega)
    rw [List.length_set] at h2 h4
    refine ⟨zs, ?_, h2, ?_, ?_⟩
    · simp only [laws_markByteS.l0]
      rw [if_pos (by omega), if_pos (by omega), w64 (by omega) (by omega), w64 (by omega) (by omega), h1]
      congr 2
      omega
    · intro j hj
      rw [h3 j (by omega), List.getElem?_set_ne (by omega)]
    · intro j hj hj'
      by_cases h : (j : Int) = i
      · rw [h3 j (by omega), show i.toNat = j by omega, List.getElem?_set_self (by omega), h, show m + (i - i) = m by omega]
      · rw [h4 j (by omega) hj', show m + 1 + ((j : Int) - (i + 1)) = m + (j - i) by omega]
/-- What marking leaves reads as marked. -/
def Marked (zs : List Int) (m : Int) : Prop := ∀ j : Nat, j < zs.length → zs[j]? = some ((m + j) % 256)
theorem markByteS (ys : List Int) (hl : ys.length ≤ 140737488355328) {m : Int} (h0 : 0 ≤ m) (h1 : m ≤ 140737488355328) {k : Nat} (hk : ys.length < k) :
    ∃ zs, laws_markByteS.f k ys m = some (m + ys.length, zs) ∧ zs.length = ys.length ∧ Marked zs m := by
  obtain ⟨zs, h1, h2, h3, h4⟩ := markByteS_l ys.length k ys m 0 (by omega) (by omega) hk h0 hl (by omega)
  refine ⟨zs, h1, h2, fun j hj => ?_⟩
  rw [h4 j (by omega) (by omega), show m + ((j : Int) - 0) = m + j by omega]

theorem heldByteS_l (d : Nat) (zs : List Int) (m0 : Int) (hz : Marked zs m0) : ∀ (k : Nat) (m i : Int), 0 ≤ i → i + d = zs.length → d < k → 0 ≤ m → m = m0 + i → zs.length ≤ 140737488355328 → m + d ≤ 281474976710656 →
    laws_heldByteS.l0 k zs m i = some (m + d) := by
  induction d with
  | zero =>
    intro k m i h0 hi hk hm he hl hb
    obtain ⟨k, rfl⟩ := pos_k hk
    simp only [laws_heldByteS.l0]
    rw [if_neg (by omega), show m + ((0 : Nat) : Int) = m by omega]
  | succ d ih =>
    intro k m i h0 hi hk hm he hl hb
    obtain ⟨k, rfl⟩ := pos_k hk
    have hr : rd zs i = m % 256 := by
      have h1 := rd_get? h0 (show i < zs.length by omega)
      rw [hz i.toNat (by omega)] at h1
      rw [← Option.some.inj h1, he, show ((i.toNat : Nat) : Int) = i by omega]
    simp only [laws_heldByteS.l0]
    rw [if_pos (by omega), if_pos (by omega), if_pos hr, w64 (by omega) (by omega), w64 (by omega) (by omega), ih k (m + 1) (i + 1) (by omega) (by omega) (by omega) (by omega) (by omega) (by omega) (by omega)]
    congr 1
    omega
theorem heldByteS {zs : List Int} {m : Int} (hz : Marked zs m) (hl : zs.length ≤ 140737488355328) (h0 : 0 ≤ m) (h1 : m ≤ 140737488355328) {k : Nat} (hk : zs.length < k) : laws_heldByteS.f k zs m = some (m + zs.length) :=
  heldByteS_l zs.length zs m hz k m 0 (by omega) (by omega) hk h0 (by omega) hl (by omega)

theorem specHalf (n : Int) : spec_l03Half.f n = some (decide (Half n)) := by
  unfold spec_l03Half.f Half
  by_cases h : n ≥ 0
  · rw [if_pos h]
    simp [h]
  · rw [if_neg h]
    simp [h]
theorem specAddrOk (k a b c d : Int) : spec_AddrOk.f k a b c d = some (decide (AddrOK k a b c d)) := by
  unfold spec_AddrOk.f
  simp only [specHalf, Option.bind_some]
  unfold AddrOK
  by_cases h4 : k = 4
  · subst h4
    by_cases ha : a = 0 <;> by_cases hb : b = 0 <;> by_cases hc : c = 0 <;> simp [ha, hb, hc]
  · by_cases h6 : k = 6
    · subst h6
      by_cases ha : Half a <;> by_cases hb : Half b <;> by_cases hc : Half c <;> simp [ha, hb, hc]
    · simp [h4, h6]

theorem isLong (n : Int) : impl_isLong.f n = some (decide (Half n)) := by
  unfold impl_isLong.f impl_within.f Half
  by_cases h : n ≥ 0
  · rw [if_pos h]
    simp [h]
  · rw [if_neg h]
    simp [h]
theorem implAddrOk (k a b c d : Int) : impl_AddrOk.f k a b c d = some (decide (AddrOK k a b c d)) := by
  unfold impl_AddrOk.f
  simp only [isLong, Option.bind_some]
  unfold AddrOK
  by_cases h4 : k = 4
  · subst h4
    by_cases ha : a = 0 <;> by_cases hb : b = 0 <;> by_cases hc : c = 0 <;> simp [ha, hb, hc]
  · by_cases h6 : k = 6
    · subst h6
      by_cases ha : Half a <;> by_cases hb : Half b <;> by_cases hc : Half c <;> simp [ha, hb, hc]
    · simp [h4, h6]

theorem shr_nat (x : Int) (n : Nat) (h : n ≤ 64) (y : Int) (hy : y = n) : shr .i64 x y = x / 2 ^ n := by
  subst hy
  unfold shr
  rw [Int.toNat_natCast, Nat.min_eq_left (by exact h)]
theorem put_step (k : Nat) (a n : Int) (ys : List Int) (L i : Int) (m : Nat) (hL : L = ys.length) (h0 : 0 ≤ i) (h : i < L) (hn : n = L) (hn1 : n ≤ 8) (hm : (m : Int) = 8 * (n - 1 - i)) :
    impl_put.l0 (k + 1) a n ys L i = impl_put.l0 k a n (ys.set i.toNat (a / 2 ^ m % 256)) L (i + 1) := by
  simp only [impl_put.l0]
  rw [if_pos h, w64 (n := n - 1) (by omega) (by omega), w64 (n := n - 1 - i) (by omega) (by omega), w64 (n := 8 * (n - 1 - i)) (by omega) (by omega), if_pos (by omega), if_pos h0, if_pos (by omega),
    shr_nat a m (by omega) _ hm.symm, w64 (by omega) (by omega)]
theorem put_end (k : Nat) (a n : Int) (ys : List Int) (L i : Int) (h : ¬ i < L) : impl_put.l0 (k + 1) a n ys L i = some ys := by
  simp only [impl_put.l0]
  rw [if_neg h]
theorem put2 {k : Nat} (hk : 10 ≤ k) {a : Int} : impl_put.f k a 2 = some [a / 256 % 256, a % 256] := by
  obtain ⟨k, rfl⟩ : ∃ m, k = m + 3 := ⟨k - 3, by omega⟩
  unfold impl_put.f
  rw [if_pos (by decide), if_pos (by decide)]
  simp only [Option.bind_some]
  rw [put_step _ _ _ _ _ _ 8 (by simp) (by decide) (by decide) (by decide) (by decide) (by decide)]
  rw [put_step _ _ _ _ _ _ 0 (by simp) (by decide) (by decide) (by decide) (by decide) (by decide)]
  rw [put_end _ _ _ _ _ _ (by decide)]
  congr 1
  simp [List.replicate, List.set]
theorem put4 {k : Nat} (hk : 10 ≤ k) {a : Int} : impl_put.f k a 4 = some [a / 16777216 % 256, a / 65536 % 256, a / 256 % 256, a % 256] := by
  obtain ⟨k, rfl⟩ : ∃ m, k = m + 5 := ⟨k - 5, by omega⟩
  unfold impl_put.f
  rw [if_pos (by decide), if_pos (by decide)]
  simp only [Option.bind_some]
  rw [put_step _ _ _ _ _ _ 24 (by simp) (by decide) (by decide) (by decide) (by decide) (by decide)]
  rw [put_step _ _ _ _ _ _ 16 (by simp) (by decide) (by decide) (by decide) (by decide) (by decide)]
  rw [put_step _ _ _ _ _ _ 8 (by simp) (by decide) (by decide) (by decide) (by decide) (by decide)]
  rw [put_step _ _ _ _ _ _ 0 (by simp) (by decide) (by decide) (by decide) (by decide) (by decide)]
  rw [put_end _ _ _ _ _ _ (by decide)]
  congr 1
  simp [List.replicate, List.set]

theorem specLow {a m : Int} (_ha : -9223372036854775808 ≤ a ∧ a ≤ 9223372036854775807) (hm0 : 0 < m) (hm1 : m ≤ 4294967296) : spec_l01Low.f a m = some (a % m) := by
  unfold spec_l01Low.f
  have h1 := Int.emod_nonneg a (show m ≠ 0 by omega)
  have h2 := Int.emod_lt_of_pos a hm0
  have h3 := Int.tmod_eq_emod (a := a) (b := m)
  rw [if_neg (by omega)]
  by_cases h : 0 ≤ a
  · rw [tmod_pos h, if_neg (by omega)]
  · have e := Int.emod_def a m
    by_cases hz : m ∣ a
    · have h4 : Int.tmod a m = 0 := Int.tmod_eq_zero_of_dvd hz
      have h5 : a % m = 0 := Int.emod_eq_zero_of_dvd hz
      rw [h4, h5, if_neg (by omega)]
    · have h4 : Int.tmod a m = a % m - m := by
        rw [h3, if_neg (by intro hh; rcases hh with hh | hh; exact h hh; exact hz hh)]
        omega
      rw [h4, if_pos (by omega), w64 (by omega) (by omega)]
      congr 1
      omega

theorem specPut16 {a : Int} (hb : -9223372036854775808 ≤ a ∧ a ≤ 9223372036854775807) : spec_Put16.f a = some [a / 256 % 256, a % 256] := by
  unfold spec_Put16.f
  rw [specLow hb (by omega) (by omega)]
  simp only [Option.bind_some]
  rw [tdiv_pos (by omega), tmod_pos (by omega), w64 (by omega) (by omega), show a % 65536 / 256 % 256 = a / 256 % 256 by omega, show a % 65536 % 256 % 256 = a % 256 by omega]

theorem specPut32 {a : Int} (hb : -9223372036854775808 ≤ a ∧ a ≤ 9223372036854775807) : spec_Put32.f a = some [a / 16777216 % 256, a / 65536 % 256, a / 256 % 256, a % 256] := by
  unfold spec_Put32.f
  rw [specLow hb (by omega) (by omega)]
  simp only [Option.bind_some]
  rw [tdiv_pos (by omega), tmod_pos (by omega), w64 (by omega) (by omega), specPut16 (by omega), specPut16 (by omega)]
  simp only [Option.bind_some]
  rw [if_pos (by simp), show a % 4294967296 / 65536 / 256 % 256 = a / 16777216 % 256 by omega, show a % 4294967296 / 65536 % 256 = a / 65536 % 256 by omega, show a % 4294967296 % 65536 / 256 % 256 = a / 256 % 256 by omega, show a % 4294967296 % 65536 % 256 = a % 256 by omega]
  rfl

theorem grow {n : Int} (h0 : 0 ≤ n) (h1 : n ≤ 140737488355328) (l : List Int) : slices_Grow_byte_byte.f l n = some [] := by
  unfold slices_Grow_byte_byte.f
  rw [if_pos h0, if_pos h1]
theorem concat_l1 (ls : List (List Int)) (hn : ls.length ≤ 1000) (d : Nat) : ∀ (k : Nat) (acc : List Int) (i : Int), 0 ≤ i → i + d = ls.length → d < k → acc.length + ((ls.drop i.toNat).flatten).length < 140737488355328 → slices_Concat_byte_byte.l1 k acc ls ls.length i = some (acc ++ (ls.drop i.toNat).flatten) := by
  induction d with
  | zero =>
    intro k acc i h0 hi hk hl
    obtain ⟨k, rfl⟩ := pos_k hk
    simp only [slices_Concat_byte_byte.l1]
    rw [if_neg (by omega), List.drop_eq_nil_of_le (by omega)]
    simp
  | succ d ih =>
    intro k acc i h0 hi hk hl
    obtain ⟨k, rfl⟩ := pos_k hk
    have e : ls.drop i.toNat = rd_L1 ls i :: ls.drop (i + 1).toNat := dropG ([] : List Int) h0 (show i < ls.length by omega)
    rw [e, List.flatten_cons, List.length_append] at hl
    simp only [slices_Concat_byte_byte.l1]
    rw [if_pos (by omega), if_pos h0, if_pos (by omega), if_pos (by omega), w64 (by omega) (by omega), ih k _ (i + 1) (by omega) (by omega) (by omega) (by rw [List.length_append]; omega), e, List.flatten_cons, List.append_assoc]
theorem concat_l0 (ls : List (List Int)) (hn : ls.length ≤ 1000) (hb : ls.flatten.length < 140737488355328) (d : Nat) : ∀ (k : Nat) (s i : Int), 0 ≤ i → i + d = ls.length → d + ls.length + 10 < k → 0 ≤ s → s + ((ls.drop i.toNat).flatten).length < 140737488355328 → slices_Concat_byte_byte.l0 k ls s ls ls.length i = some ls.flatten := by
  induction d with
  | zero =>
    intro k s i h0 hi hk hs hl
    obtain ⟨k, rfl⟩ := pos_k hk
    simp only [slices_Concat_byte_byte.l0]
    rw [if_neg (by omega), grow hs (by omega)]
    simp only [Option.bind_some]
    rw [concat_l1 ls hn ls.length k [] 0 (by omega) (by omega) (by omega) (by simpa using hb)]
    simp
  | succ d ih =>
    intro k s i h0 hi hk hs hl
    obtain ⟨k, rfl⟩ := pos_k hk
    have e : ls.drop i.toNat = rd_L1 ls i :: ls.drop (i + 1).toNat := dropG ([] : List Int) h0 (show i < ls.length by omega)
    rw [e, List.flatten_cons, List.length_append] at hl
    simp only [slices_Concat_byte_byte.l0]
    rw [if_pos (by omega), if_pos h0, if_pos (by omega), w64 (n := s + ((rd_L1 ls i).length : Int)) (by omega) (by omega), if_neg (by omega), w64 (by omega) (by omega), ih k _ (i + 1) (by omega) (by omega) (by omega) (by omega) (by omega)]
theorem concat {ls : List (List Int)} (hn : ls.length ≤ 1000) (hb : ls.flatten.length < 140737488355328) {k : Nat} (hk : 2 * ls.length + 10 < k) : slices_Concat_byte_byte.f k ls = some ls.flatten := by
  unfold slices_Concat_byte_byte.f
  rw [concat_l0 ls hn hb ls.length k 0 0 (by omega) (by omega) (by omega) (by omega) (by show (0 : Int) + (ls.flatten.length : Int) < _; omega)]

theorem specAddrBytes (k a b c d : Int) : spec_AddrBytes.f k a b c d = some (addrBytes k a b c d) := by
  unfold spec_AddrBytes.f addrBytes
  rw [specAddrOk]
  simp only [Option.bind_some]
  by_cases h : AddrOK k a b c d
  · rw [decide_eq_true h, if_pos rfl, if_pos h]
    have h' := h
    unfold AddrOK Half at h'
    by_cases h4 : k = 4
    · rw [if_pos h4, if_pos h4, specPut32 (by omega)]
      rfl
    · rw [if_neg h4, if_neg h4, specPut32 (a := a) (by omega), specPut32 (a := b) (by omega), specPut32 (a := c) (by omega), specPut32 (a := d) (by omega)]
      simp only [Option.bind_some]
      rw [if_pos (by simp), if_pos (by simp), if_pos (by simp)]
      rfl
  · rw [decide_eq_false h, if_neg Bool.false_ne_true, if_neg h]
theorem implPut32 {k : Nat} (hk : 10 ≤ k) (a : Int) : impl_Put32.f k a = some (b4 a) := by
  unfold impl_Put32.f
  rw [put4 hk]
  rfl
theorem implAddrBytes {n : Nat} (hn : 30 ≤ n) (k a b c d : Int) : impl_AddrBytes.f n k a b c d = some (addrBytes k a b c d) := by
  unfold impl_AddrBytes.f addrBytes
  rw [implAddrOk]
  simp only [Option.bind_some]
  by_cases h : AddrOK k a b c d
  · rw [decide_eq_true h, if_pos rfl, if_pos h]
    by_cases h4 : k = 4
    · rw [if_pos h4, if_pos h4, implPut32 (by omega)]
      rfl
    · rw [if_neg h4, if_neg h4, implPut32 (by omega), implPut32 (by omega), implPut32 (by omega), implPut32 (by omega)]
      simp only [Option.bind_some]
      rw [concat (by simp) (by simp [b4]) (by simp; omega)]
      simp
  · rw [decide_eq_false h, if_neg Bool.false_ne_true, if_neg h]
theorem addrBytes_len (k a b c d : Int) : (addrBytes k a b c d).length ≤ 16 := by
  unfold addrBytes
  split
  · split <;> simp [b4]
  · simp
theorem addrBytes_u8 (k a b c d : Int) : U8 (addrBytes k a b c d) := by
  unfold addrBytes
  split
  · split
    · exact U8.b4 _
    · exact (U8.b4 _).append ((U8.b4 _).append ((U8.b4 _).append (U8.b4 _)))
  · exact U8.nil

end ExactAddrBytes
open ExactAddrBytes

theorem FnExactAddrBytes : laws_FnExactAddrBytes.Pure := by
  intro a0 a1 a2 a3 a4 _ _ _ _ _
  have hb := addrBytes_len a0 a1 a2 a3 a4
  generalize hr : addrBytes a0 a1 a2 a3 a4 = r at hb
  obtain ⟨zs, hm, hl, hz⟩ := markByteS r (by omega) (m := 1) (by omega) (by omega) (k := 50) (by omega)
  have hh := heldByteS hz (by omega) (by omega) (by omega) (k := 50) (by omega)
  have he := eqByteS (xs := r) (by omega) (k := 50) (by omega)
  have hs := specAddrBytes a0 a1 a2 a3 a4
  have hi := implAddrBytes (show 30 ≤ 50 by omega) a0 a1 a2 a3 a4
  rw [hr] at hs hi
  refine ⟨50, ?_⟩
  rw [hl] at hh
  have hp : ¬ ((1 : Int) + r.length < 0) := by omega
  unfold laws_FnExactAddrBytes.f
  simp only [toAddr, Option.bind_some, hs, hi, he, if_true, hm, hh, if_neg hp]

end Go.Proofs.Ytnpfhfckkjkifaa.Pure
