/- The program's EtherBytes returns what the reference's returns, for all arguments. No condition. -/
import Derived.Test.YthkocmpilkoibaaSFnExactEtherBytes
import Derived.Test.YthkocmpilkoibaaBase
namespace Go.Proofs.Ythkocmpilkoibaa.Pure
open Go.RowKit Go.Proofs.Ythkocmpilkoibaa.FFnExactEtherBytes Go.Proofs.YthkocmpilkoibaaW.PrintWords Go.Proofs.YthkocmpilkoibaaW.PrintLast Go.Proofs.YthkocmpilkoibaaW.PrintMore Go.Proofs.Ythkocmpilkoibaa.Base

set_option linter.unusedVariables false
set_option linter.unusedSimpArgs false
namespace ExactEtherBytes
theorem toByteS_l (xs : List Int) (hn : xs.length ≤ 140737488355328) (d : Nat) : ∀ (k : Nat) (ys : List Int) (i : Int), 0 ≤ i → i + d = xs.length → d < k → ys.length = xs.length → (∀ j : Nat, (j : Int) < i → ys[j]? = xs[j]?) → laws_toByteS.l0 k xs ys i = some xs := by
  induction d with
  | zero =>
    intro k ys i h0 hi hk hl hj
    obtain ⟨k, rfl⟩ := pos_k hk
    simp only [laws_toByteS.l0]
    rw [if_neg (by omega)]
    congr 1
    apply List.ext_getElem?
    intro j
    by_cases h : (j : Int) < i
    · exact hj j h
    · rw [List.getElem?_eq_none (by omega), List.getElem?_eq_none (by omega)]
  | succ d ih =>
    intro k ys i h0 hi hk hl hj
    obtain ⟨k, rfl⟩ := pos_k hk
    simp only [laws_toByteS.l0]
    rw [if_pos (by omega), if_pos (by omega), if_pos (by omega), w64 (by omega) (by omega)]
    refine ih k _ (i + 1) (by omega) (by omega) (by omega) (by rw [List.length_set]; omega) ?_
    intro j hj'
    by_cases h : (j : Int) = i
    · have e : i.toNat = j := by omega
      rw [e, List.getElem?_set_self (by omega), ← h, ← rd_get? (by omega) (by omega)]
      rfl
    · rw [List.getElem?_set_ne (by omega)]
      exact hj j (by omega)
theorem toByteS {xs : List Int} (hn : xs.length ≤ 140737488355328) {k : Nat} (hk : xs.length < k) : laws_toByteS.f k xs = some xs := by
  unfold laws_toByteS.f
  rw [if_pos (by omega), if_pos (by omega)]
  exact toByteS_l xs hn xs.length k _ 0 (by omega) (by omega) hk (by simp) (fun j hj => by omega)

theorem eqByteS_l (xs : List Int) (hn : xs.length ≤ 140737488355328) (d : Nat) : ∀ (k : Nat) (i : Int), 0 ≤ i → i + d = xs.length → d < k → laws_eqByteS.l0 k xs xs i = some true := by
  induction d with
  | zero =>
    intro k i h0 hi hk
    obtain ⟨k, rfl⟩ := pos_k hk
    simp only [laws_eqByteS.l0]
    rw [if_neg (by omega)]
  | succ d ih =>
    intro k i h0 hi hk
    obtain ⟨k, rfl⟩ := pos_k hk
    simp only [laws_eqByteS.l0]
    rw [if_pos (by omega), if_pos (by omega), if_pos (by omega), if_pos (by first | rfl | trivial), w64 (by omega) (by omega)]
    exact ih k (i + 1) (by omega) (by omega) (by omega)
theorem eqByteS {xs : List Int} (hn : xs.length ≤ 140737488355328) {k : Nat} (hk : xs.length < k) : laws_eqByteS.f k xs xs = some true := by
  unfold laws_eqByteS.f
  rw [if_pos rfl]
  exact eqByteS_l xs hn xs.length k 0 (by omega) (by omega) hk

theorem markByteS_l (d : Nat) : ∀ (k : Nat) (ys : List Int) (m i : Int), 0 ≤ i → i + d = ys.length → d < k → 0 ≤ m → ys.length ≤ 140737488355328 → m + d ≤ 281474976710656 →
    ∃ zs, laws_markByteS.l0 k ys m i = some (m + d, zs) ∧ zs.length = ys.length ∧ (∀ j : Nat, (j : Int) < i → zs[j]? = ys[j]?) ∧ (∀ j : Nat, i ≤ j → j < ys.length → zs[j]? = some ((m + (j - i)) % 256)) := by
  induction d with
  | zero =>
    intro k ys m i h0 hi hk hm hl hb
    obtain ⟨k, rfl⟩ := pos_k hk
    refine ⟨ys, ?_, rfl, fun _ _ => rfl, fun j h1 h2 => by omega⟩
    simp only [laws_markByteS.l0]
    rw [if_neg (by omega), show m + ((0 : Nat) : Int) = m by omega]
  | succ d ih =>
    intro k ys m i h0 hi hk hm hl hb
    obtain ⟨k, rfl⟩ := pos_k hk
    obtain ⟨zs, h1, h2, h3, h4⟩ := ih k (ys.set i.toNat (m % 256)) (m + 1) (i + 1) (by omega) (by rw [List.length_set]; omega) (by omega) (by omega) (by rw [List.length_set]; omega) (by omega)
    rw [List.length_set] at h2 h4
    refine ⟨zs, ?_, h2, ?_, ?_⟩
    · simp only [laws_markByteS.l0]
      rw [if_pos (by omega), if_pos (by omega), w64 (by omega) (by omega), w64 (by omega) (by omega), h1]
      congr 2
      omega
    · intro j hj
      rw [h3 j (by omega), List.getElem?_set_ne (by omega)]
    · intro j hj hj'
      by_cases h : (j : Int) = i
      · rw [h3 j (by omega), show i.toNat = j by omega, List.getElem?_set_self (by omega), h, show m + (i - i) = m by omega]
      · rw [h4 j (by omega) hj', show m + 1 + ((j : Int) - (i + 1)) = m + (j - i) by omega]
/-- What marking leaves reads as marked. -/
def Marked (zs : List Int) (m : Int) : Prop := ∀ j : Nat, j < zs.length → zs[j]? = some ((m + j) % 256)
theorem markByteS (ys : List Int) (hl : ys.length ≤ 140737488355328) {m : Int} (h0 : 0 ≤ m) (h1 : m ≤ 140737488355328) {k : Nat} (hk : ys.length < k) :
    ∃ zs, laws_markByteS.f k ys m = some (m + ys.length, zs) ∧ zs.length = ys.length ∧ Marked zs m := by
  obtain ⟨zs, h1, h2, h3, h4⟩ := markByteS_l ys.length k ys m 0 (by omega) (by omega) hk h0 hl (by omega)
  refine ⟨zs, h1, h2, fun j hj => ?_⟩
  rw [h4 j (by omega) (by omega), show m + ((j : Int) - 0) = m + j by omega]

theorem heldByteS_l (d : Nat) (zs : List Int) (m0 : Int) (hz : Marked zs m0) : ∀ (k : Nat) (m i : Int), 0 ≤ i → i + d = zs.length → d < k → 0 ≤ m → m = m0 + i → zs.length ≤ 140737488355328 → m + d ≤ 281474976710656 →
    laws_heldByteS.l0 k zs m i = some (m + d) := by
  induction d with
  | zero =>
    intro k m i h0 hi hk hm he hl hb
    obtain ⟨k, rfl⟩ := pos_k hk
    simp only [laws_heldByteS.l0]
    rw [if_neg (by omega), show m + ((0 : Nat) : Int) = m by omega]
  | succ d ih =>
    intro k m i h0 hi hk hm he hl hb
    obtain ⟨k, rfl⟩ := pos_k hk
    have hr : rd zs i = m % 256 := by
      have h1 := rd_get? h0 (show i < zs.length by omega)
      rw [hz i.toNat (by omega)] at h1
      rw [← Option.some.inj h1, he, show ((i.toNat : Nat) : Int) = i by omega]
    simp only [laws_heldByteS.l0]
    rw [if_pos (by omega), if_pos (by omega), if_pos hr, w64 (by omega) (by omega), w64 (by omega) (by omega), ih k (m + 1) (i + 1) (by omega) (by omega) (by omega) (by omega) (by omega) (by omega) (by omega)]
    congr 1
    omega
theorem heldByteS {zs : List Int} {m : Int} (hz : Marked zs m) (hl : zs.length ≤ 140737488355328) (h0 : 0 ≤ m) (h1 : m ≤ 140737488355328) {k : Nat} (hk : zs.length < k) : laws_heldByteS.f k zs m = some (m + zs.length) :=
  heldByteS_l zs.length zs m hz k m 0 (by omega) (by omega) hk h0 (by omega) hl (by omega)

theorem szByteS (l : List Int) (a : Int) (h0 : 0 ≤ a) (h1 : a ≤ 1048576) (hl : l.length ≤ maxLen) : laws_szByteS.f l a = some (if a - l.length < 0 then -1 else a - l.length) := by
  unfold maxLen at hl
  unfold laws_szByteS.f
  rw [w64 (by omega) (by omega)]
  by_cases h : a - l.length < 0
  · rw [if_pos h, if_pos h]
  · rw [if_neg h, if_neg h]

theorem szEther (a0 a1 a2 a3 : Int) (l : List Int) (hl : l.length ≤ maxLen) : ∃ r, laws_szEther.f a0 a1 a2 a3 l 1048576 = some r ∧ (¬ r < 0 → l.length ≤ 1048576) := by
  unfold laws_szEther.f
  rw [szByteS l _ (by omega) (by omega) hl]
  simp only [Option.bind_some]
  by_cases h : (1048576 : Int) - l.length < 0
  · rw [if_pos h, if_pos (by decide)]
    exact ⟨-1, rfl, fun hh => absurd (by decide) hh⟩
  · rw [if_neg h, if_neg h]
    exact ⟨_, rfl, fun _ => by omega⟩
theorem toEther (a0 a1 a2 a3 : Int) (l : List Int) (hn : l.length ≤ 140737488355328) {k : Nat} (hk : l.length < k) : laws_toEther.f k a0 a1 a2 a3 l = some (a0, a1, a2, a3, l) := by
  unfold laws_toEther.f
  rw [toByteS hn hk]
  rfl
theorem eqEther (a0 a1 a2 a3 : Int) (l : List Int) (hn : l.length ≤ 140737488355328) {k : Nat} (hk : l.length < k) : laws_eqEther.f k a0 a1 a2 a3 l a0 a1 a2 a3 l = some true := by
  unfold laws_eqEther.f
  simp only [if_true, eqByteS hn hk, Option.bind_some]

def EtherOK (d s t k n : Int) : Prop := (0 ≤ d ∧ d ≤ 281474976710655) ∧ (0 ≤ s ∧ s ≤ 281474976710655) ∧ (-1 ≤ t ∧ t ≤ 65535) ∧ (1536 ≤ k ∧ k ≤ 65535 ∧ k ≠ 33024) ∧ (t ≥ 0 → n ≤ 1582) ∧ (t < 0 → n ≤ 1586)
instance (d s t k n : Int) : Decidable (EtherOK d s t k n) := by unfold EtherOK; infer_instance
theorem specEtherOk {m : Nat} (hm : 0 < m) (d s t k : Int) (l : List Int) : spec_EtherOk.f m d s t k l = some (decide (EtherOK d s t k l.length)) := by
  obtain ⟨m, rfl⟩ := pos_k hm
  unfold spec_EtherOk.f
  simp only [spec_EtherOk.j0, if_true]
  repeat' split
  all_goals refine some_decide ?_
  all_goals unfold EtherOK
  all_goals (simp only [decide_eq_true_eq, Bool.false_eq_true, false_iff] at *; omega)
theorem implEtherOk (d s t k : Int) (l : List Int) (hl : l.length ≤ 1048576) : impl_EtherOk.f d s t k l = some (decide (EtherOK d s t k l.length)) := by
  unfold impl_EtherOk.f impl_isKind.f impl_within.f impl_headOf.f
  have hw : ∀ n : Int, 0 ≤ n → n ≤ 18 → wrap64 (n + l.length) = n + l.length := fun n h0 h1 => w64 (by omega) (by omega)
  by_cases h1 : d ≥ 0 <;> by_cases h2 : d ≤ 281474976710655 <;> by_cases h3 : s ≥ 0 <;> by_cases h4 : s ≤ 281474976710655 <;> simp only [h1, h2, h3, h4, if_true, if_false, decide_true, decide_false, Option.bind_some, Bool.false_eq_true]
  all_goals first | (refine some_decide ?_; unfold EtherOK; simp only [Bool.false_eq_true, false_iff]; omega) | skip
  by_cases h5 : t ≥ -1 <;> by_cases h6 : t ≤ 65535 <;> by_cases h7 : k ≥ 1536 <;> by_cases h8 : k ≤ 65535 <;> simp only [h5, h6, h7, h8, if_true, if_false, decide_true, decide_false, Option.bind_some, Bool.false_eq_true]
  all_goals first | (refine some_decide ?_; unfold EtherOK; simp only [Bool.false_eq_true, false_iff]; omega) | skip
  by_cases h9 : k = 33024 <;> by_cases h10 : t ≥ 0 <;> simp only [h9, h10, bne_self_eq_false, bne_iff_ne, ne_eq, not_true_eq_false, not_false_eq_true, Bool.false_eq_true, if_true, if_false, Option.bind_some, hw 18 (by omega) (by omega), hw 14 (by omega) (by omega)]
  all_goals (refine some_decide ?_; unfold EtherOK; simp only [Bool.false_eq_true, false_iff, decide_eq_true_eq]; omega)

theorem shr_nat (x : Int) (n : Nat) (h : n ≤ 64) (y : Int) (hy : y = n) : shr .i64 x y = x / 2 ^ n := by
  subst hy
  unfold shr
  rw [Int.toNat_natCast, Nat.min_eq_left (by exact h)]
theorem put_step (k : Nat) (a n : Int) (ys : List Int) (L i : Int) (m : Nat) (hL : L = ys.length) (h0 : 0 ≤ i) (h : i < L) (hn : n = L) (hn1 : n ≤ 8) (hm : (m : Int) = 8 * (n - 1 - i)) :
    impl_put.l0 (k + 1) a n ys L i = impl_put.l0 k a n (ys.set i.toNat (a / 2 ^ m % 256)) L (i + 1) := by
  simp only [impl_put.l0]
  rw [if_pos h, w64 (n := n - 1) (by omega) (by omega), w64 (n := n - 1 - i) (by omega) (by omega), w64 (n := 8 * (n - 1 - i)) (by omega) (by omega), if_pos (by omega), if_pos h0, if_pos (by omega),
    shr_nat a m (by omega) _ hm.symm, w64 (by omega) (by omega)]
theorem put_end (k : Nat) (a n : Int) (ys : List Int) (L i : Int) (h : ¬ i < L) : impl_put.l0 (k + 1) a n ys L i = some ys := by
  simp only [impl_put.l0]
  rw [if_neg h]
theorem put2 {k : Nat} (hk : 10 ≤ k) {a : Int} : impl_put.f k a 2 = some [a / 256 % 256, a % 256] := by
  obtain ⟨k, rfl⟩ : ∃ m, k = m + 3 := ⟨k - 3, by omega⟩
  unfold impl_put.f
  rw [if_pos (by decide), if_pos (by decide)]
  simp only [Option.bind_some]
  rw [put_step _ _ _ _ _ _ 8 (by simp) (by decide) (by decide) (by decide) (by decide) (by decide)]
  rw [put_step _ _ _ _ _ _ 0 (by simp) (by decide) (by decide) (by decide) (by decide) (by decide)]
  rw [put_end _ _ _ _ _ _ (by decide)]
  congr 1
  simp [List.replicate, List.set]
theorem put4 {k : Nat} (hk : 10 ≤ k) {a : Int} : impl_put.f k a 4 = some [a / 16777216 % 256, a / 65536 % 256, a / 256 % 256, a % 256] := by
  obtain ⟨k, rfl⟩ : ∃ m, k = m + 5 := ⟨k - 5, by omega⟩
  unfold impl_put.f
  rw [if_pos (by decide), if_pos (by decide)]
  simp only [Option.bind_some]
  rw [put_step _ _ _ _ _ _ 24 (by simp) (by decide) (by decide) (by decide) (by decide) (by decide)]
  rw [put_step _ _ _ _ _ _ 16 (by simp) (by decide) (by decide) (by decide) (by decide) (by decide)]
  rw [put_step _ _ _ _ _ _ 8 (by simp) (by decide) (by decide) (by decide) (by decide) (by decide)]
  rw [put_step _ _ _ _ _ _ 0 (by simp) (by decide) (by decide) (by decide) (by decide) (by decide)]
  rw [put_end _ _ _ _ _ _ (by decide)]
  congr 1
  simp [List.replicate, List.set]
theorem put6 {k : Nat} (hk : 10 ≤ k) {a : Int} : impl_put.f k a 6 = some [a / 1099511627776 % 256, a / 4294967296 % 256, a / 16777216 % 256, a / 65536 % 256, a / 256 % 256, a % 256] := by
  obtain ⟨k, rfl⟩ : ∃ m, k = m + 7 := ⟨k - 7, by omega⟩
  unfold impl_put.f
  rw [if_pos (by decide), if_pos (by decide)]
  simp only [Option.bind_some]
  rw [put_step _ _ _ _ _ _ 40 (by simp) (by decide) (by decide) (by decide) (by decide) (by decide)]
  rw [put_step _ _ _ _ _ _ 32 (by simp) (by decide) (by decide) (by decide) (by decide) (by decide)]
  rw [put_step _ _ _ _ _ _ 24 (by simp) (by decide) (by decide) (by decide) (by decide) (by decide)]
  rw [put_step _ _ _ _ _ _ 16 (by simp) (by decide) (by decide) (by decide) (by decide) (by decide)]
  rw [put_step _ _ _ _ _ _ 8 (by simp) (by decide) (by decide) (by decide) (by decide) (by decide)]
  rw [put_step _ _ _ _ _ _ 0 (by simp) (by decide) (by decide) (by decide) (by decide) (by decide)]
  rw [put_end _ _ _ _ _ _ (by decide)]
  congr 1
  simp [List.replicate, List.set]

theorem implPut16 {k : Nat} (hk : 10 ≤ k) (a : Int) : impl_Put16.f k a = some (b2 a) := by
  unfold impl_Put16.f
  rw [put2 hk]
  rfl

theorem specLow {a m : Int} (_ha : -9223372036854775808 ≤ a ∧ a ≤ 9223372036854775807) (hm0 : 0 < m) (hm1 : m ≤ 4294967296) : spec_l01Low.f a m = some (a % m) := by
  unfold spec_l01Low.f
  have h1 := Int.emod_nonneg a (show m ≠ 0 by omega)
  have h2 := Int.emod_lt_of_pos a hm0
  have h3 := Int.tmod_eq_emod (a := a) (b := m)
  rw [if_neg (by omega)]
  by_cases h : 0 ≤ a
  · rw [tmod_pos h, if_neg (by omega)]
  · have e := Int.emod_def a m
    by_cases hz : m ∣ a
    · have h4 : Int.tmod a m = 0 := Int.tmod_eq_zero_of_dvd hz
      have h5 : a % m = 0 := Int.emod_eq_zero_of_dvd hz
      rw [h4, h5, if_neg (by omega)]
    · have h4 : Int.tmod a m = a % m - m := by
        rw [h3, if_neg (by intro hh; rcases hh with hh | hh; exact h hh; exact hz hh)]
        omega
      rw [h4, if_pos (by omega), w64 (by omega) (by omega)]
      congr 1
      omega

theorem specPut16 {a : Int} (hb : -9223372036854775808 ≤ a ∧ a ≤ 9223372036854775807) : spec_Put16.f a = some [a / 256 % 256, a % 256] := by
  unfold spec_Put16.f
  rw [specLow hb (by omega) (by omega)]
  simp only [Option.bind_some]
  rw [tdiv_pos (by omega), tmod_pos (by omega), w64 (by omega) (by omega), show a % 65536 / 256 % 256 = a / 256 % 256 by omega, show a % 65536 % 256 % 256 = a % 256 by omega]

theorem specPut32 {a : Int} (hb : -9223372036854775808 ≤ a ∧ a ≤ 9223372036854775807) : spec_Put32.f a = some [a / 16777216 % 256, a / 65536 % 256, a / 256 % 256, a % 256] := by
  unfold spec_Put32.f
  rw [specLow hb (by omega) (by omega)]
  simp only [Option.bind_some]
  rw [tdiv_pos (by omega), tmod_pos (by omega), w64 (by omega) (by omega), specPut16 (by omega), specPut16 (by omega)]
  simp only [Option.bind_some]
  rw [if_pos (by simp), show a % 4294967296 / 65536 / 256 % 256 = a / 16777216 % 256 by omega, show a % 4294967296 / 65536 % 256 = a / 65536 % 256 by omega, show a % 4294967296 % 65536 / 256 % 256 = a / 256 % 256 by omega, show a % 4294967296 % 65536 % 256 = a % 256 by omega]
  rfl

theorem grow {n : Int} (h0 : 0 ≤ n) (h1 : n ≤ 140737488355328) (l : List Int) : slices_Grow_byte_byte.f l n = some [] := by
  unfold slices_Grow_byte_byte.f
  rw [if_pos h0, if_pos h1]
theorem concat_l1 (ls : List (List Int)) (hn : ls.length ≤ 1000) (d : Nat) : ∀ (k : Nat) (acc : List Int) (i : Int), 0 ≤ i → i + d = ls.length → d < k → acc.length + ((ls.drop i.toNat).flatten).length < 140737488355328 → slices_Concat_byte_byte.l1 k acc ls ls.length i = some (acc ++ (ls.drop i.toNat).flatten) := by
  induction d with
  | zero =>
    intro k acc i h0 hi hk hl
    obtain ⟨k, rfl⟩ := pos_k hk
    simp only [slices_Concat_byte_byte.l1]
    rw [if_neg (by omega), List.drop_eq_nil_of_le (by omega)]
    simp
  | succ d ih =>
    intro k acc i h0 hi hk hl
    obtain ⟨k, rfl⟩ := pos_k hk
    have e : ls.drop i.toNat = rd_L1 ls i :: ls.drop (i + 1).toNat := dropG ([] : List Int) h0 (show i < ls.length by omega)
    rw [e, List.flatten_cons, List.length_append] at hl
    simp only [slices_Concat_byte_byte.l1]
    rw [if_pos (by omega), if_pos h0, if_pos (by omega), if_pos (by omega), w64 (by omega) (by omega), ih k _ (i + 1) (by omega) (by omega) (by omega) (by rw [List.length_append]; omega), e, List.flatten_cons, List.append_assoc]
theorem concat_l0 (ls : List (List Int)) (hn : ls.length ≤ 1000) (hb : ls.flatten.length < 140737488355328) (d : Nat) : ∀ (k : Nat) (s i : Int), 0 ≤ i → i + d = ls.length → d + ls.length + 10 < k → 0 ≤ s → s + ((ls.drop i.toNat).flatten).length < 140737488355328 → slices_Concat_byte_byte.l0 k ls s ls ls.length i = some ls.flatten := by
  induction d with
  | zero =>
    intro k s i h0 hi hk hs hl
    obtain ⟨k, rfl⟩ := pos_k hk
    simp only [slices_Concat_byte_byte.l0]
    rw [if_neg (by omega), grow hs (by omega)]
    simp only [Option.bind_some]
    rw [concat_l1 ls hn ls.length k [] 0 (by omega) (by omega) (by omega) (by simpa using hb)]
    simp
  | succ d ih =>
    intro k s i h0 hi hk hs hl
    obtain ⟨k, rfl⟩ := pos_k hk
    have e : ls.drop i.toNat = rd_L1 ls i :: ls.drop (i + 1).toNat := dropG ([] : List Int) h0 (show i < ls.length by omega)
    rw [e, List.flatten_cons, List.length_append] at hl
    simp only [slices_Concat_byte_byte.l0]
    rw [if_pos (by omega), if_pos h0, if_pos (by omega), w64 (n := s + ((rd_L1 ls i).length : Int)) (by omega) (by omega), if_neg (by omega), w64 (by omega) (by omega), ih k _ (i + 1) (by omega) (by omega) (by omega) (by omega) (by omega)]
theorem concat {ls : List (List Int)} (hn : ls.length ≤ 1000) (hb : ls.flatten.length < 140737488355328) {k : Nat} (hk : 2 * ls.length + 10 < k) : slices_Concat_byte_byte.f k ls = some ls.flatten := by
  unfold slices_Concat_byte_byte.f
  rw [concat_l0 ls hn hb ls.length k 0 0 (by omega) (by omega) (by omega) (by omega) (by show (0 : Int) + (ls.flatten.length : Int) < _; omega)]

def etherBytes (d s t k : Int) (l : List Int) : List Int :=
  if EtherOK d s t k l.length then b6 d ++ (b6 s ++ ((if t ≥ 0 then b2 33024 ++ b2 t else []) ++ (b2 k ++ l))) else []
theorem specMac {n : Int} (h0 : 0 ≤ n) (h1 : n ≤ 281474976710655) : spec_l04Mac.f n = some (b6 n) := by
  unfold spec_l04Mac.f
  rw [tdiv_pos h0, tmod_pos h0, w64 (by omega) (by omega), specPut16 (by omega), specPut32 (by omega)]
  simp only [Option.bind_some]
  rw [if_pos (by simp)]
  congr 1
  unfold b6
  rw [show n / 4294967296 / 256 % 256 = n / 1099511627776 % 256 by omega, show n % 4294967296 / 16777216 % 256 = n / 16777216 % 256 by omega, show n % 4294967296 / 65536 % 256 = n / 65536 % 256 by omega, show n % 4294967296 / 256 % 256 = n / 256 % 256 by omega, show n % 4294967296 % 256 = n % 256 by omega]
  rfl
theorem specEtherBytes {m : Nat} (hm : 10 ≤ m) (d s t k : Int) (l : List Int) : spec_EtherBytes.f m d s t k l = some (etherBytes d s t k l) := by
  unfold spec_EtherBytes.f etherBytes
  rw [specEtherOk (by omega)]
  simp only [Option.bind_some]
  by_cases h : EtherOK d s t k l.length
  · rw [decide_eq_true h, if_pos rfl, if_pos h]
    have h' := h
    unfold EtherOK at h'
    rw [specMac (by omega) (by omega), specMac (by omega) (by omega)]
    simp only [Option.bind_some]
    rw [if_pos (by simp [b6])]
    by_cases ht : t ≥ 0
    · have hl : (l.length : Int) ≤ 1582 := h'.2.2.2.2.1 ht
      rw [if_pos ht, if_pos ht, specPut16 (a := 33024) (by omega), specPut16 (a := t) (by omega), specPut16 (a := k) (by omega)]
      simp only [Option.bind_some]
      rw [if_pos (by simp [b6]), if_pos (by simp [b6]), if_pos (by simp [b6]), if_pos (by simp [b6]; omega)]
      simp only [b2, List.append_assoc]
    · have hl : (l.length : Int) ≤ 1586 := h'.2.2.2.2.2 (by omega)
      rw [if_neg ht, if_neg ht, specPut16 (a := k) (by omega)]
      simp only [Option.bind_some]
      rw [if_pos (by simp [b6]), if_pos (by simp [b6]; omega)]
      simp only [b2, List.append_assoc, List.nil_append]
  · rw [decide_eq_false h, if_neg Bool.false_ne_true, if_neg h]
theorem implPut6 {m : Nat} (hm : 10 ≤ m) (a : Int) : impl_put.f m a 6 = some (b6 a) := put6 hm
theorem flat5 (A B C D E : List Int) : [A, B, C, D, E].flatten = A ++ (B ++ (C ++ (D ++ E))) := by simp
theorem flat2 (A B : List Int) : [A, B].flatten = A ++ B := by simp
theorem implEther_j {m : Nat} (hm : 40 ≤ m) (d s t k : Int) (l X : List Int) (hl : l.length ≤ 1048576) (hX : X.length ≤ 10) : impl_EtherBytes.j0 (m + 1) X d s t k l = some (b6 d ++ (b6 s ++ (X ++ (b2 k ++ l)))) := by
  have e6 : ∀ n, (b6 n).length = 6 := fun _ => rfl
  have e2 : ∀ n, (b2 n).length = 2 := fun _ => rfl
  have hc : [b6 d, b6 s, X, b2 k, l].flatten.length < 140737488355328 := by rw [flat5]; simp only [List.length_append, e6, e2]; omega
  simp only [impl_EtherBytes.j0]
  rw [implPut6 (by omega), Option.bind_some, implPut6 (by omega), Option.bind_some, implPut16 (by omega), Option.bind_some, concat (by simp) hc (by simp only [List.length_cons, List.length_nil]; omega), Option.bind_some, flat5]
theorem implEtherBytes {m : Nat} (hm : 50 ≤ m) (d s t k : Int) (l : List Int) (hl : l.length ≤ 1048576) : impl_EtherBytes.f m d s t k l = some (etherBytes d s t k l) := by
  obtain ⟨m, rfl⟩ : ∃ n, m = n + 1 := ⟨m - 1, by omega⟩
  have e2 : ∀ n, (b2 n).length = 2 := fun _ => rfl
  unfold impl_EtherBytes.f etherBytes
  rw [implEtherOk _ _ _ _ l hl, Option.bind_some]
  by_cases h : EtherOK d s t k l.length
  · rw [decide_eq_true h, if_pos rfl, if_pos h]
    by_cases ht : t ≥ 0
    · have hc : [b2 33024, b2 t].flatten.length < 140737488355328 := by rw [flat2]; simp only [List.length_append, e2]; omega
      rw [if_pos ht, if_pos ht, implPut16 (by omega), Option.bind_some, implPut16 (by omega), Option.bind_some, concat (by simp) hc (by simp only [List.length_cons, List.length_nil]; omega), Option.bind_some, flat2]
      exact implEther_j (by omega) _ _ _ _ _ _ hl (by simp only [List.length_append, e2]; omega)
    · rw [if_neg ht, if_neg ht]
      exact implEther_j (by omega) _ _ _ _ _ _ hl (by simp)
  · rw [decide_eq_false h, if_neg Bool.false_ne_true, if_neg h]
theorem etherBytes_len (d s t k : Int) (l : List Int) : (etherBytes d s t k l).length ≤ l.length + 18 := by
  unfold etherBytes
  split
  · split
    · simp [b6, b2]
    · simp [b6, b2]
  · simp

end ExactEtherBytes
open ExactEtherBytes

theorem FnExactEtherBytes : laws_FnExactEtherBytes.Pure := by
  intro a0 a1 a2 a3 l _ _ _ _ hl _
  refine ⟨l.length + 200, ?_⟩
  obtain ⟨r, hr, hc⟩ := szEther a0 a1 a2 a3 l hl
  unfold laws_FnExactEtherBytes.f
  rw [hr]
  simp only [Option.bind_some]
  by_cases h : r < 0
  · rw [if_pos h]
  · have hn := hc h
    rw [if_neg h]
    have hlen := etherBytes_len a0 a1 a2 a3 l
    have ht : ∀ j, 150 ≤ j → laws_toEther.f (l.length + j) a0 a1 a2 a3 l = some (a0, a1, a2, a3, l) := fun j hj => toEther a0 a1 a2 a3 l (by omega) (by omega)
    have hs : spec_EtherBytes.f (l.length + 200) a0 a1 a2 a3 l = some (etherBytes a0 a1 a2 a3 l) := specEtherBytes (by omega) _ _ _ _ _
    have hi : ∀ j, 150 ≤ j → impl_EtherBytes.f (l.length + j) a0 a1 a2 a3 l = some (etherBytes a0 a1 a2 a3 l) := fun j hj => implEtherBytes (by omega) _ _ _ _ _ (by omega)
    have he := eqEther a0 a1 a2 a3 l (by omega) (show l.length < l.length + 200 by omega)
    obtain ⟨z0, hm0, _, _⟩ := markByteS l (by omega) (m := 1) (by omega) (by omega) (k := l.length + 200) (by omega)
    generalize etherBytes a0 a1 a2 a3 l = b at hs hi hlen
    have hb : ∀ j, 150 ≤ j → laws_eqByteS.f (l.length + j) b b = some true := fun j hj => eqByteS (by omega) (by omega)
    obtain ⟨zs, hm, hzl, hz⟩ := markByteS b (by omega) (m := 1) (by omega) (by omega) (k := l.length + 199) (by omega)
    have hh : laws_heldByteS.f (l.length + 199) zs 1 = some (1 + (b.length : Int)) := by
      have := heldByteS hz (by omega) (by omega) (by omega) (k := l.length + 199) (by omega)
      rwa [hzl] at this
    have hp : ¬ ((1 : Int) + b.length < 0) := by omega
    have hq : ¬ ((1 : Int) + l.length < 0) := by omega
    simp only [ht 200 (by omega), hs, hi 200 (by omega), hb 200 (by omega), he, laws_markEther.f, hm0, if_neg hq, Option.bind_some, if_true, Bool.not_true, laws_FnExactEtherBytes.j0, Bool.false_eq_true, if_false,
      hm, hh, if_neg hp, ht 199 (by omega), hi 199 (by omega), hb 199 (by omega)]

end Go.Proofs.Ythkocmpilkoibaa.Pure
