/- The program's FourRead returns what the reference's returns, for all arguments. No condition. -/
import Derived.Test.YtdbiejkaplndgaaGFnExactFourReadx
import Derived.Test.YtdbiejkaplndgaaZBaseFnExactFourRead
namespace Go.Proofs.Ytdbiejkaplndgaa.Pure
open Go.RowKit Go.Proofs.Ytdbiejkaplndgaa.FFnExactFourRead Go.Proofs.YtdbiejkaplndgaaW.PrintWords Go.Proofs.YtdbiejkaplndgaaW.PrintLast Go.Proofs.YtdbiejkaplndgaaW.PrintMore Go.Proofs.Ytdbiejkaplndgaa.Base

set_option linter.unusedVariables false
set_option linter.unusedSimpArgs false
namespace ExactFourRead
theorem eqAddr (k a b c d : Int) : laws_eqAddr.f k a b c d k a b c d = some true := by
  unfold laws_eqAddr.f
  simp only [if_true]

theorem toByteS_l (xs : List Int) (hn : xs.length ≤ 140737488355328) (d : Nat) : ∀ (k : Nat) (ys : List Int) (i : Int), 0 ≤ i → i + d = xs.length → d < k → ys.length = xs.length → (∀ j : Nat, (j : Int) < i → ys[j]? = xs[j]?) → laws_toByteS.l0 k xs ys i = some xs := by
  induction d with
  | zero =>
    intro k ys i h0 hi hk hl hj
    obtain ⟨k, rfl⟩ := pos_k hk
    simp only [laws_toByteS.l0]
    rw [if_neg (by omega)]
    congr 1
    apply List.ext_getElem?
    intro j
    by_cases h : (j : Int) < i
    · exact hj j h
    · rw [List.getElem?_eq_none (by omega), List.getElem?_eq_none (by omega)]
  | succ d ih =>
    intro k ys i h0 hi hk hl hj
    obtain ⟨k, rfl⟩ := pos_k hk
    simp only [laws_toByteS.l0]
    rw [if_pos (by omega), if_pos (by omega), if_pos (by omega), w64 (by omega) (by omega)]
    refine ih k _ (i + 1) (by omega) (by omega) (by omega) (by rw [List.length_set]; omega) ?_
    intro j hj'
    by_cases h : (j : Int) = i
    · have e : i.toNat = j := by omega
      rw [e, List.getElem?_set_self (by omega), ← h, ← rd_get? (by omega) (by omega)]
      rfl
    · rw [List.getElem?_set_ne (by omega)]
      exact hj j (by omega)
theorem toByteS {xs : List Int} (hn : xs.length ≤ 140737488355328) {k : Nat} (hk : xs.length < k) : laws_toByteS.f k xs = some xs := by
  unfold laws_toByteS.f
  rw [if_pos (by omega), if_pos (by omega)]
  exact toByteS_l xs hn xs.length k _ 0 (by omega) (by omega) hk (by simp) (fun j hj => by omega)

theorem eqByteS_l (xs : List Int) (hn : xs.length ≤ 140737488355328) (d : Nat) : ∀ (k : Nat) (i : Int), 0 ≤ i → i + d = xs.length → d < k → laws_eqByteS.l0 k xs xs i = some true := by
  induction d with
  | zero =>
    intro k i h0 hi hk
    obtain ⟨k, rfl⟩ := pos_k hk
    simp only [laws_eqByteS.l0]
    rw [if_neg (by omega)]
  | succ d ih =>
    intro k i h0 hi hk
    obtain ⟨k, rfl⟩ := pos_k hk
    simp only [laws_eqByteS.l0]
    rw [if_pos (by omega), if_pos (by omega), if_pos (by omega), if_pos (by first | rfl | trivial), w64 (by omega) (by omega)]
    exact ih k (i + 1) (by omega) (by omega) (by omega)
theorem eqByteS {xs : List Int} (hn : xs.length ≤ 140737488355328) {k : Nat} (hk : xs.length < k) : laws_eqByteS.f k xs xs = some true := by
  unfold laws_eqByteS.f
  rw [if_pos rfl]
  exact eqByteS_l xs hn xs.length k 0 (by omega) (by omega) hk

theorem markByteS_l (d : Nat) : ∀ (k : Nat) (ys : List Int) (m i : Int), 0 ≤ i → i + d = ys.length → d < k → 0 ≤ m → ys.length ≤ 140737488355328 → m + d ≤ 281474976710656 →
    ∃ zs, laws_markByteS.l0 k ys m i = some (m + d, zs) ∧ zs.length = ys.length ∧ (∀ j : Nat, (j : Int) < i → zs[j]? = ys[j]?) ∧ (∀ j : Nat, i ≤ j → j < ys.length → zs[j]? = some ((m + (j - i)) % 256)) := by
  induction d with
  | zero =>
    intro k ys m i h0 hi hk hm hl hb
    obtain ⟨k, rfl⟩ := pos_k hk
    refine ⟨ys, ?_, rfl, fun _ _ => rfl, fun j h1 h2 => by omega⟩
    simp only [laws_markByteS.l0]
    rw [if_neg (by omega), show m + ((0 : Nat) : Int) = m by omega]
  | succ d ih =>
    intro k ys m i h0 hi hk hm hl hb
    obtain ⟨k, rfl⟩ := pos_k hk
    obtain ⟨zs, h1, h2, h3, h4⟩ := ih k (ys.set i.toNat (m % 256)) (m + 1) (i + 1) (by omega) (by rw [List.length_set]; omega) (by omega) (by omega) (by rw [List.length_set]; omega) (by omega)
    rw [List.length_set] at h2 h4
    refine ⟨zs, ?_, h2, ?_, ?_⟩
    · simp only [laws_markByteS.l0]
      rw [if_pos (by omega), if_pos (by omega), w64 (by omega) (by omega), w64 (by omega) (by omega), h1]
      congr 2
      omega
    · intro j hj
      rw [h3 j (by omega), List.getElem?_set_ne (by omega)]
    · intro j hj hj'
      by_cases h : (j : Int) = i
      · rw [h3 j (by omega), show i.toNat = j by omega, List.getElem?_set_self (by omega), h, show m + (i - i) = m by omega]
      · rw [h4 j (by omega) hj', show m + 1 + ((j : Int) - (i + 1)) = m + (j - i) by omega]
/-- What marking leaves reads as marked. -/
def Marked (zs : List Int) (m : Int) : Prop := ∀ j : Nat, j < zs.length → zs[j]? = some ((m + j) % 256)
theorem markByteS (ys : List Int) (hl : ys.length ≤ 140737488355328) {m : Int} (h0 : 0 ≤ m) (h1 : m ≤ 140737488355328) {k : Nat} (hk : ys.length < k) :
    ∃ zs, laws_markByteS.f k ys m = some (m + ys.length, zs) ∧ zs.length = ys.length ∧ Marked zs m := by
  obtain ⟨zs, h1, h2, h3, h4⟩ := markByteS_l ys.length k ys m 0 (by omega) (by omega) hk h0 hl (by omega)
  refine ⟨zs, h1, h2, fun j hj => ?_⟩
  rw [h4 j (by omega) (by omega), show m + ((j : Int) - 0) = m + j by omega]

theorem heldByteS_l (d : Nat) (zs : List Int) (m0 : Int) (hz : Marked zs m0) : ∀ (k : Nat) (m i : Int), 0 ≤ i → i + d = zs.length → d < k → 0 ≤ m → m = m0 + i → zs.length ≤ 140737488355328 → m + d ≤ 281474976710656 →
    laws_heldByteS.l0 k zs m i = some (m + d) := by
  induction d with
  | zero =>
    intro k m i h0 hi hk hm he hl hb
    obtain ⟨k, rfl⟩ := pos_k hk
    simp only [laws_heldByteS.l0]
    rw [if_neg (by omega), show m + ((0 : Nat) : Int) = m by omega]
  | succ d ih =>
    intro k m i h0 hi hk hm he hl hb
    obtain ⟨k, rfl⟩ := pos_k hk
    have hr : rd zs i = m % 256 := by
      have h1 := rd_get? h0 (show i < zs.length by omega)
      rw [hz i.toNat (by omega)] at h1
      rw [← Option.some.inj h1, he, show ((i.toNat : Nat) : Int) = i by omega]
    simp only [laws_heldByteS.l0]
    rw [if_pos (by omega), if_pos (by omega), if_pos hr, w64 (by omega) (by omega), w64 (by omega) (by omega), ih k (m + 1) (i + 1) (by omega) (by omega) (by omega) (by omega) (by omega) (by omega) (by omega)]
    congr 1
    omega
theorem heldByteS {zs : List Int} {m : Int} (hz : Marked zs m) (hl : zs.length ≤ 140737488355328) (h0 : 0 ≤ m) (h1 : m ≤ 140737488355328) {k : Nat} (hk : zs.length < k) : laws_heldByteS.f k zs m = some (m + zs.length) :=
  heldByteS_l zs.length zs m hz k m 0 (by omega) (by omega) hk h0 (by omega) hl (by omega)


theorem eqFourK (a0 a1 a2 a3 a4 a5 a6 a7 a8 a9 a10 a11 a12 a13 a14 a15 a16 : Int) (l m : List Int) (hl : l.length ≤ 140737488355328) (hm : m.length ≤ 140737488355328) {k : Nat} (hk : l.length < k ∧ m.length < k) : laws_eqFour.f k a0 a1 a2 a3 a4 a5 a6 a7 a8 a9 a10 a11 a12 a13 a14 a15 a16 l m a0 a1 a2 a3 a4 a5 a6 a7 a8 a9 a10 a11 a12 a13 a14 a15 a16 l m = some true := by
  unfold laws_eqFour.f
  simp only [if_true, eqAddr, eqByteS (xs := l) (by omega) (k := k) (by omega), eqByteS (xs := m) (by omega) (k := k) (by omega), Option.bind_some]

theorem specHalf (n : Int) : spec_l03Half.f n = some (decide (Half n)) := by
  unfold spec_l03Half.f Half
  by_cases h : n ≥ 0
  · rw [if_pos h]
    simp [h]
  · rw [if_neg h]
    simp [h]
theorem specAddrOk (k a b c d : Int) : spec_AddrOk.f k a b c d = some (decide (AddrOK k a b c d)) := by
  unfold spec_AddrOk.f
  simp only [specHalf, Option.bind_some]
  unfold AddrOK
  by_cases h4 : k = 4
  · subst h4
    by_cases ha : a = 0 <;> by_cases hb : b = 0 <;> by_cases hc : c = 0 <;> simp [ha, hb, hc]
  · by_cases h6 : k = 6
    · subst h6
      by_cases ha : Half a <;> by_cases hb : Half b <;> by_cases hc : Half c <;> simp [ha, hb, hc]
    · simp [h4, h6]

theorem isLong (n : Int) : impl_isLong.f n = some (decide (Half n)) := by
  unfold impl_isLong.f impl_within.f Half
  by_cases h : n ≥ 0
  · rw [if_pos h]
    simp [h]
  · rw [if_neg h]
    simp [h]
theorem implAddrOk (k a b c d : Int) : impl_AddrOk.f k a b c d = some (decide (AddrOK k a b c d)) := by
  unfold impl_AddrOk.f
  simp only [isLong, Option.bind_some]
  unfold AddrOK
  by_cases h4 : k = 4
  · subst h4
    by_cases ha : a = 0 <;> by_cases hb : b = 0 <;> by_cases hc : c = 0 <;> simp [ha, hb, hc]
  · by_cases h6 : k = 6
    · subst h6
      by_cases ha : Half a <;> by_cases hb : Half b <;> by_cases hc : Half c <;> simp [ha, hb, hc]
    · simp [h4, h6]

theorem isWord (n : Int) : impl_isWord.f n = some (decide (0 ≤ n ∧ n ≤ 65535)) := by
  unfold impl_isWord.f impl_within.f
  by_cases h : n ≥ 0
  · rw [if_pos h]
    simp [h]
  · rw [if_neg h]
    simp [h]

theorem isByte (n : Int) : impl_isByte.f n = some (decide (0 ≤ n ∧ n ≤ 255)) := by
  unfold impl_isByte.f impl_within.f
  by_cases h : n ≥ 0
  · rw [if_pos h]
    simp [h]
  · rw [if_neg h]
    simp [h]

theorem specIn (n m : Int) : spec_l05In.f n m = some (decide (0 ≤ n ∧ n ≤ m)) := by
  unfold spec_l05In.f
  by_cases h : n ≥ 0
  · rw [if_pos h]
    simp [h]
  · rw [if_neg h]
    simp [h]

theorem within (n lo hi : Int) : impl_within.f n lo hi = some (decide (lo ≤ n ∧ n ≤ hi)) := by
  unfold impl_within.f
  by_cases h : n ≥ lo
  · rw [if_pos h]
    simp [h]
  · rw [if_neg h]
    simp [h]

theorem isAddrOf (k a b c d n : Int) : impl_isAddrOf.f k a b c d n = some (decide (AddrOK k a b c d ∧ k = n)) := by
  unfold impl_isAddrOf.f
  rw [implAddrOk]
  simp only [Option.bind_some]
  by_cases h : AddrOK k a b c d
  · rw [decide_eq_true h, if_pos rfl]
    refine some_decide ?_
    simp [h]
  · rw [decide_eq_false h, if_neg Bool.false_ne_true]
    refine some_decide ?_
    simp [h]

def FourOK (a0 a1 a2 a3 a4 a5 a6 a7 a8 a9 a10 a11 a12 a13 a14 a15 a16 ol bl : Int) : Prop :=
  (0 ≤ a0 ∧ a0 ≤ 63) ∧ (0 ≤ a1 ∧ a1 ≤ 3) ∧ (0 ≤ a2 ∧ a2 ≤ 65535) ∧ (0 ≤ a3 ∧ a3 ≤ 7) ∧ (0 ≤ a4 ∧ a4 ≤ 8191) ∧ (0 ≤ a5 ∧ a5 ≤ 255) ∧ (0 ≤ a6 ∧ a6 ≤ 255) ∧
  (AddrOK a7 a8 a9 a10 a11 ∧ a7 = 4) ∧ (AddrOK a12 a13 a14 a15 a16 ∧ a12 = 4) ∧ ol ≤ 40 ∧ ol % 4 = 0 ∧ 20 + ol + bl ≤ 1500
instance (a0 a1 a2 a3 a4 a5 a6 a7 a8 a9 a10 a11 a12 a13 a14 a15 a16 ol bl : Int) : Decidable (FourOK a0 a1 a2 a3 a4 a5 a6 a7 a8 a9 a10 a11 a12 a13 a14 a15 a16 ol bl) := by unfold FourOK; infer_instance
theorem specFourOk (a0 a1 a2 a3 a4 a5 a6 a7 a8 a9 a10 a11 a12 a13 a14 a15 a16 : Int) (l m : List Int) (hl : l.length + m.length ≤ 1048576) : spec_FourOk.f a0 a1 a2 a3 a4 a5 a6 a7 a8 a9 a10 a11 a12 a13 a14 a15 a16 l m = some (decide (FourOK a0 a1 a2 a3 a4 a5 a6 a7 a8 a9 a10 a11 a12 a13 a14 a15 a16 l.length m.length)) := by
  have hw : wrap64 (1480 - (l.length : Int)) = 1480 - l.length := w64 (by omega) (by omega)
  unfold spec_FourOk.f
  simp only [specIn, Option.bind_some, specAddrOk, hw, decide_eq_true_eq, if_true, Bool.not_eq_true', decide_eq_false_iff_not]
  repeat' (with_reducible refine ite_goal (fun c_ => ?_) (fun c_ => ?_))
  all_goals refine some_decide ?_
  all_goals unfold FourOK
  all_goals (simp only [Bool.false_eq_true, false_iff, decide_eq_true_eq]; grind)
theorem implFourOk (a0 a1 a2 a3 a4 a5 a6 a7 a8 a9 a10 a11 a12 a13 a14 a15 a16 : Int) (l m : List Int) (hl : l.length + m.length ≤ 1048576) : impl_FourOk.f a0 a1 a2 a3 a4 a5 a6 a7 a8 a9 a10 a11 a12 a13 a14 a15 a16 l m = some (decide (FourOK a0 a1 a2 a3 a4 a5 a6 a7 a8 a9 a10 a11 a12 a13 a14 a15 a16 l.length m.length)) := by
  have hw : wrap64 (20 + (l.length : Int)) = 20 + l.length := w64 (by omega) (by omega)
  have hw2 : wrap64 (20 + (l.length : Int) + m.length) = 20 + l.length + m.length := w64 (by omega) (by omega)
  unfold impl_FourOk.f
  simp only [within, isWord, isByte, Option.bind_some, isAddrOf, impl_fourSize.f, impl_fourHead.f, hw, hw2, decide_eq_true_eq, if_true, Bool.not_eq_true', decide_eq_false_iff_not]
  repeat' (with_reducible refine ite_goal (fun c_ => ?_) (fun c_ => ?_))
  all_goals refine some_decide ?_
  all_goals unfold FourOK
  all_goals (simp only [Bool.false_eq_true, false_iff, decide_eq_true_eq]; grind)

theorem shr_nat (x : Int) (n : Nat) (h : n ≤ 64) (y : Int) (hy : y = n) : shr .i64 x y = x / 2 ^ n := by
  subst hy
  unfold shr
  rw [Int.toNat_natCast, Nat.min_eq_left (by exact h)]
theorem put_step (k : Nat) (a n : Int) (ys : List Int) (L i : Int) (m : Nat) (hL : L = ys.length) (h0 : 0 ≤ i) (h : i < L) (hn : n = L) (hn1 : n ≤ 8) (hm : (m : Int) = 8 * (n - 1 - i)) :
    impl_put.l0 (k + 1) a n ys L i = impl_put.l0 k a n (ys.set i.toNat (a / 2 ^ m % 256)) L (i + 1) := by
  simp only [impl_put.l0]
  rw [if_pos h, w64 (n := n - 1) (by omega) (by omega), w64 (n := n - 1 - i) (by omega) (by omega), w64 (n := 8 * (n - 1 - i)) (by omega) (by omega), if_pos (by omega), if_pos h0, if_pos (by omega),
    shr_nat a m (by omega) _ hm.symm, w64 (by omega) (by omega)]
theorem put_end (k : Nat) (a n : Int) (ys : List Int) (L i : Int) (h : ¬ i < L) : impl_put.l0 (k + 1) a n ys L i = some ys := by
  simp only [impl_put.l0]
  rw [if_neg h]
theorem put2 {k : Nat} (hk : 10 ≤ k) {a : Int} : impl_put.f k a 2 = some [a / 256 % 256, a % 256] := by
  obtain ⟨k, rfl⟩ : ∃ m, k = m + 3 := ⟨k - 3, by omega⟩
  unfold impl_put.f
  rw [if_pos (by decide), if_pos (by decide)]
  simp only [Option.bind_some]
  rw [put_step _ _ _ _ _ _ 8 (by simp) (by decide) (by decide) (by decide) (by decide) (by decide)]
  rw [put_step _ _ _ _ _ _ 0 (by simp) (by decide) (by decide) (by decide) (by decide) (by decide)]
  rw [put_end _ _ _ _ _ _ (by decide)]
  congr 1
  simp [List.replicate, List.set]
theorem put4 {k : Nat} (hk : 10 ≤ k) {a : Int} : impl_put.f k a 4 = some [a / 16777216 % 256, a / 65536 % 256, a / 256 % 256, a % 256] := by
  obtain ⟨k, rfl⟩ : ∃ m, k = m + 5 := ⟨k - 5, by omega⟩
  unfold impl_put.f
  rw [if_pos (by decide), if_pos (by decide)]
  simp only [Option.bind_some]
  rw [put_step _ _ _ _ _ _ 24 (by simp) (by decide) (by decide) (by decide) (by decide) (by decide)]
  rw [put_step _ _ _ _ _ _ 16 (by simp) (by decide) (by decide) (by decide) (by decide) (by decide)]
  rw [put_step _ _ _ _ _ _ 8 (by simp) (by decide) (by decide) (by decide) (by decide) (by decide)]
  rw [put_step _ _ _ _ _ _ 0 (by simp) (by decide) (by decide) (by decide) (by decide) (by decide)]
  rw [put_end _ _ _ _ _ _ (by decide)]
  congr 1
  simp [List.replicate, List.set]
theorem put6 {k : Nat} (hk : 10 ≤ k) {a : Int} : impl_put.f k a 6 = some [a / 1099511627776 % 256, a / 4294967296 % 256, a / 16777216 % 256, a / 65536 % 256, a / 256 % 256, a % 256] := by
  obtain ⟨k, rfl⟩ : ∃ m, k = m + 7 := ⟨k - 7, by omega⟩
  unfold impl_put.f
  rw [if_pos (by decide), if_pos (by decide)]
  simp only [Option.bind_some]
  rw [put_step _ _ _ _ _ _ 40 (by simp) (by decide) (by decide) (by decide) (by decide) (by decide)]
  rw [put_step _ _ _ _ _ _ 32 (by simp) (by decide) (by decide) (by decide) (by decide) (by decide)]
  rw [put_step _ _ _ _ _ _ 24 (by simp) (by decide) (by decide) (by decide) (by decide) (by decide)]
  rw [put_step _ _ _ _ _ _ 16 (by simp) (by decide) (by decide) (by decide) (by decide) (by decide)]
  rw [put_step _ _ _ _ _ _ 8 (by simp) (by decide) (by decide) (by decide) (by decide) (by decide)]
  rw [put_step _ _ _ _ _ _ 0 (by simp) (by decide) (by decide) (by decide) (by decide) (by decide)]
  rw [put_end _ _ _ _ _ _ (by decide)]
  congr 1
  simp [List.replicate, List.set]

theorem implPut16 {k : Nat} (hk : 10 ≤ k) (a : Int) : impl_Put16.f k a = some (b2 a) := by
  unfold impl_Put16.f
  rw [put2 hk]
  rfl

theorem specLow {a m : Int} (_ha : -9223372036854775808 ≤ a ∧ a ≤ 9223372036854775807) (hm0 : 0 < m) (hm1 : m ≤ 4294967296) : spec_l01Low.f a m = some (a % m) := by
  unfold spec_l01Low.f
  have h1 := Int.emod_nonneg a (show m ≠ 0 by omega)
  have h2 := Int.emod_lt_of_pos a hm0
  have h3 := Int.tmod_eq_emod (a := a) (b := m)
  rw [if_neg (by omega)]
  by_cases h : 0 ≤ a
  · rw [tmod_pos h, if_neg (by omega)]
  · have e := Int.emod_def a m
    by_cases hz : m ∣ a
    · have h4 : Int.tmod a m = 0 := Int.tmod_eq_zero_of_dvd hz
      have h5 : a % m = 0 := Int.emod_eq_zero_of_dvd hz
      rw [h4, h5, if_neg (by omega)]
    · have h4 : Int.tmod a m = a % m - m := by
        rw [h3, if_neg (by intro hh; rcases hh with hh | hh; exact h hh; exact hz hh)]
        omega
      rw [h4, if_pos (by omega), w64 (by omega) (by omega)]
      congr 1
      omega

theorem specPut16 {a : Int} (hb : -9223372036854775808 ≤ a ∧ a ≤ 9223372036854775807) : spec_Put16.f a = some [a / 256 % 256, a % 256] := by
  unfold spec_Put16.f
  rw [specLow hb (by omega) (by omega)]
  simp only [Option.bind_some]
  rw [tdiv_pos (by omega), tmod_pos (by omega), w64 (by omega) (by omega), show a % 65536 / 256 % 256 = a / 256 % 256 by omega, show a % 65536 % 256 % 256 = a % 256 by omega]

theorem specPut32 {a : Int} (hb : -9223372036854775808 ≤ a ∧ a ≤ 9223372036854775807) : spec_Put32.f a = some [a / 16777216 % 256, a / 65536 % 256, a / 256 % 256, a % 256] := by
  unfold spec_Put32.f
  rw [specLow hb (by omega) (by omega)]
  simp only [Option.bind_some]
  rw [tdiv_pos (by omega), tmod_pos (by omega), w64 (by omega) (by omega), specPut16 (by omega), specPut16 (by omega)]
  simp only [Option.bind_some]
  rw [if_pos (by simp), show a % 4294967296 / 65536 / 256 % 256 = a / 16777216 % 256 by omega, show a % 4294967296 / 65536 % 256 = a / 65536 % 256 by omega, show a % 4294967296 % 65536 / 256 % 256 = a / 256 % 256 by omega, show a % 4294967296 % 65536 % 256 = a % 256 by omega]
  rfl

theorem grow {n : Int} (h0 : 0 ≤ n) (h1 : n ≤ 140737488355328) (l : List Int) : slices_Grow_byte_byte.f l n = some [] := by
  unfold slices_Grow_byte_byte.f
  rw [if_pos h0, if_pos h1]
theorem concat_l1 (ls : List (List Int)) (hn : ls.length ≤ 1000) (d : Nat) : ∀ (k : Nat) (acc : List Int) (i : Int), 0 ≤ i → i + d = ls.length → d < k → acc.length + ((ls.drop i.toNat).flatten).length < 140737488355328 → slices_Concat_byte_byte.l1 k acc ls ls.length i = some (acc ++ (ls.drop i.toNat).flatten) := by
  induction d with
  | zero =>
    intro k acc i h0 hi hk hl
    obtain ⟨k, rfl⟩ := pos_k hk
    simp only [slices_Concat_byte_byte.l1]
    rw [if_neg (by omega), List.drop_eq_nil_of_le (by omega)]
    simp
  | succ d ih =>
    intro k acc i h0 hi hk hl
    obtain ⟨k, rfl⟩ := pos_k hk
    have e : ls.drop i.toNat = rd_L1 ls i :: ls.drop (i + 1).toNat := dropG ([] : List Int) h0 (show i < ls.length by omega)
    rw [e, List.flatten_cons, List.length_append] at hl
    simp only [slices_Concat_byte_byte.l1]
    rw [if_pos (by omega), if_pos h0, if_pos (by omega), if_pos (by omega), w64 (by omega) (by omega), ih k _ (i + 1) (by omega) (by omega) (by omega) (by rw [List.length_append]; omega), e, List.flatten_cons, List.append_assoc]
theorem concat_l0 (ls : List (List Int)) (hn : ls.length ≤ 1000) (hb : ls.flatten.length < 140737488355328) (d : Nat) : ∀ (k : Nat) (s i : Int), 0 ≤ i → i + d = ls.length → d + ls.length + 10 < k → 0 ≤ s → s + ((ls.drop i.toNat).flatten).length < 140737488355328 → slices_Concat_byte_byte.l0 k ls s ls ls.length i = some ls.flatten := by
  induction d with
  | zero =>
    intro k s i h0 hi hk hs hl
    obtain ⟨k, rfl⟩ := pos_k hk
    simp only [slices_Concat_byte_byte.l0]
    rw [if_neg (by omega), grow hs (by omega)]
    simp only [Option.bind_some]
    rw [concat_l1 ls hn ls.length k [] 0 (by omega) (by omega) (by omega) (by simpa using hb)]
    simp
  | succ d ih =>
    intro k s i h0 hi hk hs hl
    obtain ⟨k, rfl⟩ := pos_k hk
    have e : ls.drop i.toNat = rd_L1 ls i :: ls.drop (i + 1).toNat := dropG ([] : List Int) h0 (show i < ls.length by omega)
    rw [e, List.flatten_cons, List.length_append] at hl
    simp only [slices_Concat_byte_byte.l0]
    rw [if_pos (by omega), if_pos h0, if_pos (by omega), w64 (n := s + ((rd_L1 ls i).length : Int)) (by omega) (by omega), if_neg (by omega), w64 (by omega) (by omega), ih k _ (i + 1) (by omega) (by omega) (by omega) (by omega) (by omega)]
theorem concat {ls : List (List Int)} (hn : ls.length ≤ 1000) (hb : ls.flatten.length < 140737488355328) {k : Nat} (hk : 2 * ls.length + 10 < k) : slices_Concat_byte_byte.f k ls = some ls.flatten := by
  unfold slices_Concat_byte_byte.f
  rw [concat_l0 ls hn hb ls.length k 0 0 (by omega) (by omega) (by omega) (by omega) (by show (0 : Int) + (ls.flatten.length : Int) < _; omega)]

theorem specAddrBytes (k a b c d : Int) : spec_AddrBytes.f k a b c d = some (addrBytes k a b c d) := by
  unfold spec_AddrBytes.f addrBytes
  rw [specAddrOk]
  simp only [Option.bind_some]
  by_cases h : AddrOK k a b c d
  · rw [decide_eq_true h, if_pos rfl, if_pos h]
    have h' := h
    unfold AddrOK Half at h'
    by_cases h4 : k = 4
    · rw [if_pos h4, if_pos h4, specPut32 (by omega)]
      rfl
    · rw [if_neg h4, if_neg h4, specPut32 (a := a) (by omega), specPut32 (a := b) (by omega), specPut32 (a := c) (by omega), specPut32 (a := d) (by omega)]
      simp only [Option.bind_some]
      rw [if_pos (by simp), if_pos (by simp), if_pos (by simp)]
      rfl
  · rw [decide_eq_false h, if_neg Bool.false_ne_true, if_neg h]
theorem implPut32 {k : Nat} (hk : 10 ≤ k) (a : Int) : impl_Put32.f k a = some (b4 a) := by
  unfold impl_Put32.f
  rw [put4 hk]
  rfl
theorem implAddrBytes {n : Nat} (hn : 30 ≤ n) (k a b c d : Int) : impl_AddrBytes.f n k a b c d = some (addrBytes k a b c d) := by
  unfold impl_AddrBytes.f addrBytes
  rw [implAddrOk]
  simp only [Option.bind_some]
  by_cases h : AddrOK k a b c d
  · rw [decide_eq_true h, if_pos rfl, if_pos h]
    by_cases h4 : k = 4
    · rw [if_pos h4, if_pos h4, implPut32 (by omega)]
      rfl
    · rw [if_neg h4, if_neg h4, implPut32 (by omega), implPut32 (by omega), implPut32 (by omega), implPut32 (by omega)]
      simp only [Option.bind_some]
      rw [concat (by simp) (by simp [b4]) (by simp; omega)]
      simp
  · rw [decide_eq_false h, if_neg Bool.false_ne_true, if_neg h]
theorem addrBytes_len (k a b c d : Int) : (addrBytes k a b c d).length ≤ 16 := by
  unfold addrBytes
  split
  · split <;> simp [b4]
  · simp
theorem addrBytes_u8 (k a b c d : Int) : U8 (addrBytes k a b c d) := by
  unfold addrBytes
  split
  · split
    · exact U8.b4 _
    · exact (U8.b4 _).append ((U8.b4 _).append ((U8.b4 _).append (U8.b4 _)))
  · exact U8.nil

theorem implSum {a b : Int} (h0 : 0 ≤ a) (h1 : a ≤ 65535) (h2 : 0 ≤ b) (h3 : b ≤ 65535) : impl_sum.f a b = some (osum a b) := by
  unfold impl_sum.f osum
  rw [w64 (n := a + b) (by omega) (by omega), w64 (by omega) (by omega)]
  split <;> rfl

theorem specWord (n : Int) : spec_l02Word.f n = some (decide (0 ≤ n ∧ n ≤ 65535)) := by
  unfold spec_l02Word.f
  by_cases h : n ≥ 0
  · rw [if_pos h]
    simp [h]
  · rw [if_neg h]
    simp [h]
theorem specSumAdd {a b : Int} (_h : 0 < 1) : spec_SumAdd.f a b = some (if (0 ≤ a ∧ a ≤ 65535) ∧ (0 ≤ b ∧ b ≤ 65535) then osum a b else -1) := by
  unfold spec_SumAdd.f
  rw [specWord, specWord]
  simp only [Option.bind_some]
  by_cases h : 0 ≤ a ∧ a ≤ 65535
  · by_cases h' : 0 ≤ b ∧ b ≤ 65535
    · rw [decide_eq_true h, decide_eq_true h']
      simp only [if_true]
      rw [if_pos (show (0 ≤ a ∧ a ≤ 65535) ∧ (0 ≤ b ∧ b ≤ 65535) from ⟨h, h'⟩)]
      unfold osum
      rw [w64 (n := a + b) (by omega) (by omega), w64 (by omega) (by omega)]
      split <;> rfl
    · rw [decide_eq_true h, decide_eq_false h', if_pos (by first | rfl | trivial), if_neg Bool.false_ne_true, if_neg (fun hh => h' hh.2)]
  · rw [decide_eq_false h, if_neg Bool.false_ne_true, if_neg (fun hh => h hh.1)]

theorem specOnes_l (xs : List Int) (hx : U8 xs) (hn : xs.length ≤ 140737488355328) (d : Nat) : ∀ (k : Nat) (s i : Int), 0 ≤ i → (xs.length : Int) - i ≤ d → i ≤ xs.length + 1 → d + 1 < k → 0 ≤ s → s ≤ 65535 → spec_OnesSum.l0 k xs s i = some (ones (xs.drop i.toNat) s) := by
  induction d with
  | zero =>
    intro k s i h0 hi _ hk _ _
    obtain ⟨k, rfl⟩ := pos_k hk
    simp only [spec_OnesSum.l0]
    rw [if_neg (by omega), List.drop_eq_nil_of_le (by omega)]
    rfl
  | succ d ih =>
    intro k s i h0 hi hi2 hk hs0 hs1
    obtain ⟨k, rfl⟩ := pos_k hk
    by_cases hlt : i < xs.length
    · have hb := hx.byte i
      simp only [spec_OnesSum.l0]
      rw [if_pos hlt, if_pos h0, w64 (n := i + 1) (by omega) (by omega), w64 (n := rd xs i) (by omega) (by omega), w64 (n := 256 * rd xs i) (by omega) (by omega), w64 (n := i + 2) (by omega) (by omega), drop_rd h0 hlt]
      by_cases h2 : i + 1 < xs.length
      · have hc := hx.byte (i + 1)
        have ho := osum_word hs0 hs1 (show 0 ≤ rd xs i * 256 + rd xs (i + 1) by omega) (by omega)
        rw [if_pos h2, if_pos (by omega), w64 (n := rd xs (i + 1)) (by omega) (by omega), w64 (n := 256 * rd xs i + rd xs (i + 1)) (by omega) (by omega), specSumAdd (by omega), if_pos ⟨⟨by omega, by omega⟩, by omega, by omega⟩]
        simp only [Option.bind_some]
        rw [Int.mul_comm 256, ih k _ (i + 2) (by omega) (by omega) (by omega) (by omega) ho.1 ho.2, drop_rd (i := i + 1) (by omega) h2, show i + 1 + 1 = i + 2 by omega]
        rfl
      · have ho := osum_word hs0 hs1 (show 0 ≤ rd xs i * 256 by omega) (by omega)
        rw [if_neg h2, specSumAdd (by omega), if_pos ⟨⟨by omega, by omega⟩, by omega, by omega⟩]
        simp only [Option.bind_some]
        rw [Int.mul_comm 256, ih k _ (i + 2) (by omega) (by omega) (by omega) (by omega) ho.1 ho.2, List.drop_eq_nil_of_le (i := (i + 1).toNat) (by omega), List.drop_eq_nil_of_le (i := (i + 2).toNat) (by omega)]
        rfl
    · simp only [spec_OnesSum.l0]
      rw [if_neg hlt, List.drop_eq_nil_of_le (by omega)]
      rfl
theorem specOnesSum {xs : List Int} (hx : U8 xs) {k : Nat} (hk : xs.length + 10 < k) : spec_OnesSum.f k xs = some (if (xs.length : Int) > 2000 then -1 else ones xs 0) := by
  unfold spec_OnesSum.f
  by_cases h : (xs.length : Int) > 2000
  · rw [if_pos h, if_pos h]
  · rw [if_neg h, if_neg h, specOnes_l xs hx (by omega) xs.length k 0 0 (by omega) (by omega) (by omega) (by omega) (by omega) (by omega)]
    rfl

theorem implOnes_l (xs : List Int) (hx : U8 xs) (hn : xs.length ≤ 140737488355328) (d : Nat) : ∀ (k : Nat) (s i : Int), 0 ≤ i → (xs.length : Int) - i ≤ d → i ≤ xs.length + 1 → d + 1 < k → 0 ≤ s → s ≤ 65535 → impl_onesSum.l0 k xs s i = some (ones (xs.drop i.toNat) s) := by
  induction d with
  | zero =>
    intro k s i h0 hi _ hk _ _
    obtain ⟨k, rfl⟩ := pos_k hk
    simp only [impl_onesSum.l0]
    rw [if_neg (by omega), List.drop_eq_nil_of_le (by omega)]
    rfl
  | succ d ih =>
    intro k s i h0 hi hi2 hk hs0 hs1
    obtain ⟨k, rfl⟩ := pos_k hk
    by_cases hlt : i < xs.length
    · have hb := hx.byte i
      simp only [impl_onesSum.l0]
      rw [if_pos hlt, if_pos h0, w64 (n := i + 1) (by omega) (by omega), w64 (n := rd xs i) (by omega) (by omega), w64 (n := i + 2) (by omega) (by omega), drop_rd h0 hlt]
      by_cases h2 : i + 1 < xs.length
      · have hc := hx.byte (i + 1)
        have ho := osum_word hs0 hs1 (show 0 ≤ rd xs i * 256 + rd xs (i + 1) by omega) (by omega)
        rw [if_pos h2, if_pos (by omega), or_be (by omega) (by omega) hc.1 hc.2, implSum (by omega) (by omega) (by omega) (by omega)]
        simp only [Option.bind_some]
        rw [ih k _ (i + 2) (by omega) (by omega) (by omega) (by omega) ho.1 ho.2, drop_rd (i := i + 1) (by omega) h2, show i + 1 + 1 = i + 2 by omega]
        rfl
      · have ho := osum_word hs0 hs1 (show 0 ≤ rd xs i * 256 by omega) (by omega)
        rw [if_neg h2, w64 (n := rd xs i * 256) (by omega) (by omega), implSum (by omega) (by omega) (by omega) (by omega)]
        simp only [Option.bind_some]
        rw [ih k _ (i + 2) (by omega) (by omega) (by omega) (by omega) ho.1 ho.2, List.drop_eq_nil_of_le (i := (i + 1).toNat) (by omega), List.drop_eq_nil_of_le (i := (i + 2).toNat) (by omega)]
        rfl
    · simp only [impl_onesSum.l0]
      rw [if_neg hlt, List.drop_eq_nil_of_le (by omega)]
      rfl
theorem implOnes {xs : List Int} (hx : U8 xs) (hn : xs.length ≤ 140737488355328) {k : Nat} (hk : xs.length + 10 < k) : impl_onesSum.f k xs = some (ones xs 0) := by
  unfold impl_onesSum.f
  rw [implOnes_l xs hx hn xs.length k 0 0 (by omega) (by omega) (by omega) (by omega) (by omega) (by omega)]
  rfl

theorem specChecksum {xs : List Int} (hx : U8 xs) {k : Nat} (hk : xs.length + 10 < k) : spec_Checksum.f k xs = some (if (xs.length : Int) > 2000 then -1 else 65535 - ones xs 0) := by
  have ho := ones_word xs.length xs 0 (Nat.le_refl _) hx (by omega) (by omega)
  unfold spec_Checksum.f
  rw [specOnesSum hx hk]
  simp only [Option.bind_some]
  by_cases h : (xs.length : Int) > 2000
  · rw [if_pos h, if_pos h, if_pos (by decide)]
  · rw [if_neg h, if_neg h, if_neg (by omega), w64 (by omega) (by omega)]

theorem implChecksum {xs : List Int} (hx : U8 xs) {k : Nat} (hk : xs.length + 10 < k) : impl_Checksum.f k xs = some (if (xs.length : Int) > 2000 then -1 else 65535 - ones xs 0) := by
  have ho := ones_word xs.length xs 0 (Nat.le_refl _) hx (by omega) (by omega)
  unfold impl_Checksum.f
  by_cases h : (xs.length : Int) > 2000
  · rw [if_pos h, if_pos h]
  · rw [if_neg h, if_neg h, implOnes hx (by omega) hk]
    simp only [Option.bind_some]
    rw [w64 (by omega) (by omega)]

/- fourBytes: the header's bytes with a checksum s -/
def headL (a0 a1 a2 a3 a4 a5 a6 a7 a8 a9 a10 a11 a12 a13 a14 a15 a16 ol bl s : Int) (l : List Int) : List Int :=
  [(69 + ol / 4) % 256, (4 * a0 + a1) % 256] ++ (b2 (20 + ol + bl) ++ (b2 a2 ++ (b2 (8192 * a3 + a4) ++ ([a5 % 256, a6 % 256] ++ (b2 s ++ (addrBytes a7 a8 a9 a10 a11 ++ (addrBytes a12 a13 a14 a15 a16 ++ l)))))))
theorem headL_len (a0 a1 a2 a3 a4 a5 a6 a7 a8 a9 a10 a11 a12 a13 a14 a15 a16 ol bl s : Int) (l : List Int) : (headL a0 a1 a2 a3 a4 a5 a6 a7 a8 a9 a10 a11 a12 a13 a14 a15 a16 ol bl s l).length ≤ 44 + l.length := by
  have h1 := addrBytes_len a7 a8 a9 a10 a11
  have h2 := addrBytes_len a12 a13 a14 a15 a16
  unfold headL
  simp [b2]
  omega
theorem headL_u8 (a0 a1 a2 a3 a4 a5 a6 a7 a8 a9 a10 a11 a12 a13 a14 a15 a16 ol bl s : Int) {l : List Int} (hl : U8 l) : U8 (headL a0 a1 a2 a3 a4 a5 a6 a7 a8 a9 a10 a11 a12 a13 a14 a15 a16 ol bl s l) := by
  unfold headL
  exact (U8.cons (by omega) (by omega) (U8.cons (by omega) (by omega) U8.nil)).append ((U8.b2 _).append ((U8.b2 _).append ((U8.b2 _).append ((U8.cons (by omega) (by omega) (U8.cons (by omega) (by omega) U8.nil)).append ((U8.b2 _).append ((addrBytes_u8 _ _ _ _ _).append ((addrBytes_u8 _ _ _ _ _).append hl)))))))
theorem chain8 (y0 t1 t2 t3 t4 t5 t6 t7 t8 : List Int) (h : y0.length + t1.length + t2.length + t3.length + t4.length + t5.length + t6.length + t7.length + t8.length < 140737488355328) :
    ((some y0 : Option (List Int)).bind fun y168 => ((some t1 : Option (List Int)).bind fun t171 => (if y168.length + t171.length < 140737488355328 then ((some (y168 ++ t171 : List Int)).bind fun y174 => ((some t2 : Option (List Int)).bind fun t177 => (if y174.length + t177.length < 140737488355328 then ((some (y174 ++ t177 : List Int)).bind fun y180 => ((some t3 : Option (List Int)).bind fun t183 => (if y180.length + t183.length < 140737488355328 then ((some (y180 ++ t183 : List Int)).bind fun y186 => ((some t4 : Option (List Int)).bind fun y189 => (if y186.length + y189.length < 140737488355328 then ((some (y186 ++ y189 : List Int)).bind fun y192 => ((some t5 : Option (List Int)).bind fun t195 => (if y192.length + t195.length < 140737488355328 then ((some (y192 ++ t195 : List Int)).bind fun y198 => ((some t6 : Option (List Int)).bind fun t201 => (if y198.length + t201.length < 140737488355328 then ((some (y198 ++ t201 : List Int)).bind fun y204 => ((some t7 : Option (List Int)).bind fun t207 => (if y204.length + t207.length < 140737488355328 then ((some (y204 ++ t207 : List Int)).bind fun y210 => (if y210.length + t8.length < 140737488355328 then (some (y210 ++ t8)) else (none))) else (none)))) else (none)))) else (none)))) else (none)))) else (none)))) else (none)))) else (none)))) = some (y0 ++ t1 ++ t2 ++ t3 ++ t4 ++ t5 ++ t6 ++ t7 ++ t8) := by
  simp only [Option.bind_some]
  rw [if_pos (by omega), if_pos (by simp only [List.length_append]; omega), if_pos (by simp only [List.length_append]; omega), if_pos (by simp only [List.length_append]; omega), if_pos (by simp only [List.length_append]; omega), if_pos (by simp only [List.length_append]; omega), if_pos (by simp only [List.length_append]; omega), if_pos (by simp only [List.length_append]; omega)]
theorem specHead (a0 a1 a2 a3 a4 a5 a6 a7 a8 a9 a10 a11 a12 a13 a14 a15 a16 s : Int) (l m : List Int) (hl : l.length ≤ 100) (hm : m.length ≤ 1048576) (h0 : 0 ≤ a0 ∧ a0 ≤ 63) (h1 : 0 ≤ a1 ∧ a1 ≤ 3) (h2 : 0 ≤ a2 ∧ a2 ≤ 65535) (h3 : 0 ≤ a3 ∧ a3 ≤ 7) (h4 : 0 ≤ a4 ∧ a4 ≤ 8191) (hs : 0 ≤ s ∧ s ≤ 65535) :
    spec_l05Head.f a0 a1 a2 a3 a4 a5 a6 a7 a8 a9 a10 a11 a12 a13 a14 a15 a16 l m s = some (headL a0 a1 a2 a3 a4 a5 a6 a7 a8 a9 a10 a11 a12 a13 a14 a15 a16 l.length m.length s l) := by
  have q1 := addrBytes_len a7 a8 a9 a10 a11
  have q2 := addrBytes_len a12 a13 a14 a15 a16
  unfold spec_l05Head.f
  rw [w64 (n := (l.length : Int) / 4) (by omega) (by omega), w64 (n := 69 + (l.length : Int) / 4) (by omega) (by omega), w64 (n := 4 * a0) (by omega) (by omega), w64 (n := 4 * a0 + a1) (by omega) (by omega), w64 (n := 20 + (l.length : Int)) (by omega) (by omega), w64 (n := 20 + (l.length : Int) + m.length) (by omega) (by omega), w64 (n := 8192 * a3) (by omega) (by omega), w64 (n := 8192 * a3 + a4) (by omega) (by omega), specPut16 (by omega), specPut16 (by omega), specPut16 (by omega), specPut16 (by omega), specAddrBytes, specAddrBytes]
  refine (chain8 _ _ _ _ _ _ _ _ _ (by simp only [List.length_cons, List.length_nil, b2]; omega)).trans ?_
  unfold headL b2
  simp only [List.append_assoc]
theorem head_w9 (n : Nat) (hn : n ≤ 100) (h4 : (n : Int) % 4 = 0) : wrap64 (64 + wrap64 (Int.tdiv (20 + (n : Int)) 4)) = 69 + (n : Int) / 4 := by
  rw [tdiv_pos (by omega), w64 (n := (20 + (n : Int)) / 4) (by omega) (by omega), w64 (by omega) (by omega)]
  omega
theorem implHead {k : Nat} (hk : 200 ≤ k) (a0 a1 a2 a3 a4 a5 a6 a7 a8 a9 a10 a11 a12 a13 a14 a15 a16 s : Int) (l m : List Int) (hl : l.length ≤ 100) (hm : m.length ≤ 1048576) (h0 : 0 ≤ a0 ∧ a0 ≤ 63) (h1 : 0 ≤ a1 ∧ a1 ≤ 3) (h3 : 0 ≤ a3 ∧ a3 ≤ 7) (h4 : 0 ≤ a4 ∧ a4 ≤ 8191) (h44 : (l.length : Int) % 4 = 0) :
    impl_Four_head.f k a0 a1 a2 a3 a4 a5 a6 a7 a8 a9 a10 a11 a12 a13 a14 a15 a16 l m s = some (headL a0 a1 a2 a3 a4 a5 a6 a7 a8 a9 a10 a11 a12 a13 a14 a15 a16 l.length m.length s l) := by
  have q1 := addrBytes_len a7 a8 a9 a10 a11
  have q2 := addrBytes_len a12 a13 a14 a15 a16
  unfold impl_Four_head.f impl_fourSize.f impl_fourHead.f
  rw [w64 (n := 4 * a0) (by omega) (by omega), w64 (n := 4 * a0 + a1) (by omega) (by omega), w64 (n := 20 + (l.length : Int)) (by omega) (by omega), w64 (n := 8192 * a3) (by omega) (by omega), w64 (n := 8192 * a3 + a4) (by omega) (by omega), Option.bind_some, implPut16 (by omega), Option.bind_some, Option.bind_some, w64 (n := 20 + (l.length : Int) + m.length) (by omega) (by omega), Option.bind_some, implPut16 (by omega), Option.bind_some, implPut16 (by omega), Option.bind_some, implPut16 (by omega), Option.bind_some, implAddrBytes (by omega), Option.bind_some, implAddrBytes (by omega), Option.bind_some, head_w9 l.length hl h44,
    concat (by simp) (by simp [b2]; omega) (by simp; omega), Option.bind_some]
  unfold headL
  simp

def headSumV (a0 a1 a2 a3 a4 a5 a6 a7 a8 a9 a10 a11 a12 a13 a14 a15 a16 bl : Int) (l : List Int) : Int :=
  if FourOK a0 a1 a2 a3 a4 a5 a6 a7 a8 a9 a10 a11 a12 a13 a14 a15 a16 l.length bl then 65535 - ones (headL a0 a1 a2 a3 a4 a5 a6 a7 a8 a9 a10 a11 a12 a13 a14 a15 a16 l.length bl 0 l) 0 else -1
theorem specHeadSum {k : Nat} (hk : 300 ≤ k) (a0 a1 a2 a3 a4 a5 a6 a7 a8 a9 a10 a11 a12 a13 a14 a15 a16 : Int) (l m : List Int) (hn : l.length + m.length ≤ 1048576) (hu : U8 l) : spec_HeadSum.f k a0 a1 a2 a3 a4 a5 a6 a7 a8 a9 a10 a11 a12 a13 a14 a15 a16 l m = some (headSumV a0 a1 a2 a3 a4 a5 a6 a7 a8 a9 a10 a11 a12 a13 a14 a15 a16 m.length l) := by
  unfold spec_HeadSum.f headSumV
  rw [specFourOk _ _ _ _ _ _ _ _ _ _ _ _ _ _ _ _ _ l m hn, Option.bind_some]
  by_cases h : FourOK a0 a1 a2 a3 a4 a5 a6 a7 a8 a9 a10 a11 a12 a13 a14 a15 a16 l.length m.length
  · rw [decide_eq_true h, if_pos rfl, if_pos h]
    have h' := h
    unfold FourOK at h'
    obtain ⟨h0, h1, h2, h3, h4, h5, h6, h7, h8, h9, h10, h11⟩ := h'
    have hL := headL_len a0 a1 a2 a3 a4 a5 a6 a7 a8 a9 a10 a11 a12 a13 a14 a15 a16 l.length m.length 0 l
    rw [specHead _ _ _ _ _ _ _ _ _ _ _ _ _ _ _ _ _ _ l m (by omega) (by omega) h0 h1 h2 h3 h4 (by omega), Option.bind_some, specChecksum (headL_u8 _ _ _ _ _ _ _ _ _ _ _ _ _ _ _ _ _ _ _ _ hu) (by omega), Option.bind_some, if_neg (by omega)]
  · rw [decide_eq_false h, if_neg Bool.false_ne_true, if_neg h]
theorem implHeadSum {k : Nat} (hk : 300 ≤ k) (a0 a1 a2 a3 a4 a5 a6 a7 a8 a9 a10 a11 a12 a13 a14 a15 a16 : Int) (l m : List Int) (hn : l.length + m.length ≤ 1048576) (hu : U8 l) : impl_HeadSum.f k a0 a1 a2 a3 a4 a5 a6 a7 a8 a9 a10 a11 a12 a13 a14 a15 a16 l m = some (headSumV a0 a1 a2 a3 a4 a5 a6 a7 a8 a9 a10 a11 a12 a13 a14 a15 a16 m.length l) := by
  unfold impl_HeadSum.f headSumV
  rw [implFourOk _ _ _ _ _ _ _ _ _ _ _ _ _ _ _ _ _ l m hn, Option.bind_some]
  by_cases h : FourOK a0 a1 a2 a3 a4 a5 a6 a7 a8 a9 a10 a11 a12 a13 a14 a15 a16 l.length m.length
  · rw [decide_eq_true h, if_pos rfl, if_pos h]
    have h' := h
    unfold FourOK at h'
    obtain ⟨h0, h1, h2, h3, h4, h5, h6, h7, h8, h9, h10, h11⟩ := h'
    have hL := headL_len a0 a1 a2 a3 a4 a5 a6 a7 a8 a9 a10 a11 a12 a13 a14 a15 a16 l.length m.length 0 l
    rw [implHead (by omega) _ _ _ _ _ _ _ _ _ _ _ _ _ _ _ _ _ _ l m (by omega) (by omega) h0 h1 h3 h4 h10, Option.bind_some, implChecksum (headL_u8 _ _ _ _ _ _ _ _ _ _ _ _ _ _ _ _ _ _ _ _ hu) (by omega), Option.bind_some, if_neg (by omega)]
  · rw [decide_eq_false h, if_neg Bool.false_ne_true, if_neg h]

theorem beOf_step (k : Nat) (n : Int) (xs : List Int) (hx : U8 xs) (L i : Int) (hL : L = xs.length) (h0 : 0 ≤ i) (h : i < L) (hl : L ≤ 100) (hn0 : 0 ≤ n) (hn : n < 36028797018963968) :
    impl_beOf.l0 (k + 1) n xs L i = impl_beOf.l0 k (n * 256 + rd xs i) xs L (i + 1) := by
  have hb := hx.byte i
  simp only [impl_beOf.l0]
  rw [if_pos h, if_pos h0, if_pos (by omega), or_be hn0 hn hb.1 hb.2, w64 (by omega) (by omega)]
theorem beOf_end (k : Nat) (n : Int) (xs : List Int) (L i : Int) (h : ¬ i < L) : impl_beOf.l0 (k + 1) n xs L i = some n := by
  simp only [impl_beOf.l0]
  rw [if_neg h]
theorem beOf2 {k : Nat} (hk : 10 ≤ k) {a b : Int} (hx : U8 [a, b]) : impl_beOf.f k [a, b] = some (a * 256 + b) := by
  obtain ⟨k, rfl⟩ : ∃ m, k = m + 3 := ⟨k - 3, by omega⟩
  have ha := hx a (by simp)
  have hb := hx b (by simp)
  unfold impl_beOf.f
  rw [beOf_step _ _ _ hx _ _ rfl (by decide) (by simp) (by simp) (by omega) (by omega)]
  rw [show rd [a, b] 0 = a from rfl]
  rw [beOf_step _ _ _ hx _ _ rfl (by decide) (by simp) (by simp) (by omega) (by omega)]
  rw [show rd [a, b] (0 + 1) = b from rfl]
  rw [beOf_end _ _ _ _ _ (by simp)]
  congr 1
  omega
theorem beOf4 {k : Nat} (hk : 10 ≤ k) {a b c d : Int} (hx : U8 [a, b, c, d]) : impl_beOf.f k [a, b, c, d] = some (((a * 256 + b) * 256 + c) * 256 + d) := by
  obtain ⟨k, rfl⟩ : ∃ m, k = m + 5 := ⟨k - 5, by omega⟩
  have ha := hx a (by simp)
  have hb := hx b (by simp)
  have hc := hx c (by simp)
  have hd := hx d (by simp)
  unfold impl_beOf.f
  rw [beOf_step _ _ _ hx _ _ rfl (by decide) (by simp) (by simp) (by omega) (by omega)]
  rw [show rd [a, b, c, d] 0 = a from rfl]
  rw [beOf_step _ _ _ hx _ _ rfl (by decide) (by simp) (by simp) (by omega) (by omega)]
  rw [show rd [a, b, c, d] (0 + 1) = b from rfl]
  rw [beOf_step _ _ _ hx _ _ rfl (by decide) (by simp) (by simp) (by omega) (by omega)]
  rw [show rd [a, b, c, d] (0 + 1 + 1) = c from rfl]
  rw [beOf_step _ _ _ hx _ _ rfl (by decide) (by simp) (by simp) (by omega) (by omega)]
  rw [show rd [a, b, c, d] (0 + 1 + 1 + 1) = d from rfl]
  rw [beOf_end _ _ _ _ _ (by simp)]
  congr 1
  omega
theorem beOf6 {k : Nat} (hk : 10 ≤ k) {a b c d e f : Int} (hx : U8 [a, b, c, d, e, f]) : impl_beOf.f k [a, b, c, d, e, f] = some ((a * 256 + b) * 4294967296 + (((c * 256 + d) * 256 + e) * 256 + f)) := by
  obtain ⟨k, rfl⟩ : ∃ m, k = m + 7 := ⟨k - 7, by omega⟩
  have ha := hx a (by simp)
  have hb := hx b (by simp)
  have hc := hx c (by simp)
  have hd := hx d (by simp)
  have he := hx e (by simp)
  have hf := hx f (by simp)
  unfold impl_beOf.f
  rw [beOf_step _ _ _ hx _ _ rfl (by decide) (by simp) (by simp) (by omega) (by omega)]
  rw [show rd [a, b, c, d, e, f] 0 = a from rfl]
  rw [beOf_step _ _ _ hx _ _ rfl (by decide) (by simp) (by simp) (by omega) (by omega)]
  rw [show rd [a, b, c, d, e, f] (0 + 1) = b from rfl]
  rw [beOf_step _ _ _ hx _ _ rfl (by decide) (by simp) (by simp) (by omega) (by omega)]
  rw [show rd [a, b, c, d, e, f] (0 + 1 + 1) = c from rfl]
  rw [beOf_step _ _ _ hx _ _ rfl (by decide) (by simp) (by simp) (by omega) (by omega)]
  rw [show rd [a, b, c, d, e, f] (0 + 1 + 1 + 1) = d from rfl]
  rw [beOf_step _ _ _ hx _ _ rfl (by decide) (by simp) (by simp) (by omega) (by omega)]
  rw [show rd [a, b, c, d, e, f] (0 + 1 + 1 + 1 + 1) = e from rfl]
  rw [beOf_step _ _ _ hx _ _ rfl (by decide) (by simp) (by simp) (by omega) (by omega)]
  rw [show rd [a, b, c, d, e, f] (0 + 1 + 1 + 1 + 1 + 1) = f from rfl]
  rw [beOf_end _ _ _ _ _ (by simp)]
  congr 1
  omega

theorem beOf2i {xs : List Int} (hx : U8 xs) {i j : Int} (h0 : 0 ≤ i) (hj : j = i + 2) (h : j ≤ xs.length) {k : Nat} (hk : 10 ≤ k) : impl_beOf.f k ((xs.take j.toNat).drop i.toNat) = some (be2 xs i) := by
  subst hj
  have h1 := hx.byte i
  have h2 := hx.byte (i + 1)
  rw [slice2 h0 h, beOf2 hk (U8.cons h1.1 h1.2 (U8.cons h2.1 h2.2 U8.nil))]
  rfl
theorem beOf4i {xs : List Int} (hx : U8 xs) {i j : Int} (h0 : 0 ≤ i) (hj : j = i + 4) (h : j ≤ xs.length) {k : Nat} (hk : 10 ≤ k) : impl_beOf.f k ((xs.take j.toNat).drop i.toNat) = some (be4 xs i) := by
  subst hj
  have h1 := hx.byte i
  have h2 := hx.byte (i + 1)
  have h3 := hx.byte (i + 2)
  have h4 := hx.byte (i + 3)
  rw [slice4 h0 h, beOf4 hk (U8.cons h1.1 h1.2 (U8.cons h2.1 h2.2 (U8.cons h3.1 h3.2 (U8.cons h4.1 h4.2 U8.nil))))]
  rfl
theorem beOf6i {xs : List Int} (hx : U8 xs) {i j : Int} (h0 : 0 ≤ i) (hj : j = i + 6) (h : j ≤ xs.length) {k : Nat} (hk : 10 ≤ k) : impl_beOf.f k ((xs.take j.toNat).drop i.toNat) = some (be6 xs i) := by
  subst hj
  have h1 := hx.byte i
  have h2 := hx.byte (i + 1)
  have h3 := hx.byte (i + 2)
  have h4 := hx.byte (i + 3)
  have h5 := hx.byte (i + 4)
  have h6 := hx.byte (i + 5)
  rw [slice6 h0 h, beOf6 hk (U8.cons h1.1 h1.2 (U8.cons h2.1 h2.2 (U8.cons h3.1 h3.2 (U8.cons h4.1 h4.2 (U8.cons h5.1 h5.2 (U8.cons h6.1 h6.2 U8.nil))))))]
  unfold be6 be2 be4
  rw [show i + 2 + 1 = i + 3 by omega, show i + 2 + 2 = i + 4 by omega, show i + 2 + 3 = i + 5 by omega]

theorem specBe16 {xs : List Int} (hx : U8 xs) (hn : xs.length ≤ 140737488355328) (a : Int) (_ha : -9223372036854775808 ≤ a ∧ a ≤ 9223372036854775807) :
    spec_Be16.f xs a = some (if 0 ≤ a ∧ a + 2 ≤ xs.length then (rd xs a * 256 + rd xs (a + 1), true) else (0, false)) := by
  unfold spec_Be16.f
  rw [w64 (by omega) (by omega)]
  by_cases h : 0 ≤ a ∧ a + 2 ≤ xs.length
  · have h1 := hx.byte a
    have h2 := hx.byte (a + 1)
    rw [if_pos h, if_neg (by omega), if_neg (by omega), if_pos (by omega), if_pos (by omega), w64 (n := a + 1) (by omega) (by omega), if_pos (by omega), if_pos (by omega),
      w64 (n := rd xs a) (by omega) (by omega), w64 (n := rd xs (a + 1)) (by omega) (by omega), w64 (n := 256 * rd xs a) (by omega) (by omega), w64 (by omega) (by omega), Int.mul_comm]
  · rw [if_neg h]
    by_cases h0 : a < 0
    · rw [if_pos h0]
    · rw [if_neg h0, if_pos (by omega)]

theorem specBe32_step (k : Nat) (xs : List Int) (hx : U8 xs) (a n i : Int) (h0 : 0 ≤ a) (hi : 0 ≤ i) (hi4 : i < 4) (h : a + 4 ≤ xs.length) (hn : xs.length ≤ 140737488355328) (hn0 : 0 ≤ n) (hn1 : n < 36028797018963968) :
    spec_Be32.l0 (k + 1) xs a n i = spec_Be32.l0 k xs a (n * 256 + rd xs (a + i)) (i + 1) := by
  have hb := hx.byte (a + i)
  simp only [spec_Be32.l0]
  rw [if_pos hi4, w64 (n := a + i) (by omega) (by omega), if_pos (by omega), if_pos (by omega), w64 (n := i + 1) (by omega) (by omega), w64 (n := rd xs (a + i)) (by omega) (by omega), w64 (n := 256 * n) (by omega) (by omega), w64 (by omega) (by omega), Int.mul_comm 256 n]
theorem specBe32 {xs : List Int} (hx : U8 xs) (hn : xs.length ≤ 140737488355328) (a : Int) (_ha : -9223372036854775808 ≤ a ∧ a ≤ 9223372036854775807) {k : Nat} (hk : 10 ≤ k) :
    spec_Be32.f k xs a = some (if 0 ≤ a ∧ a + 4 ≤ xs.length then (((rd xs a * 256 + rd xs (a + 1)) * 256 + rd xs (a + 2)) * 256 + rd xs (a + 3), true) else (0, false)) := by
  obtain ⟨k, rfl⟩ : ∃ m, k = m + 6 := ⟨k - 6, by omega⟩
  unfold spec_Be32.f
  rw [w64 (by omega) (by omega)]
  by_cases h : 0 ≤ a ∧ a + 4 ≤ xs.length
  · have h1 := hx.byte a
    have h2 := hx.byte (a + 1)
    have h3 := hx.byte (a + 2)
    have h4 := hx.byte (a + 3)
    rw [if_pos h, if_neg (by omega), if_neg (by omega)]
    rw [specBe32_step _ _ hx _ _ _ h.1 (by omega) (by omega) h.2 hn (by omega) (by omega), show a + 0 = a by omega, show (0 : Int) + 1 = 1 by rfl]
    rw [specBe32_step _ _ hx _ _ _ h.1 (by omega) (by omega) h.2 hn (by omega) (by omega), show (1 : Int) + 1 = 2 by rfl]
    rw [specBe32_step _ _ hx _ _ _ h.1 (by omega) (by omega) h.2 hn (by omega) (by omega), show (2 : Int) + 1 = 3 by rfl]
    rw [specBe32_step _ _ hx _ _ _ h.1 (by omega) (by omega) h.2 hn (by omega) (by omega), show (3 : Int) + 1 = 4 by rfl]
    simp only [spec_Be32.l0]
    rw [if_neg (by decide), show (0 : Int) * 256 + rd xs a = rd xs a by omega]
  · rw [if_neg h]
    by_cases h0 : a < 0
    · rw [if_pos h0]
    · rw [if_neg h0, if_pos (by omega)]

theorem implAddrOf {xs : List Int} (hx : U8 xs) {k : Nat} (hk : 10 ≤ k) : impl_AddrOf.f k xs = some (addrOf xs) := by
  unfold impl_AddrOf.f addrOf
  by_cases h4 : (xs.length : Int) = 4
  · have h := beOf4i hx (i := 0) (j := 4) (by omega) (by omega) (by omega) hk
    rw [List.take_of_length_le (by omega)] at h
    rw [if_pos h4, if_pos h4, show impl_beOf.f k xs = some (be4 xs 0) from h]
    rfl
  · rw [if_neg h4, if_neg h4]
    by_cases h16 : (xs.length : Int) = 16
    · have h := beOf4i hx (i := 12) (j := 16) (by omega) (by omega) (by omega) hk
      rw [List.take_of_length_le (by omega)] at h
      rw [if_pos h16, if_pos h16, if_pos (by omega), show impl_beOf.f k (xs.take 4) = some (be4 xs 0) from beOf4i hx (i := 0) (j := 4) (by omega) (by omega) (by omega) hk]
      simp only [Option.bind_some]
      rw [if_pos (by omega), if_pos (by omega), show impl_beOf.f k ((xs.take 8).drop 4) = some (be4 xs 4) from beOf4i hx (i := 4) (j := 8) (by omega) (by omega) (by omega) hk]
      simp only [Option.bind_some]
      rw [if_pos (by omega), if_pos (by omega), show impl_beOf.f k ((xs.take 12).drop 8) = some (be4 xs 8) from beOf4i hx (i := 8) (j := 12) (by omega) (by omega) (by omega) hk, show impl_beOf.f k (xs.drop 12) = some (be4 xs 12) from h]
      rfl
    · rw [if_neg h16, if_neg h16]

theorem specAddrOf {xs : List Int} (hx : U8 xs) (hn : xs.length ≤ 140737488355328) {k : Nat} (hk : 10 ≤ k) : spec_AddrOf.f k xs = some (addrOf xs) := by
  unfold spec_AddrOf.f addrOf be4
  by_cases h4 : (xs.length : Int) = 4
  · rw [if_pos h4, if_pos h4, specBe32 hx hn 0 (by omega) hk, if_pos (by omega)]
    rfl
  · rw [if_neg h4, if_neg h4]
    by_cases h16 : (xs.length : Int) = 16
    · rw [if_pos h16, if_pos h16, specBe32 hx hn 0 (by omega) hk, if_pos (by omega), specBe32 hx hn 4 (by omega) hk, if_pos (by omega), specBe32 hx hn 8 (by omega) hk, if_pos (by omega), specBe32 hx hn 12 (by omega) hk, if_pos (by omega)]
      rfl
    · rw [if_neg h16, if_neg h16]

def fz (c : Int) : Int × Int × Int × Int × Int × Int × Int × Int × Int × Int × Int × Int × Int × Int × Int × Int × Int × List Int × List Int × List Int × Int :=
  (0, 0, 0, 0, 0, 0, 0, 0, 0, 0, 0, 0, 0, 0, 0, 0, 0, ([] : List Int), ([] : List Int), ([] : List Int), c)
def fourRead3 (l : List Int) (t : Int) (o b : List Int) : Int × Int × Int × Int × Int × Int × Int × Int × Int × Int × Int × Int × Int × Int × Int × Int × Int × List Int × List Int × List Int × Int :=
  if be2 l 10 = headSumV (wrap64 (Int.tdiv (wrap64 (rd l 1)) 4)) (Int.tmod (wrap64 (rd l 1)) 4) (be2 l 4) (wrap64 (Int.tdiv (be2 l 6) 8192)) (Int.tmod (be2 l 6) 8192) (wrap64 (rd l 8)) (wrap64 (rd l 9))
      (addrOf ((l.take 16).drop 12)).1 (addrOf ((l.take 16).drop 12)).2.1 (addrOf ((l.take 16).drop 12)).2.2.1 (addrOf ((l.take 16).drop 12)).2.2.2.1 (addrOf ((l.take 16).drop 12)).2.2.2.2.1
      (addrOf ((l.take 20).drop 16)).1 (addrOf ((l.take 20).drop 16)).2.1 (addrOf ((l.take 20).drop 16)).2.2.1 (addrOf ((l.take 20).drop 16)).2.2.2.1 (addrOf ((l.take 20).drop 16)).2.2.2.2.1 b.length o
  then (wrap64 (Int.tdiv (wrap64 (rd l 1)) 4), Int.tmod (wrap64 (rd l 1)) 4, be2 l 4, wrap64 (Int.tdiv (be2 l 6) 8192), Int.tmod (be2 l 6) 8192, wrap64 (rd l 8), wrap64 (rd l 9),
      (addrOf ((l.take 16).drop 12)).1, (addrOf ((l.take 16).drop 12)).2.1, (addrOf ((l.take 16).drop 12)).2.2.1, (addrOf ((l.take 16).drop 12)).2.2.2.1, (addrOf ((l.take 16).drop 12)).2.2.2.2.1,
      (addrOf ((l.take 20).drop 16)).1, (addrOf ((l.take 20).drop 16)).2.1, (addrOf ((l.take 20).drop 16)).2.2.1, (addrOf ((l.take 20).drop 16)).2.2.2.1, (addrOf ((l.take 20).drop 16)).2.2.2.2.1, o, b, l.drop t.toNat, 0)
  else fz 6
def fourRead2 (l : List Int) (h t : Int) : Int × Int × Int × Int × Int × Int × Int × Int × Int × Int × Int × Int × Int × Int × Int × Int × Int × List Int × List Int × List Int × Int :=
  if h < 20 then fz 4 else if h > (l.length : Int) then fz 4 else if t < h then fz 5 else if t > 1500 then fz 5 else if t > (l.length : Int) then fz 5
  else fourRead3 l t ((l.take h.toNat).drop 20) ((l.take t.toNat).drop h.toNat)
/-- What reading a packet answers. -/
def fourRead (l : List Int) : Int × Int × Int × Int × Int × Int × Int × Int × Int × Int × Int × Int × Int × Int × Int × Int × Int × List Int × List Int × List Int × Int :=
  if (l.length : Int) > 1600 then fz 1 else if (l.length : Int) < 20 then fz 2 else if rd l 0 / 16 = 4 then fourRead2 l (4 * (rd l 0 % 16)) (be2 l 2) else fz 3
theorem fourRead3_len (l : List Int) (t : Int) (o b : List Int) : (fourRead3 l t o b).2.2.2.2.2.2.2.2.2.2.2.2.2.2.2.2.2.1.length ≤ o.length ∧ (fourRead3 l t o b).2.2.2.2.2.2.2.2.2.2.2.2.2.2.2.2.2.2.1.length ≤ b.length ∧ (fourRead3 l t o b).2.2.2.2.2.2.2.2.2.2.2.2.2.2.2.2.2.2.2.1.length ≤ l.length := by
  unfold fourRead3
  split
  · refine ⟨Nat.le_refl _, Nat.le_refl _, ?_⟩
    show (l.drop t.toNat).length ≤ _
    rw [List.length_drop]
    omega
  · exact ⟨Nat.zero_le _, Nat.zero_le _, Nat.zero_le _⟩
theorem fourRead_len (l : List Int) : (fourRead l).2.2.2.2.2.2.2.2.2.2.2.2.2.2.2.2.2.1.length ≤ l.length ∧ (fourRead l).2.2.2.2.2.2.2.2.2.2.2.2.2.2.2.2.2.2.1.length ≤ l.length ∧ (fourRead l).2.2.2.2.2.2.2.2.2.2.2.2.2.2.2.2.2.2.2.1.length ≤ l.length := by
  have hz : ∀ c, (fz c).2.2.2.2.2.2.2.2.2.2.2.2.2.2.2.2.2.1.length ≤ l.length ∧ (fz c).2.2.2.2.2.2.2.2.2.2.2.2.2.2.2.2.2.2.1.length ≤ l.length ∧ (fz c).2.2.2.2.2.2.2.2.2.2.2.2.2.2.2.2.2.2.2.1.length ≤ l.length := fun c => ⟨Nat.zero_le _, Nat.zero_le _, Nat.zero_le _⟩
  unfold fourRead
  by_cases h1 : (l.length : Int) > 1600
  · rw [if_pos h1]; exact hz _
  · rw [if_neg h1]
    by_cases h2 : (l.length : Int) < 20
    · rw [if_pos h2]; exact hz _
    · rw [if_neg h2]
      by_cases h3 : rd l 0 / 16 = 4
      · rw [if_pos h3]
        generalize 4 * (rd l 0 % 16) = h
        generalize be2 l 2 = t
        unfold fourRead2
        by_cases c1 : h < 20
        · rw [if_pos c1]; exact hz _
        · rw [if_neg c1]
          by_cases c2 : h > (l.length : Int)
          · rw [if_pos c2]; exact hz _
          · rw [if_neg c2]
            by_cases c3 : t < h
            · rw [if_pos c3]; exact hz _
            · rw [if_neg c3]
              by_cases c4 : t > 1500
              · rw [if_pos c4]; exact hz _
              · rw [if_neg c4]
                by_cases c5 : t > (l.length : Int)
                · rw [if_pos c5]; exact hz _
                · rw [if_neg c5]
                  obtain ⟨q1, q2, q3⟩ := fourRead3_len l t ((l.take h.toNat).drop 20) ((l.take t.toNat).drop h.toNat)
                  refine ⟨Nat.le_trans q1 ?_, Nat.le_trans q2 ?_, q3⟩
                  · rw [List.length_drop, List.length_take]; omega
                  · rw [List.length_drop, List.length_take]; omega
      · rw [if_neg h3]; exact hz _
theorem specBe16' {xs : List Int} (hx : U8 xs) (hn : xs.length ≤ 140737488355328) (a : Int) (h0 : 0 ≤ a) (h1 : a + 2 ≤ xs.length) : spec_Be16.f xs a = some (be2 xs a, true) := by
  rw [specBe16 hx hn a (by omega), if_pos ⟨h0, h1⟩]
  rfl
theorem specFourRead {k : Nat} (hk : 300 ≤ k) {l : List Int} (hx : U8 l) : spec_FourRead.f k l = some (fourRead l) := by
  unfold spec_FourRead.f fourRead
  by_cases h1 : (l.length : Int) > 1600
  · rw [if_pos h1, if_pos h1]; rfl
  · rw [if_neg h1, if_neg h1]
    by_cases h2 : (l.length : Int) < 20
    · rw [if_pos h2, if_pos h2]; rfl
    · rw [if_neg h2, if_neg h2, if_pos (show 0 < (l.length : Int) by omega)]
      have b0 := hx.byte 0
      have e0 : Int.tdiv (rd l 0) 16 % 256 = rd l 0 / 16 := by rw [tdiv_pos (by omega)]; omega
      have e1 : wrap64 (4 * wrap64 (Int.tmod (rd l 0) 16)) = 4 * (rd l 0 % 16) := by rw [tmod_pos (by omega), w64 (n := rd l 0 % 16) (by omega) (by omega), w64 (by omega) (by omega)]
      rw [e0, e1]
      by_cases h3 : rd l 0 / 16 = 4
      · rw [if_pos h3, if_pos h3]
        clear e0 e1 h3 b0
        generalize 4 * (rd l 0 % 16) = h
        rw [specBe16' hx (by omega) 2 (by omega) (by omega), Option.bind_some]
        unfold fourRead2
        dsimp only
        generalize be2 l 2 = t
        by_cases c1 : h < 20
        · rw [if_pos c1, if_pos c1]; rfl
        · rw [if_neg c1, if_neg c1]
          by_cases c2 : h > (l.length : Int)
          · rw [if_pos c2, if_pos c2]; rfl
          · rw [if_neg c2, if_neg c2]
            by_cases c3 : t < h
            · rw [if_pos c3, if_pos c3]; rfl
            · rw [if_neg c3, if_neg c3]
              by_cases c4 : t > 1500
              · rw [if_pos c4, if_pos c4]; rfl
              · rw [if_neg c4, if_neg c4]
                by_cases c5 : t > (l.length : Int)
                · rw [if_pos c5, if_pos c5]; rfl
                · rw [if_neg c5, if_neg c5, if_pos (show 1 < (l.length : Int) by omega), if_pos (show 8 < (l.length : Int) by omega), if_pos (show 9 < (l.length : Int) by omega),
                    specBe16' hx (by omega) 4 (by omega) (by omega), Option.bind_some, specBe16' hx (by omega) 6 (by omega) (by omega), Option.bind_some, if_pos (by decide), if_pos (show 16 ≤ (l.length : Int) by omega),
                    specAddrOf ((hx.take 16).drop 12) (by rw [List.length_drop, List.length_take]; omega) (by omega), Option.bind_some, if_pos (by decide), if_pos (show 20 ≤ (l.length : Int) by omega),
                    specAddrOf ((hx.take 20).drop 16) (by rw [List.length_drop, List.length_take]; omega) (by omega), Option.bind_some, Option.bind_some, if_pos (show 20 ≤ h by omega), if_pos (show h ≤ (l.length : Int) by omega),
                    if_pos (by rw [List.length_drop, List.length_take, List.length_nil]; omega), Option.bind_some, Option.bind_some, if_pos (show 0 ≤ h by omega), if_pos (show h ≤ t by omega), if_pos (show t ≤ (l.length : Int) by omega),
                    if_pos (by rw [List.length_drop, List.length_take, List.length_nil]; omega), Option.bind_some, specBe16' hx (by omega) 10 (by omega) (by omega), Option.bind_some, List.nil_append, List.nil_append,
                    specHeadSum hk _ _ _ _ _ _ _ _ _ _ _ _ _ _ _ _ _ _ _ (by rw [List.length_drop, List.length_take, List.length_drop, List.length_take]; omega) ((hx.take _).drop _), Option.bind_some]
                  dsimp only
                  unfold fourRead3
                  generalize headSumV _ _ _ _ _ _ _ _ _ _ _ _ _ _ _ _ _ _ _ = S
                  by_cases c6 : be2 l 10 = S
                  · rw [if_pos c6, if_pos c6, Option.bind_some, if_pos (show 0 ≤ t by omega), if_pos (by rw [List.length_drop, List.length_nil]; omega), List.nil_append]
                  · rw [if_neg c6, if_neg c6]; rfl
      · rw [if_neg h3, if_neg h3]; rfl
theorem rd_take {l : List Int} {n : Nat} {i : Int} (h0 : 0 ≤ i) (h : i < n) : rd (l.take n) i = rd l i := by
  unfold rd
  rw [List.getD_eq_getElem?_getD, List.getD_eq_getElem?_getD, List.getElem?_take, if_pos (by omega)]
theorem be2_take {l : List Int} {n : Nat} {i : Int} (h0 : 0 ≤ i) (h : i + 1 < n) : be2 (l.take n) i = be2 l i := by
  unfold be2
  rw [rd_take h0 (by omega), rd_take (by omega) h]
theorem clone {l : List Int} (h : l.length ≤ 140737488355328) : slices_Clone_byte_byte.f l = some l := by
  unfold slices_Clone_byte_byte.f
  rw [if_pos h]
theorem beTwo {l : List Int} (hx : U8 l) {k : Nat} (hk : 10 ≤ k) (i j : Nat) (hj : j = i + 2) (h : j ≤ l.length) : impl_beOf.f k ((l.take j).drop i) = some (be2 l i) := by
  have := beOf2i hx (i := i) (j := j) (by omega) (by omega) (by omega) hk
  simpa using this
theorem implFourOf {k : Nat} (hk : 300 ≤ k) {l : List Int} (hx : U8 l) (h t : Int) (h20 : 20 ≤ h) (ht : h ≤ t) (hl : t ≤ l.length) (hn : (l.length : Int) ≤ 1600) :
    impl_fourOf.f k (l.take t.toNat) h = some (wrap64 (Int.tdiv (wrap64 (rd l 1)) 4), Int.tmod (wrap64 (rd l 1)) 4, be2 l 4, wrap64 (Int.tdiv (be2 l 6) 8192), Int.tmod (be2 l 6) 8192, wrap64 (rd l 8), wrap64 (rd l 9),
      (addrOf ((l.take 16).drop 12)).1, (addrOf ((l.take 16).drop 12)).2.1, (addrOf ((l.take 16).drop 12)).2.2.1, (addrOf ((l.take 16).drop 12)).2.2.2.1, (addrOf ((l.take 16).drop 12)).2.2.2.2.1,
      (addrOf ((l.take 20).drop 16)).1, (addrOf ((l.take 20).drop 16)).2.1, (addrOf ((l.take 20).drop 16)).2.2.1, (addrOf ((l.take 20).drop 16)).2.2.2.1, (addrOf ((l.take 20).drop 16)).2.2.2.2.1, (l.take h.toNat).drop 20, (l.take t.toNat).drop h.toNat) := by
  unfold impl_fourOf.f
  have hT : (l.take t.toNat).length = t.toNat := by rw [List.length_take]; omega
  have hxT := hx.take t.toNat
  have tk : ∀ n : Nat, n ≤ t.toNat → (l.take t.toNat).take n = l.take n := fun n hn => by rw [List.take_take, Nat.min_eq_left hn]
  rw [hT, if_pos (by decide), if_pos (show (8 : Int) ≤ (t.toNat : Int) by omega), beTwo hxT (by omega) 6 8 rfl (by omega), Option.bind_some, if_pos (show (1 : Int) < (t.toNat : Int) by omega), if_pos (by decide), if_pos (show (6 : Int) ≤ (t.toNat : Int) by omega),
    beTwo hxT (by omega) 4 6 rfl (by omega), Option.bind_some, if_pos (show (8 : Int) < (t.toNat : Int) by omega), if_pos (show (9 : Int) < (t.toNat : Int) by omega), if_pos h20, if_pos (show h ≤ (t.toNat : Int) by omega),
    clone (by rw [List.length_drop, List.length_take]; omega), Option.bind_some, if_pos (show 0 ≤ h by omega), clone (by rw [List.length_drop]; omega), Option.bind_some, if_pos (by decide), if_pos (show (16 : Int) ≤ (t.toNat : Int) by omega),
    implAddrOf ((hxT.take 16).drop 12) (by omega), Option.bind_some, if_pos (by decide), if_pos (show (20 : Int) ≤ (t.toNat : Int) by omega), implAddrOf ((hxT.take 20).drop 16) (by omega), Option.bind_some,
    tk h.toNat (by omega), tk 16 (by omega), tk 20 (by omega), rd_take (i := 1) (by omega) (by omega), rd_take (i := 8) (by omega) (by omega), rd_take (i := 9) (by omega) (by omega), be2_take (i := (6 : Nat)) (by omega) (by omega), be2_take (i := (4 : Nat)) (by omega) (by omega)]
  rfl
theorem implFourRead {k : Nat} (hk : 300 ≤ k) {l : List Int} (hx : U8 l) : impl_FourRead.f k l = some (fourRead l) := by
  unfold impl_FourRead.f fourRead
  by_cases h1 : (l.length : Int) > 1600
  · rw [if_pos h1, if_pos h1]; rfl
  · rw [if_neg h1, if_neg h1]
    by_cases h2 : (l.length : Int) < 20
    · rw [if_pos h2, if_pos h2]; rfl
    · rw [if_neg h2, if_neg h2, if_pos (show 0 < (l.length : Int) by omega)]
      have b0 := hx.byte 0
      have e1 : wrap64 (4 * wrap64 (Int.tmod (rd l 0) 16)) = 4 * (rd l 0 % 16) := by rw [tmod_pos (by omega), w64 (n := rd l 0 % 16) (by omega) (by omega), w64 (by omega) (by omega)]
      rw [e1]
      by_cases h3 : rd l 0 / 16 = 4
      · rw [if_pos h3, if_pos h3]
        clear e1 h3 b0
        generalize 4 * (rd l 0 % 16) = h
        rw [if_pos (by decide), if_pos (show 4 ≤ (l.length : Int) by omega), beTwo hx (by omega) 2 4 rfl (by omega), Option.bind_some]
        unfold fourRead2
        rw [show ((2 : Nat) : Int) = 2 from rfl]
        generalize be2 l 2 = t
        by_cases c1 : h < 20
        · rw [if_pos c1, if_pos c1]; rfl
        · rw [if_neg c1, if_neg c1]
          by_cases c2 : h > (l.length : Int)
          · rw [if_pos c2, if_pos c2]; rfl
          · rw [if_neg c2, if_neg c2]
            by_cases c3 : t < h
            · rw [if_pos c3, if_pos c3]; rfl
            · rw [if_neg c3, if_neg c3]
              by_cases c4 : t > 1500
              · rw [if_pos c4, if_pos c4]; rfl
              · rw [if_neg c4, if_neg c4]
                by_cases c5 : t > (l.length : Int)
                · rw [if_pos c5, if_pos c5]; rfl
                · rw [if_neg c5, if_neg c5, if_pos (show 0 ≤ t by omega), if_pos (show t ≤ (l.length : Int) by omega), implFourOf hk hx h t (by omega) (by omega) (by omega) (by omega), Option.bind_some, if_pos (by decide), if_pos (show 12 ≤ (l.length : Int) by omega),
                    beTwo hx (by omega) 10 12 rfl (by omega), Option.bind_some,
                    implHeadSum hk _ _ _ _ _ _ _ _ _ _ _ _ _ _ _ _ _ _ _ (by rw [List.length_drop, List.length_take, List.length_drop, List.length_take]; omega) ((hx.take _).drop _), Option.bind_some]
                  rw [show ((10 : Nat) : Int) = 10 from rfl]
                  dsimp only
                  unfold fourRead3
                  generalize headSumV _ _ _ _ _ _ _ _ _ _ _ _ _ _ _ _ _ _ _ = S
                  by_cases c6 : be2 l 10 = S
                  · rw [if_pos c6, if_pos c6, clone (by rw [List.length_drop]; omega), Option.bind_some]
                  · rw [if_neg c6, if_neg c6]; rfl
      · rw [if_neg h3, if_neg h3]; rfl

end ExactFourRead
open ExactFourRead

theorem FnExactFourRead : laws_FnExactFourRead.Pure := by
  intro l0 _ hl hu
  have hx := U8.of_wf hu
  refine ⟨l0.length + 400, ?_⟩
  unfold laws_FnExactFourRead.f
  by_cases h : (l0.length : Int) > 1048576
  · rw [if_pos h]
  · have hlen := fourRead_len l0
    have ht : laws_toByteS.f (l0.length + 400) l0 = some l0 := toByteS (by omega) (by omega)
    have hs : spec_FourRead.f (l0.length + 400) l0 = some (fourRead l0) := specFourRead (by omega) hx
    have hi : impl_FourRead.f (l0.length + 400) l0 = some (fourRead l0) := implFourRead (by omega) hx
    have hb : ∀ xs : List Int, xs.length ≤ l0.length → laws_eqByteS.f (l0.length + 400) xs xs = some true := fun xs hxs => eqByteS (by omega) (by omega)
    obtain ⟨z0, hm0, _, _⟩ := markByteS l0 (by omega) (m := 1) (by omega) (by omega) (k := l0.length + 400) (by omega)
    generalize fourRead l0 = r at hs hi hlen
    obtain ⟨r0, r1, r2, r3, r4, r5, r6, r7, r8, r9, r10, r11, r12, r13, r14, r15, r16, o, b, p, c⟩ := r
    obtain ⟨g1, g2, g3⟩ := hlen
    simp only at g1 g2 g3
    have he : laws_eqFour.f (l0.length + 400) r0 r1 r2 r3 r4 r5 r6 r7 r8 r9 r10 r11 r12 r13 r14 r15 r16 o b r0 r1 r2 r3 r4 r5 r6 r7 r8 r9 r10 r11 r12 r13 r14 r15 r16 o b = some true := eqFourK r0 r1 r2 r3 r4 r5 r6 r7 r8 r9 r10 r11 r12 r13 r14 r15 r16 o b (by omega) (by omega) (by omega)
    obtain ⟨y1, m1, l1, z1⟩ := markByteS o (by omega) (m := 1) (by omega) (by omega) (k := l0.length + 400) (by omega)
    obtain ⟨y2, m2, l2, z2⟩ := markByteS b (by omega) (m := 1 + (o.length : Int)) (by omega) (by omega) (k := l0.length + 400) (by omega)
    obtain ⟨y3, m3, l3, z3⟩ := markByteS p (by omega) (m := 1 + (o.length : Int) + b.length) (by omega) (by omega) (k := l0.length + 400) (by omega)
    have mk : laws_markFour.f (l0.length + 400) r0 r1 r2 r3 r4 r5 r6 r7 r8 r9 r10 r11 r12 r13 r14 r15 r16 o b 1 = some (1 + (o.length : Int) + b.length, y1, y2) := by
      unfold laws_markFour.f
      rw [m1, Option.bind_some]
      dsimp only
      rw [m2, Option.bind_some]
    have h1 : laws_heldByteS.f (l0.length + 400) y1 1 = some (1 + (o.length : Int)) := by
      have := heldByteS z1 (by omega) (by omega) (by omega) (k := l0.length + 400) (by omega)
      rwa [l1] at this
    have h2 : laws_heldByteS.f (l0.length + 400) y2 (1 + (o.length : Int)) = some (1 + (o.length : Int) + b.length) := by
      have := heldByteS z2 (by omega) (by omega) (by omega) (k := l0.length + 400) (by omega)
      rwa [l2] at this
    have h3 : laws_heldByteS.f (l0.length + 400) y3 (1 + (o.length : Int) + b.length) = some (1 + (o.length : Int) + b.length + p.length) := by
      have := heldByteS z3 (by omega) (by omega) (by omega) (k := l0.length + 400) (by omega)
      rwa [l3] at this
    have hd : laws_heldFour.f (l0.length + 400) r0 r1 r2 r3 r4 r5 r6 r7 r8 r9 r10 r11 r12 r13 r14 r15 r16 y1 y2 1 = some (1 + (o.length : Int) + b.length) := by
      unfold laws_heldFour.f
      rw [h1, Option.bind_some, if_neg (by omega), h2, Option.bind_some, if_neg (by omega)]
    have n1 : ¬ ((1 : Int) + l0.length < 0) := by omega
    have n2 : ¬ ((1 : Int) + o.length + b.length < 0) := by omega
    have n3 : ¬ ((1 : Int) + o.length + b.length + p.length < 0) := by omega
    rw [if_neg h]
    simp only [ht, hs, hi, Option.bind_some, he, if_true, hb p g3, hb l0 (Nat.le_refl _), hm0, if_neg n1, mk, m3, hd, if_neg n2, h3, if_neg n3]

end Go.Proofs.Ytdbiejkaplndgaa.Pure
