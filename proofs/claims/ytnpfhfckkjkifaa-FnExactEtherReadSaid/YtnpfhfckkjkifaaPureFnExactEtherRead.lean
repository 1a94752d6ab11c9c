/- The program's EtherRead returns what the reference's returns, for all arguments. No condition. -/
import Derived.Test.YtnpfhfckkjkifaaFFnExactEtherReadx
import Derived.Test.YtnpfhfckkjkifaaBase
namespace Go.Proofs.Ytnpfhfckkjkifaa.Pure
open Go.RowKit Go.Proofs.Ytnpfhfckkjkifaa.FFnExactEtherRead Go.Proofs.YtnpfhfckkjkifaaW.PrintWords Go.Proofs.YtnpfhfckkjkifaaW.PrintLast Go.Proofs.YtnpfhfckkjkifaaW.PrintMore Go.Proofs.Ytnpfhfckkjkifaa.Base

set_option linter.unusedVariables false
set_option linter.unusedSimpArgs false
namespace ExactEtherRead
theorem toByteS_l (xs : List Int) (hn : xs.length ≤ 140737488355328) (d : Nat) : ∀ (k : Nat) (ys : List Int) (i : Int), 0 ≤ i → i + d = xs.length → d < k → ys.length = xs.length → (∀ j : Nat, (j : Int) < i → ys[j]? = xs[j]?) → laws_toByteS.l0 k xs ys i = some xs := by
  induction d with
  | zero =>
    intro k ys i h0 hi hk hl hj
    obtain ⟨k, rfl⟩ := pos_k hk
    simp only [laws_toByteS.l0]
    rw [if_neg (by omega)]
    congr 1
    apply List.ext_getElem?
    intro j
    by_cases h : (j : Int) < i
    · exact hj j h
    · rw [List.getElem?_eq_none (by omega), List.getElem?_eq_none (by omega)]
  | succ d ih =>
    intro k ys i h0 hi hk hl hj
    obtain ⟨k, rfl⟩ := pos_k hk
    simp only [laws_toByteS.l0]
    rw [if_pos (by omega), if_pos (by omega), if_pos (by omega), w64 (by omega) (by omega)]
    refine ih k _ (i + 1) (by omega) (by omega) (by omega) (by rw [List.length_set]; omega) ?_
    intro j hj'
    by_cases h : (j : Int) = i
    · have e : i.toNat = j := by omega
      rw [e, List.getElem?_set_self (by omega), ← h, ← rd_get? (by omega) (by omega)]
      rfl
    · rw [List.getElem?_set_ne (by omega)]
      exact hj j (by omega)
theorem toByteS {xs : List Int} (hn : xs.length ≤ 140737488355328) {k : Nat} (hk : xs.length < k) : laws_toByteS.f k xs = some xs := by
  unfold laws_toByteS.f
  rw [if_pos (by omega), if_pos (by omega)]
  exact toByteS_l xs hn xs.length k _ 0 (by omega) (by omega) hk (by simp) (fun j hj => by omega)

theorem eqByteS_l (xs : List Int) (hn : xs.length ≤ 140737488355328) (d : Nat) : ∀ (k : Nat) (i : Int), 0 ≤ i → i + d = xs.length → d < k → laws_eqByteS.l0 k xs xs i = some true := by
  induction d with
  | zero =>
    intro k i h0 hi hk
    obtain ⟨k, rfl⟩ := pos_k hk
    simp only [laws_eqByteS.l0]
    rw [if_neg (by omega)]
  | succ d ih =>
    intro k i h0 hi hk
    obtain ⟨k, rfl⟩ := pos_k hk
    simp only [laws_eqByteS.l0]
    rw [if_pos (by omega), if_pos (by omega), if_pos (by omega), if_pos (by first | rfl | trivial), w64 (by omega) (by omega)]
    exact ih k (i + 1) (by omega) (by omega) (by omega)
theorem eqByteS {xs : List Int} (hn : xs.length ≤ 140737488355328) {k : Nat} (hk : xs.length < k) : laws_eqByteS.f k xs xs = some true := by
  unfold laws_eqByteS.f
  rw [if_pos rfl]
  exact eqByteS_l xs hn xs.length k 0 (by omega) (by omega) hk

theorem markByteS_l (d : Nat) : ∀ (k : Nat) (ys : List Int) (m i : Int), 0 ≤ i → i + d = ys.length → d < k → 0 ≤ m → ys.length ≤ 140737488355328 → m + d ≤ 281474976710656 →
    ∃ zs, laws_markByteS.l0 k ys m i = some (m + d, zs) ∧ zs.length = ys.length ∧ (∀ j : Nat, (j : Int) < i → zs[j]? = ys[j]?) ∧ (∀ j : Nat, i ≤ j → j < ys.length → zs[j]? = some ((m + (j - i)) % 256)) := by
  induction d with
  | zero =>
    intro k ys m i h0 hi hk hm hl hb
    obtain ⟨k, rfl⟩ := pos_k hk
    refine ⟨ys, ?_, rfl, fun _ _ => rfl, fun j h1 h2 => by omega⟩
    simp only [laws_markByteS.l0]
    rw [if_neg (by omega), show m + ((0 : Nat) : Int) = m by omega]
  | succ d ih =>
    intro k ys m i h0 hi hk hm hl hb
    obtain ⟨k, rfl⟩ := pos_k hk
    obtain ⟨zs, h1, h2, h3, h4⟩ := ih k (ys.set i.toNat (m % 256)) (m + 1) (i + 1) (by omega) (by rw [List.length_set]; omega) (by omega) (by omega) (by rw [List.length_set]; omega) (by omega)
    rw [List.length_set] at h2 h4
    refine ⟨zs, ?_, h2, ?_, ?_⟩
    · simp only [laws_markByteS.l0]
      rw [if_pos (by omega), if_pos (by omega), w64 (by omega) (by omega), w64 (by omega) (by omega), h1]
      congr 2
      omega
    · intro j hj
      rw [h3 j (by omega), List.getElem?_set_ne (by omega)]
    · intro j hj hj'
      by_cases h : (j : Int) = i
      · rw [h3 j (by omega), show i.toNat = j by omega, List.getElem?_set_self (by omega), h, show m + (i - i) = m by omega]
      · rw [h4 j (by omega) hj', show m + 1 + ((j : Int) - (i + 1)) = m + (j - i) by omega]
/-- What marking leaves reads as marked. -/
def Marked (zs : List Int) (m : Int) : Prop := ∀ j : Nat, j < zs.length → zs[j]? = some ((m + j) % 256)
theorem markByteS (ys : List Int) (hl : ys.length ≤ 140737488355328) {m : Int} (h0 : 0 ≤ m) (h1 : m ≤ 140737488355328) {k : Nat} (hk : ys.length < k) :
    ∃ zs, laws_markByteS.f k ys m = some (m + ys.length, zs) ∧ zs.length = ys.length ∧ Marked zs m := by
  obtain ⟨zs, h1, h2, h3, h4⟩ := markByteS_l ys.length k ys m 0 (by omega) (by omega) hk h0 hl (by omega)
  refine ⟨zs, h1, h2, fun j hj => ?_⟩
  rw [h4 j (by omega) (by omega), show m + ((j : Int) - 0) = m + j by omega]

theorem heldByteS_l (d : Nat) (zs : List Int) (m0 : Int) (hz : Marked zs m0) : ∀ (k : Nat) (m i : Int), 0 ≤ i → i + d = zs.length → d < k → 0 ≤ m → m = m0 + i → zs.length ≤ 140737488355328 → m + d ≤ 281474976710656 →
    laws_heldByteS.l0 k zs m i = some (m + d) := by
  induction d with
  | zero =>
    intro k m i h0 hi hk hm he hl hb
    obtain ⟨k, rfl⟩ := pos_k hk
    simp only [laws_heldByteS.l0]
    rw [if_neg (by omega), show m + ((0 : Nat) : Int) = m by omega]
  | succ d ih =>
    intro k m i h0 hi hk hm he hl hb
    obtain ⟨k, rfl⟩ := pos_k hk
    have hr : rd zs i = m % 256 := by
      have h1 := rd_get? h0 (show i < zs.length by omega)
      rw [hz i.toNat (by omega)] at h1
      rw [← Option.some.inj h1, he, show ((i.toNat : Nat) : Int) = i by omega]
    simp only [laws_heldByteS.l0]
    rw [if_pos (by omega), if_pos (by omega), if_pos hr, w64 (by omega) (by omega), w64 (by omega) (by omega), ih k (m + 1) (i + 1) (by omega) (by omega) (by omega) (by omega) (by omega) (by omega) (by omega)]
    congr 1
    omega
theorem heldByteS {zs : List Int} {m : Int} (hz : Marked zs m) (hl : zs.length ≤ 140737488355328) (h0 : 0 ≤ m) (h1 : m ≤ 140737488355328) {k : Nat} (hk : zs.length < k) : laws_heldByteS.f k zs m = some (m + zs.length) :=
  heldByteS_l zs.length zs m hz k m 0 (by omega) (by omega) hk h0 (by omega) hl (by omega)


theorem eqEther (a0 a1 a2 a3 : Int) (l : List Int) (hn : l.length ≤ 140737488355328) {k : Nat} (hk : l.length < k) : laws_eqEther.f k a0 a1 a2 a3 l a0 a1 a2 a3 l = some true := by
  unfold laws_eqEther.f
  simp only [if_true, eqByteS hn hk, Option.bind_some]

theorem beOf_step (k : Nat) (n : Int) (xs : List Int) (hx : U8 xs) (L i : Int) (hL : L = xs.length) (h0 : 0 ≤ i) (h : i < L) (hl : L ≤ 100) (hn0 : 0 ≤ n) (hn : n < 36028797018963968) :
    impl_beOf.l0 (k + 1) n xs L i = impl_beOf.l0 k (n * 256 + rd xs i) xs L (i + 1) := by
  have hb := hx.byte i
  simp only [impl_beOf.l0]
  rw [if_pos h, if_pos h0, if_pos (by omega), or_be hn0 hn hb.1 hb.2, w64 (by omega) (by omega)]
theorem beOf_end (k : Nat) (n : Int) (xs : List Int) (L i : Int) (h : ¬ i < L) : impl_beOf.l0 (k + 1) n xs L i = some n := by
  simp only [impl_beOf.l0]
  rw [if_neg h]
theorem beOf2 {k : Nat} (hk : 10 ≤ k) {a b : Int} (hx : U8 [a, b]) : impl_beOf.f k [a, b] = some (a * 256 + b) := by
  obtain ⟨k, rfl⟩ : ∃ m, k = m + 3 := ⟨k - 3, by omega⟩
  have ha := hx a (by simp)
  have hb := hx b (by simp)
  unfold impl_beOf.f
  rw [beOf_step _ _ _ hx _ _ rfl (by decide) (by simp) (by simp) (by omega) (by omega)]
  rw [show rd [a, b] 0 = a from rfl]
  rw [beOf_step _ _ _ hx _ _ rfl (by decide) (by simp) (by simp) (by omega) (by omega)]
  rw [show rd [a, b] (0 + 1) = b from rfl]
  rw [beOf_end _ _ _ _ _ (by simp)]
  congr 1
  omega
theorem beOf4 {k : Nat} (hk : 10 ≤ k) {a b c d : Int} (hx : U8 [a, b, c, d]) : impl_beOf.f k [a, b, c, d] = some (((a * 256 + b) * 256 + c) * 256 + d) := by
  obtain ⟨k, rfl⟩ : ∃ m, k = m + 5 := ⟨k - 5, by omega⟩
  have ha := hx a (by simp)
  have hb := hx b (by simp)
  have hc := hx c (by simp)
  have hd := hx d (by simp)
  unfold impl_beOf.f
  rw [beOf_step _ _ _ hx _ _ rfl (by decide) (by simp) (by simp) (by omega) (by omega)]
  rw [show rd [a, b, c, d] 0 = a from rfl]
  rw [beOf_step _ _ _ hx _ _ rfl (by decide) (by simp) (by simp) (by omega) (by omega)]
  rw [show rd [a, b, c, d] (0 + 1) = b from rfl]
  rw [beOf_step _ _ _ hx _ _ rfl (by decide) (by simp) (by simp) (by omega) (by omega)]
  rw [show rd [a, b, c, d] (0 + 1 + 1) = c from rfl]
  rw [beOf_step _ _ _ hx _ _ rfl (by decide) (by simp) (by simp) (by omega) (by omega)]
  rw [show rd [a, b, c, d] (0 + 1 + 1 + 1) = d from rfl]
  rw [beOf_end _ _ _ _ _ (by simp)]
  congr 1
  omega
theorem beOf6 {k : Nat} (hk : 10 ≤ k) {a b c d e f : Int} (hx : U8 [a, b, c, d, e, f]) : impl_beOf.f k [a, b, c, d, e, f] = some ((a * 256 + b) * 4294967296 + (((c * 256 + d) * 256 + e) * 256 + f)) := by
  obtain ⟨k, rfl⟩ : ∃ m, k = m + 7 := ⟨k - 7, by omega⟩
  have ha := hx a (by simp)
  have hb := hx b (by simp)
  have hc := hx c (by simp)
  have hd := hx d (by simp)
  have he := hx e (by simp)
  have hf := hx f (by simp)
  unfold impl_beOf.f
  rw [beOf_step _ _ _ hx _ _ rfl (by decide) (by simp) (by simp) (by omega) (by omega)]
  rw [show rd [a, b, c, d, e, f] 0 = a from rfl]
  rw [beOf_step _ _ _ hx _ _ rfl (by decide) (by simp) (by simp) (by omega) (by omega)]
  rw [show rd [a, b, c, d, e, f] (0 + 1) = b from rfl]
  rw [beOf_step _ _ _ hx _ _ rfl (by decide) (by simp) (by simp) (by omega) (by omega)]
  rw [show rd [a, b, c, d, e, f] (0 + 1 + 1) = c from rfl]
  rw [beOf_step _ _ _ hx _ _ rfl (by decide) (by simp) (by simp) (by omega) (by omega)]
  rw [show rd [a, b, c, d, e, f] (0 + 1 + 1 + 1) = d from rfl]
  rw [beOf_step _ _ _ hx _ _ rfl (by decide) (by simp) (by simp) (by omega) (by omega)]
  rw [show rd [a, b, c, d, e, f] (0 + 1 + 1 + 1 + 1) = e from rfl]
  rw [beOf_step _ _ _ hx _ _ rfl (by decide) (by simp) (by simp) (by omega) (by omega)]
  rw [show rd [a, b, c, d, e, f] (0 + 1 + 1 + 1 + 1 + 1) = f from rfl]
  rw [beOf_end _ _ _ _ _ (by simp)]
  congr 1
  omega

theorem beOf2i {xs : List Int} (hx : U8 xs) {i j : Int} (h0 : 0 ≤ i) (hj : j = i + 2) (h : j ≤ xs.length) {k : Nat} (hk : 10 ≤ k) : impl_beOf.f k ((xs.take j.toNat).drop i.toNat) = some (be2 xs i) := by
  subst hj
  have h1 := hx.byte i
  have h2 := hx.byte (i + 1)
  rw [slice2 h0 h, beOf2 hk (U8.cons h1.1 h1.2 (U8.cons h2.1 h2.2 U8.nil))]
  rfl
theorem beOf4i {xs : List Int} (hx : U8 xs) {i j : Int} (h0 : 0 ≤ i) (hj : j = i + 4) (h : j ≤ xs.length) {k : Nat} (hk : 10 ≤ k) : impl_beOf.f k ((xs.take j.toNat).drop i.toNat) = some (be4 xs i) := by
  subst hj
  have h1 := hx.byte i
  have h2 := hx.byte (i + 1)
  have h3 := hx.byte (i + 2)
  have h4 := hx.byte (i + 3)
  rw [slice4 h0 h, beOf4 hk (U8.cons h1.1 h1.2 (U8.cons h2.1 h2.2 (U8.cons h3.1 h3.2 (U8.cons h4.1 h4.2 U8.nil))))]
  rfl
theorem beOf6i {xs : List Int} (hx : U8 xs) {i j : Int} (h0 : 0 ≤ i) (hj : j = i + 6) (h : j ≤ xs.length) {k : Nat} (hk : 10 ≤ k) : impl_beOf.f k ((xs.take j.toNat).drop i.toNat) = some (be6 xs i) := by
  subst hj
  have h1 := hx.byte i
  have h2 := hx.byte (i + 1)
  have h3 := hx.byte (i + 2)
  have h4 := hx.byte (i + 3)
  have h5 := hx.byte (i + 4)
  have h6 := hx.byte (i + 5)
  rw [slice6 h0 h, beOf6 hk (U8.cons h1.1 h1.2 (U8.cons h2.1 h2.2 (U8.cons h3.1 h3.2 (U8.cons h4.1 h4.2 (U8.cons h5.1 h5.2 (U8.cons h6.1 h6.2 U8.nil))))))]
  unfold be6 be2 be4
  rw [show i + 2 + 1 = i + 3 by omega, show i + 2 + 2 = i + 4 by omega, show i + 2 + 3 = i + 5 by omega]

theorem specBe16 {xs : List Int} (hx : U8 xs) (hn : xs.length ≤ 140737488355328) (a : Int) (_ha : -9223372036854775808 ≤ a ∧ a ≤ 9223372036854775807) :
    spec_Be16.f xs a = some (if 0 ≤ a ∧ a + 2 ≤ xs.length then (rd xs a * 256 + rd xs (a + 1), true) else (0, false)) := by
  unfold spec_Be16.f
  rw [w64 (by omega) (by omega)]
  by_cases h : 0 ≤ a ∧ a + 2 ≤ xs.length
  · have h1 := hx.byte a
    have h2 := hx.byte (a + 1)
    rw [if_pos h, if_neg (by omega), if_neg (by omega), if_pos (by omega), if_pos (by omega), w64 (n := a + 1) (by omega) (by omega), if_pos (by omega), if_pos (by omega),
      w64 (n := rd xs a) (by omega) (by omega), w64 (n := rd xs (a + 1)) (by omega) (by omega), w64 (n := 256 * rd xs a) (by omega) (by omega), w64 (by omega) (by omega), Int.mul_comm]
  · rw [if_neg h]
    by_cases h0 : a < 0
    · rw [if_pos h0]
    · rw [if_neg h0, if_pos (by omega)]

theorem specBe32_step (k : Nat) (xs : List Int) (hx : U8 xs) (a n i : Int) (h0 : 0 ≤ a) (hi : 0 ≤ i) (hi4 : i < 4) (h : a + 4 ≤ xs.length) (hn : xs.length ≤ 140737488355328) (hn0 : 0 ≤ n) (hn1 : n < 36028797018963968) :
    spec_Be32.l0 (k + 1) xs a n i = spec_Be32.l0 k xs a (n * 256 + rd xs (a + i)) (i + 1) := by
  have hb := hx.byte (a + i)
  simp only [spec_Be32.l0]
  rw [if_pos hi4, w64 (n := a + i) (by omega) (by omega), if_pos (by omega), if_pos (by omega), w64 (n := i + 1) (by omega) (by omega), w64 (n := rd xs (a + i)) (by omega) (by omega), w64 (n := 256 * n) (by omega) (by omega), w64 (by omega) (by omega), Int.mul_comm 256 n]
theorem specBe32 {xs : List Int} (hx : U8 xs) (hn : xs.length ≤ 140737488355328) (a : Int) (_ha : -9223372036854775808 ≤ a ∧ a ≤ 9223372036854775807) {k : Nat} (hk : 10 ≤ k) :
    spec_Be32.f k xs a = some (if 0 ≤ a ∧ a + 4 ≤ xs.length then (((rd xs a * 256 + rd xs (a + 1)) * 256 + rd xs (a + 2)) * 256 + rd xs (a + 3), true) else (0, false)) := by
  obtain ⟨k, rfl⟩ : ∃ m, k = m + 6 := ⟨k - 6, by omega⟩
  unfold spec_Be32.f
  rw [w64 (by omega) (by omega)]
  by_cases h : 0 ≤ a ∧ a + 4 ≤ xs.length
  · have h1 := hx.byte a
    have h2 := hx.byte (a + 1)
    have h3 := hx.byte (a + 2)
    have h4 := hx.byte (a + 3)
    rw [if_pos h, if_neg (by omega), decide_eq_false (by omega)]
    simp only [spec_Be32.j0]
    rw [if_neg (by decide)]
    rw [specBe32_step _ _ hx _ _ _ h.1 (by omega) (by omega) h.2 hn (by omega) (by omega), show a + 0 = a by omega, show (0 : Int) + 1 = 1 by rfl]
    rw [specBe32_step _ _ hx _ _ _ h.1 (by omega) (by omega) h.2 hn (by omega) (by omega), show (1 : Int) + 1 = 2 by rfl]
    rw [specBe32_step _ _ hx _ _ _ h.1 (by omega) (by omega) h.2 hn (by omega) (by omega), show (2 : Int) + 1 = 3 by rfl]
    rw [specBe32_step _ _ hx _ _ _ h.1 (by omega) (by omega) h.2 hn (by omega) (by omega), show (3 : Int) + 1 = 4 by rfl]
    simp only [spec_Be32.l0]
    rw [if_neg (by decide), show (0 : Int) * 256 + rd xs a = rd xs a by omega]
  · rw [if_neg h]
    by_cases h0 : a < 0
    · rw [if_pos h0]
      simp only [spec_Be32.j0]
      rw [if_pos (by first | rfl | trivial)]
    · rw [if_neg h0, decide_eq_true (by omega)]
      simp only [spec_Be32.j0]
      rw [if_pos (by first | rfl | trivial)]

theorem specEtherRead {xs : List Int} (hx : U8 xs) (hn : xs.length ≤ 140737488355327) {k : Nat} (hk : 10 ≤ k) : spec_EtherRead.f k xs = some (etherRead xs) := by
  unfold spec_EtherRead.f etherRead
  by_cases h1 : (xs.length : Int) > 1600
  · rw [if_pos h1, if_pos h1]
  · rw [if_neg h1, if_neg h1]
    by_cases h2 : (xs.length : Int) < 14
    · rw [if_pos h2, if_pos h2]
    · rw [if_neg h2, if_neg h2]
      have w0 := be2_word hx 0
      have w2 := be4_half hx 2
      have w6 := be2_word hx 6
      have w8 := be4_half hx 8
      rw [specBe16 hx (by omega) 0 (by omega), if_pos (by omega), specBe32 hx (by omega) 2 (by omega) hk, if_pos (by omega), specBe16 hx (by omega) 6 (by omega), if_pos (by omega), specBe32 hx (by omega) 8 (by omega) hk, if_pos (by omega), specBe16 hx (by omega) 12 (by omega), if_pos (by omega)]
      simp only [Option.bind_some]
      rw [show rd xs 0 * 256 + rd xs (0 + 1) = be2 xs 0 from rfl, show ((rd xs 2 * 256 + rd xs (2 + 1)) * 256 + rd xs (2 + 2)) * 256 + rd xs (2 + 3) = be4 xs 2 from rfl,
        show rd xs 6 * 256 + rd xs (6 + 1) = be2 xs 6 from rfl, show ((rd xs 8 * 256 + rd xs (8 + 1)) * 256 + rd xs (8 + 2)) * 256 + rd xs (8 + 3) = be4 xs 8 from rfl, show rd xs 12 * 256 + rd xs (12 + 1) = be2 xs 12 from rfl,
        w64 (n := be2 xs 0 * 4294967296) (by omega) (by omega), w64 (n := be2 xs 6 * 4294967296) (by omega) (by omega), w64 (n := be2 xs 0 * 4294967296 + be4 xs 2) (by omega) (by omega), w64 (n := be2 xs 6 * 4294967296 + be4 xs 8) (by omega) (by omega),
        show be2 xs 0 * 4294967296 + be4 xs 2 = be6 xs 0 from rfl, show be2 xs 6 * 4294967296 + be4 xs 8 = be6 xs 6 from rfl]
      by_cases h3 : be2 xs 12 = 33024
      · rw [if_pos h3, if_pos h3]
        by_cases h4 : (xs.length : Int) < 18
        · rw [if_pos h4, if_pos h4]
        · rw [if_neg h4, if_neg h4, specBe16 hx (by omega) 14 (by omega), if_pos (by omega), specBe16 hx (by omega) 16 (by omega), if_pos (by omega)]
          simp only [Option.bind_some]
          rw [show rd xs 14 * 256 + rd xs (14 + 1) = be2 xs 14 from rfl, show rd xs 16 * 256 + rd xs (16 + 1) = be2 xs 16 from rfl]
          by_cases h5 : be2 xs 16 < 1536
          · rw [if_pos h5, if_pos h5]
          · rw [if_neg h5, if_neg h5]
            by_cases h6 : be2 xs 16 = 33024
            · rw [if_pos h6, if_pos h6]
            · rw [if_neg h6, if_neg h6, if_pos (by omega), if_pos (by simp; omega), List.nil_append]
      · rw [if_neg h3, if_neg h3]
        by_cases h5 : be2 xs 12 < 1536
        · rw [if_pos h5, if_pos h5]
        · rw [if_neg h5, if_neg h5, if_pos (by omega), if_pos (by simp; omega), List.nil_append]
theorem implEther_j {k : Nat} (hk : 0 < k) (xs : List Int) (a b t n : Int) (hn : 0 ≤ n ∧ n ≤ 65535) (ht : -1 ≤ t) (h14 : t < 0 → 14 ≤ xs.length) (h18 : 0 ≤ t → 18 ≤ xs.length) (hl : xs.length ≤ 140737488355327) :
    impl_EtherRead.j0 k xs a b t n = some (if n < 1536 then (0, 0, 0, 0, [], 4) else if n = 33024 then (0, 0, 0, 0, [], 4) else (a, b, t, n, if t < 0 then xs.drop 14 else xs.drop 18, 0)) := by
  obtain ⟨k, rfl⟩ := pos_k hk
  simp only [impl_EtherRead.j0, impl_isKind.f, impl_within.f, impl_headOf.f, slices_Clone_byte_byte.f]
  by_cases h1 : n < 1536
  · rw [if_neg (by omega), if_pos h1]
    simp only [Option.bind_some]
    rw [if_neg Bool.false_ne_true]
    simp only [Option.bind_some]
    rw [if_neg Bool.false_ne_true]
  · rw [if_pos (by omega), if_neg h1, decide_eq_true (by omega)]
    simp only [Option.bind_some, if_true]
    by_cases h2 : n = 33024
    · subst h2
      rfl
    · rw [if_neg h2, bne_iff_ne.2 h2, if_pos rfl]
      by_cases h3 : t < 0
      · have := h14 h3
        rw [if_neg (by omega), if_pos h3]
        simp only [Option.bind_some]
        rw [if_pos (by omega), if_pos (by omega), if_pos (by rw [List.length_drop]; omega)]
        rfl
      · have := h18 (by omega)
        rw [if_pos (by omega), if_neg h3]
        simp only [Option.bind_some]
        rw [if_pos (by omega), if_pos (by omega), if_pos (by rw [List.length_drop]; omega)]
        rfl
theorem implEtherRead {xs : List Int} (hx : U8 xs) (hn : xs.length ≤ 140737488355327) {k : Nat} (hk : 10 ≤ k) : impl_EtherRead.f k xs = some (etherRead xs) := by
  unfold impl_EtherRead.f etherRead
  by_cases h1 : (xs.length : Int) > 1600
  · rw [if_pos h1, if_pos h1]
  · rw [if_neg h1, if_neg h1]
    by_cases h2 : (xs.length : Int) < 14
    · rw [if_pos h2, if_pos h2]
    · rw [if_neg h2, if_neg h2]
      have w12 := be2_word hx 12
      have w16 := be2_word hx 16
      have w14 := be2_word hx 14
      rw [if_pos (by omega), show impl_beOf.f k (xs.take 6) = some (be6 xs 0) from beOf6i hx (i := 0) (j := 6) (by omega) (by omega) (by omega) hk]
      simp only [Option.bind_some]
      rw [if_pos (by omega), if_pos (by omega), show impl_beOf.f k ((xs.take 12).drop 6) = some (be6 xs 6) from beOf6i hx (i := 6) (j := 12) (by omega) (by omega) (by omega) hk]
      simp only [Option.bind_some]
      rw [if_pos (by omega), if_pos (by omega), show impl_beOf.f k ((xs.take 14).drop 12) = some (be2 xs 12) from beOf2i hx (i := 12) (j := 14) (by omega) (by omega) (by omega) hk]
      simp only [Option.bind_some]
      by_cases h3 : be2 xs 12 = 33024
      · rw [if_pos h3, if_pos h3]
        by_cases h4 : (xs.length : Int) < 18
        · rw [if_pos h4, if_pos h4]
        · rw [if_neg h4, if_neg h4, if_pos (by omega), if_pos (by omega), show impl_beOf.f k ((xs.take 16).drop 14) = some (be2 xs 14) from beOf2i hx (i := 14) (j := 16) (by omega) (by omega) (by omega) hk]
          simp only [Option.bind_some]
          rw [if_pos (by omega), if_pos (by omega), show impl_beOf.f k ((xs.take 18).drop 16) = some (be2 xs 16) from beOf2i hx (i := 16) (j := 18) (by omega) (by omega) (by omega) hk]
          simp only [Option.bind_some]
          rw [implEther_j (by omega) xs _ _ _ _ w16 (by omega) (by omega) (by omega) hn, if_neg (show ¬ be2 xs 14 < 0 by omega)]
      · rw [if_neg h3, if_neg h3, implEther_j (by omega) xs _ _ _ _ w12 (by omega) (by omega) (by omega) hn, if_neg h3, if_pos (show (-1 : Int) < 0 by decide)]
theorem etherRead_len (xs : List Int) : (etherRead xs).2.2.2.2.1.length ≤ xs.length := by
  unfold etherRead
  repeat' split
  all_goals simp

end ExactEtherRead
open ExactEtherRead

theorem FnExactEtherRead : laws_FnExactEtherRead.Pure := by
  intro l0 _ hl hu
  have hx := U8.of_wf hu
  refine ⟨l0.length + 100, ?_⟩
  unfold laws_FnExactEtherRead.f
  by_cases h : (l0.length : Int) > 1048576
  · rw [if_pos h]
  · have hlen := etherRead_len l0
    have ht : ∀ j, 50 ≤ j → laws_toByteS.f (l0.length + j) l0 = some l0 := fun j hj => toByteS (by omega) (by omega)
    have hs : spec_EtherRead.f (l0.length + 100) l0 = some (etherRead l0) := specEtherRead hx (by omega) (by omega)
    have hi : ∀ j, 50 ≤ j → impl_EtherRead.f (l0.length + j) l0 = some (etherRead l0) := fun j hj => implEtherRead hx (by omega) (by omega)
    have hb : ∀ j, 50 ≤ j → laws_eqByteS.f (l0.length + j) l0 l0 = some true := fun j hj => eqByteS (by omega) (by omega)
    obtain ⟨z0, hm0, _, _⟩ := markByteS l0 (by omega) (m := 1) (by omega) (by omega) (k := l0.length + 99) (by omega)
    generalize etherRead l0 = r at hs hi hlen
    obtain ⟨r0, r1, r2, r3, r4, r5⟩ := r
    have he : ∀ j, 50 ≤ j → laws_eqEther.f (l0.length + j) r0 r1 r2 r3 r4 r0 r1 r2 r3 r4 = some true := fun j hj => eqEther r0 r1 r2 r3 r4 (by simp only at hlen; omega) (by simp only at hlen; omega)
    obtain ⟨zs, hm, hzl, hz⟩ := markByteS r4 (by simp only at hlen; omega) (m := 1) (by omega) (by omega) (k := l0.length + 98) (by simp only at hlen; omega)
    have hh : ∀ j, 50 ≤ j → laws_heldByteS.f (l0.length + j) zs 1 = some (1 + (r4.length : Int)) := fun j hj => by
      have := heldByteS hz (by simp only at hlen; omega) (by omega) (by omega) (k := l0.length + j) (by simp only at hlen; omega)
      rwa [hzl] at this
    have hp : ¬ ((1 : Int) + r4.length < 0) := by omega
    have hq : ¬ ((1 : Int) + l0.length < 0) := by omega
    rw [if_neg h]
    simp only [ht 100 (by omega), hs, hi 100 (by omega), Option.bind_some, he 100 (by omega), if_true, bne_self_eq_false, laws_FnExactEtherRead.j0, Bool.false_eq_true, if_false, ht 99 (by omega), hb 99 (by omega), hm0, if_neg hq, he 99 (by omega),
      laws_FnExactEtherRead.j1, laws_markEther.f, hm, laws_heldEther.f, hh 98 (by omega), if_neg hp, ht 98 (by omega), hi 98 (by omega), he 98 (by omega), laws_FnExactEtherRead.j2, hh 97 (by omega)]

end Go.Proofs.Ytnpfhfckkjkifaa.Pure
