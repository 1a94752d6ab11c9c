/- The program's SixRead returns what the reference's returns, for all arguments. No condition. -/
import Derived.Test.YtdbiejkaplndgaaGFnExactSixReadx
import Derived.Test.YtdbiejkaplndgaaZBaseFnExactSixRead
namespace Go.Proofs.Ytdbiejkaplndgaa.Pure
open Go.RowKit Go.Proofs.Ytdbiejkaplndgaa.FFnExactSixRead Go.Proofs.YtdbiejkaplndgaaW.PrintWords Go.Proofs.YtdbiejkaplndgaaW.PrintLast Go.Proofs.YtdbiejkaplndgaaW.PrintMore Go.Proofs.Ytdbiejkaplndgaa.Base

set_option linter.unusedVariables false
set_option linter.unusedSimpArgs false
namespace ExactSixRead
theorem eqAddr (k a b c d : Int) : laws_eqAddr.f k a b c d k a b c d = some true := by
  unfold laws_eqAddr.f
  simp only [if_true]

theorem toByteS_l (xs : List Int) (hn : xs.length ≤ 140737488355328) (d : Nat) : ∀ (k : Nat) (ys : List Int) (i : Int), 0 ≤ i → i + d = xs.length → d < k → ys.length = xs.length → (∀ j : Nat, (j : Int) < i → ys[j]? = xs[j]?) → laws_toByteS.l0 k xs ys i = some xs := by
  induction d with
  | zero =>
    intro k ys i h0 hi hk hl hj
    obtain ⟨k, rfl⟩ := pos_k hk
    simp only [laws_toByteS.l0]
    rw [if_neg (by omega)]
    congr 1
    apply List.ext_getElem?
    intro j
    by_cases h : (j : Int) < i
    · exact hj j h
    · rw [List.getElem?_eq_none (by omega), List.getElem?_eq_none (by omega)]
  | succ d ih =>
    intro k ys i h0 hi hk hl hj
    obtain ⟨k, rfl⟩ := pos_k hk
    simp only [laws_toByteS.l0]
    rw [if_pos (by omega), if_pos (by omega), if_pos (by omega), w64 (by omega) (by omega)]
    refine ih k _ (i + 1) (by omega) (by omega) (by omega) (by rw [List.length_set]; omega) ?_
    intro j hj'
    by_cases h : (j : Int) = i
    · have e : i.toNat = j := by omega
      rw [e, List.getElem?_set_self (by omega), ← h, ← rd_get? (by omega) (by omega)]
      rfl
    · rw [List.getElem?_set_ne (by omega)]
      exact hj j (by omega)
theorem toByteS {xs : List Int} (hn : xs.length ≤ 140737488355328) {k : Nat} (hk : xs.length < k) : laws_toByteS.f k xs = some xs := by
  unfold laws_toByteS.f
  rw [if_pos (by omega), if_pos (by omega)]
  exact toByteS_l xs hn xs.length k _ 0 (by omega) (by omega) hk (by simp) (fun j hj => by omega)

theorem eqByteS_l (xs : List Int) (hn : xs.length ≤ 140737488355328) (d : Nat) : ∀ (k : Nat) (i : Int), 0 ≤ i → i + d = xs.length → d < k → laws_eqByteS.l0 k xs xs i = some true := by
  induction d with
  | zero =>
    intro k i h0 hi hk
    obtain ⟨k, rfl⟩ := pos_k hk
    simp only [laws_eqByteS.l0]
    rw [if_neg (by omega)]
  | succ d ih =>
    intro k i h0 hi hk
    obtain ⟨k, rfl⟩ := pos_k hk
    simp only [laws_eqByteS.l0]
    rw [if_pos (by omega), if_pos (by omega), if_pos (by omega), if_pos (by first | rfl | trivial), w64 (by omega) (by omega)]
    exact ih k (i + 1) (by omega) (by omega) (by omega)
theorem eqByteS {xs : List Int} (hn : xs.length ≤ 140737488355328) {k : Nat} (hk : xs.length < k) : laws_eqByteS.f k xs xs = some true := by
  unfold laws_eqByteS.f
  rw [if_pos rfl]
  exact eqByteS_l xs hn xs.length k 0 (by omega) (by omega) hk

theorem markByteS_l (d : Nat) : ∀ (k : Nat) (ys : List Int) (m i : Int), 0 ≤ i → i + d = ys.length → d < k → 0 ≤ m → ys.length ≤ 140737488355328 → m + d ≤ 281474976710656 →
    ∃ zs, laws_markByteS.l0 k ys m i = some (m + d, zs) ∧ zs.length = ys.length ∧ (∀ j : Nat, (j : Int) < i → zs[j]? = ys[j]?) ∧ (∀ j : Nat, i ≤ j → j < ys.length → zs[j]? = some ((m + (j - i)) % 256)) := by
  induction d with
  | zero =>
    intro k ys m i h0 hi hk hm hl hb
    obtain ⟨k, rfl⟩ := pos_k hk
    refine ⟨ys, ?_, rfl, fun _ _ => rfl, fun j h1 h2 => by omega⟩
    simp only [laws_markByteS.l0]
    rw [if_neg (by omega), show m + ((0 : Nat) : Int) = m by omega]
  | succ d ih =>
    intro k ys m i h0 hi hk hm hl hb
    obtain ⟨k, rfl⟩ := pos_k hk
    obtain ⟨zs, h1, h2, h3, h4⟩ := ih k (ys.set i.toNat (m % 256)) (m + 1) (i + 1) (by omega) (by rw [List.length_set]; omega) (by omega) (by omega) (by rw [List.length_set]; omega) (by omega)
    rw [List.length_set] at h2 h4
    refine ⟨zs, ?_, h2, ?_, ?_⟩
    · simp only [laws_markByteS.l0]
      rw [if_pos (by omega), if_pos (by omega), w64 (by omega) (by omega), w64 (by omega) (by omega), h1]
      congr 2
      omega
    · intro j hj
      rw [h3 j (by omega), List.getElem?_set_ne (by omega)]
    · intro j hj hj'
      by_cases h : (j : Int) = i
      · rw [h3 j (by omega), show i.toNat = j by omega, List.getElem?_set_self (by omega), h, show m + (i - i) = m by omega]
      · rw [h4 j (by omega) hj', show m + 1 + ((j : Int) - (i + 1)) = m + (j - i) by omega]
/-- What marking leaves reads as marked. -/
def Marked (zs : List Int) (m : Int) : Prop := ∀ j : Nat, j < zs.length → zs[j]? = some ((m + j) % 256)
theorem markByteS (ys : List Int) (hl : ys.length ≤ 140737488355328) {m : Int} (h0 : 0 ≤ m) (h1 : m ≤ 140737488355328) {k : Nat} (hk : ys.length < k) :
    ∃ zs, laws_markByteS.f k ys m = some (m + ys.length, zs) ∧ zs.length = ys.length ∧ Marked zs m := by
  obtain ⟨zs, h1, h2, h3, h4⟩ := markByteS_l ys.length k ys m 0 (by omega) (by omega) hk h0 hl (by omega)
  refine ⟨zs, h1, h2, fun j hj => ?_⟩
  rw [h4 j (by omega) (by omega), show m + ((j : Int) - 0) = m + j by omega]

theorem heldByteS_l (d : Nat) (zs : List Int) (m0 : Int) (hz : Marked zs m0) : ∀ (k : Nat) (m i : Int), 0 ≤ i → i + d = zs.length → d < k → 0 ≤ m → m = m0 + i → zs.length ≤ 140737488355328 → m + d ≤ 281474976710656 →
    laws_heldByteS.l0 k zs m i = some (m + d) := by
  induction d with
  | zero =>
    intro k m i h0 hi hk hm he hl hb
    obtain ⟨k, rfl⟩ := pos_k hk
    simp only [laws_heldByteS.l0]
    rw [if_neg (by omega), show m + ((0 : Nat) : Int) = m by omega]
  | succ d ih =>
    intro k m i h0 hi hk hm he hl hb
    obtain ⟨k, rfl⟩ := pos_k hk
    have hr : rd zs i = m % 256 := by
      have h1 := rd_get? h0 (show i < zs.length by omega)
      rw [hz i.toNat (by omega)] at h1
      rw [← Option.some.inj h1, he, show ((i.toNat : Nat) : Int) = i by omega]
    simp only [laws_heldByteS.l0]
    rw [if_pos (by omega), if_pos (by omega), if_pos hr, w64 (by omega) (by omega), w64 (by omega) (by omega), ih k (m + 1) (i + 1) (by omega) (by omega) (by omega) (by omega) (by omega) (by omega) (by omega)]
    congr 1
    omega
theorem heldByteS {zs : List Int} {m : Int} (hz : Marked zs m) (hl : zs.length ≤ 140737488355328) (h0 : 0 ≤ m) (h1 : m ≤ 140737488355328) {k : Nat} (hk : zs.length < k) : laws_heldByteS.f k zs m = some (m + zs.length) :=
  heldByteS_l zs.length zs m hz k m 0 (by omega) (by omega) hk h0 (by omega) hl (by omega)

theorem rdi_get? {xs : List S69} {i : Int} (h0 : 0 ≤ i) (h : i < xs.length) : xs[i.toNat]? = some (rd_T69 xs i) := by
  unfold rd_T69
  rw [List.getD_eq_getElem?_getD, List.getElem?_eq_getElem (by omega)]
  rfl
theorem rdi_mem {xs : List S69} {i : Int} (h0 : 0 ≤ i) (h : i < xs.length) : rd_T69 xs i ∈ xs := List.mem_of_getElem? (rdi_get? h0 h)
theorem rdi_at (A R : List S69) (x : S69) {i : Int} (hi : i = A.length) : rd_T69 (A ++ x :: R) i = x := by
  unfold rd_T69
  rw [List.getD_eq_getElem?_getD, List.getElem?_append_right (by omega), show i.toNat - A.length = 0 by omega]
  rfl
theorem eqExtS_l (xs : List S69) (hn : xs.length ≤ 1048576) (hx : ∀ n ∈ xs, n.f1.length ≤ 1048576) (d : Nat) : ∀ (k : Nat) (i : Int), 0 ≤ i → i + d = xs.length → d + 1048577 < k → laws_eqExtS.l0 k xs xs i = some true := by
  induction d with
  | zero =>
    intro k i h0 hi hk
    obtain ⟨k, rfl⟩ := pos_k hk
    simp only [laws_eqExtS.l0]
    rw [if_neg (by omega)]
  | succ d ih =>
    intro k i h0 hi hk
    obtain ⟨k, rfl⟩ := pos_k hk
    have hm := hx _ (rdi_mem h0 (show i < xs.length by omega))
    simp only [laws_eqExtS.l0]
    rw [if_pos (by omega), if_pos (by omega), if_pos (by omega)]
    unfold laws_eqExt.f
    rw [if_pos rfl, eqByteS (by omega) (by omega)]
    simp only [Option.bind_some, if_true]
    rw [w64 (by omega) (by omega)]
    exact ih k (i + 1) (by omega) (by omega) (by omega)
theorem eqSix (a0 a1 a2 a3 a4 a5 a6 a7 a8 a9 a10 a11 a12 a13 : Int) (l : List S69) (m : List Int) (hl : l.length ≤ 1048576) (hx : ∀ n ∈ l, n.f1.length ≤ 1048576) (hm : m.length ≤ 1048576) {k : Nat} (hk : 3000000 ≤ k) :
    laws_eqSix.f k a0 a1 a2 a3 a4 a5 a6 a7 a8 a9 a10 a11 a12 a13 l m a0 a1 a2 a3 a4 a5 a6 a7 a8 a9 a10 a11 a12 a13 l m = some true := by
  have h1 : laws_eqExtS.f k l l = some true := by
    unfold laws_eqExtS.f
    rw [if_pos rfl]
    exact eqExtS_l l hl hx l.length k 0 (by omega) (by omega) (by omega)
  unfold laws_eqSix.f
  simp only [if_true, eqAddr, h1, eqByteS (xs := m) (by omega) (k := k) (by omega), Option.bind_some]

theorem beOf_step (k : Nat) (n : Int) (xs : List Int) (hx : U8 xs) (L i : Int) (hL : L = xs.length) (h0 : 0 ≤ i) (h : i < L) (hl : L ≤ 100) (hn0 : 0 ≤ n) (hn : n < 36028797018963968) :
    impl_beOf.l0 (k + 1) n xs L i = impl_beOf.l0 k (n * 256 + rd xs i) xs L (i + 1) := by
  have hb := hx.byte i
  simp only [impl_beOf.l0]
  rw [if_pos h, if_pos h0, if_pos (by omega), or_be hn0 hn hb.1 hb.2, w64 (by omega) (by omega)]
theorem beOf_end (k : Nat) (n : Int) (xs : List Int) (L i : Int) (h : ¬ i < L) : impl_beOf.l0 (k + 1) n xs L i = some n := by
  simp only [impl_beOf.l0]
  rw [if_neg h]
theorem beOf2 {k : Nat} (hk : 10 ≤ k) {a b : Int} (hx : U8 [a, b]) : impl_beOf.f k [a, b] = some (a * 256 + b) := by
  obtain ⟨k, rfl⟩ : ∃ m, k = m + 3 := ⟨k - 3, by omega⟩
  have ha := hx a (by simp)
  have hb := hx b (by simp)
  unfold impl_beOf.f
  rw [beOf_step _ _ _ hx _ _ rfl (by decide) (by simp) (by simp) (by omega) (by omega)]
  rw [show rd [a, b] 0 = a from rfl]
  rw [beOf_step _ _ _ hx _ _ rfl (by decide) (by simp) (by simp) (by omega) (by omega)]
  rw [show rd [a, b] (0 + 1) = b from rfl]
  rw [beOf_end _ _ _ _ _ (by simp)]
  congr 1
  omega
theorem beOf4 {k : Nat} (hk : 10 ≤ k) {a b c d : Int} (hx : U8 [a, b, c, d]) : impl_beOf.f k [a, b, c, d] = some (((a * 256 + b) * 256 + c) * 256 + d) := by
  obtain ⟨k, rfl⟩ : ∃ m, k = m + 5 := ⟨k - 5, by omega⟩
  have ha := hx a (by simp)
  have hb := hx b (by simp)
  have hc := hx c (by simp)
  have hd := hx d (by simp)
  unfold impl_beOf.f
  rw [beOf_step _ _ _ hx _ _ rfl (by decide) (by simp) (by simp) (by omega) (by omega)]
  rw [show rd [a, b, c, d] 0 = a from rfl]
  rw [beOf_step _ _ _ hx _ _ rfl (by decide) (by simp) (by simp) (by omega) (by omega)]
  rw [show rd [a, b, c, d] (0 + 1) = b from rfl]
  rw [beOf_step _ _ _ hx _ _ rfl (by decide) (by simp) (by simp) (by omega) (by omega)]
  rw [show rd [a, b, c, d] (0 + 1 + 1) = c from rfl]
  rw [beOf_step _ _ _ hx _ _ rfl (by decide) (by simp) (by simp) (by omega) (by omega)]
  rw [show rd [a, b, c, d] (0 + 1 + 1 + 1) = d from rfl]
  rw [beOf_end _ _ _ _ _ (by simp)]
  congr 1
  omega
theorem beOf6 {k : Nat} (hk : 10 ≤ k) {a b c d e f : Int} (hx : U8 [a, b, c, d, e, f]) : impl_beOf.f k [a, b, c, d, e, f] = some ((a * 256 + b) * 4294967296 + (((c * 256 + d) * 256 + e) * 256 + f)) := by
  obtain ⟨k, rfl⟩ : ∃ m, k = m + 7 := ⟨k - 7, by omega⟩
  have ha := hx a (by simp)
  have hb := hx b (by simp)
  have hc := hx c (by simp)
  have hd := hx d (by simp)
  have he := hx e (by simp)
  have hf := hx f (by simp)
  unfold impl_beOf.f
  rw [beOf_step _ _ _ hx _ _ rfl (by decide) (by simp) (by simp) (by omega) (by omega)]
  rw [show rd [a, b, c, d, e, f] 0 = a from rfl]
  rw [beOf_step _ _ _ hx _ _ rfl (by decide) (by simp) (by simp) (by omega) (by omega)]
  rw [show rd [a, b, c, d, e, f] (0 + 1) = b from rfl]
  rw [beOf_step _ _ _ hx _ _ rfl (by decide) (by simp) (by simp) (by omega) (by omega)]
  rw [show rd [a, b, c, d, e, f] (0 + 1 + 1) = c from rfl]
  rw [beOf_step _ _ _ hx _ _ rfl (by decide) (by simp) (by simp) (by omega) (by omega)]
  rw [show rd [a, b, c, d, e, f] (0 + 1 + 1 + 1) = d from rfl]
  rw [beOf_step _ _ _ hx _ _ rfl (by decide) (by simp) (by simp) (by omega) (by omega)]
  rw [show rd [a, b, c, d, e, f] (0 + 1 + 1 + 1 + 1) = e from rfl]
  rw [beOf_step _ _ _ hx _ _ rfl (by decide) (by simp) (by simp) (by omega) (by omega)]
  rw [show rd [a, b, c, d, e, f] (0 + 1 + 1 + 1 + 1 + 1) = f from rfl]
  rw [beOf_end _ _ _ _ _ (by simp)]
  congr 1
  omega

theorem beOf2i {xs : List Int} (hx : U8 xs) {i j : Int} (h0 : 0 ≤ i) (hj : j = i + 2) (h : j ≤ xs.length) {k : Nat} (hk : 10 ≤ k) : impl_beOf.f k ((xs.take j.toNat).drop i.toNat) = some (be2 xs i) := by
  subst hj
  have h1 := hx.byte i
  have h2 := hx.byte (i + 1)
  rw [slice2 h0 h, beOf2 hk (U8.cons h1.1 h1.2 (U8.cons h2.1 h2.2 U8.nil))]
  rfl
theorem beOf4i {xs : List Int} (hx : U8 xs) {i j : Int} (h0 : 0 ≤ i) (hj : j = i + 4) (h : j ≤ xs.length) {k : Nat} (hk : 10 ≤ k) : impl_beOf.f k ((xs.take j.toNat).drop i.toNat) = some (be4 xs i) := by
  subst hj
  have h1 := hx.byte i
  have h2 := hx.byte (i + 1)
  have h3 := hx.byte (i + 2)
  have h4 := hx.byte (i + 3)
  rw [slice4 h0 h, beOf4 hk (U8.cons h1.1 h1.2 (U8.cons h2.1 h2.2 (U8.cons h3.1 h3.2 (U8.cons h4.1 h4.2 U8.nil))))]
  rfl
theorem beOf6i {xs : List Int} (hx : U8 xs) {i j : Int} (h0 : 0 ≤ i) (hj : j = i + 6) (h : j ≤ xs.length) {k : Nat} (hk : 10 ≤ k) : impl_beOf.f k ((xs.take j.toNat).drop i.toNat) = some (be6 xs i) := by
  subst hj
  have h1 := hx.byte i
  have h2 := hx.byte (i + 1)
  have h3 := hx.byte (i + 2)
  have h4 := hx.byte (i + 3)
  have h5 := hx.byte (i + 4)
  have h6 := hx.byte (i + 5)
  rw [slice6 h0 h, beOf6 hk (U8.cons h1.1 h1.2 (U8.cons h2.1 h2.2 (U8.cons h3.1 h3.2 (U8.cons h4.1 h4.2 (U8.cons h5.1 h5.2 (U8.cons h6.1 h6.2 U8.nil))))))]
  unfold be6 be2 be4
  rw [show i + 2 + 1 = i + 3 by omega, show i + 2 + 2 = i + 4 by omega, show i + 2 + 3 = i + 5 by omega]

theorem specBe16 {xs : List Int} (hx : U8 xs) (hn : xs.length ≤ 140737488355328) (a : Int) (_ha : -9223372036854775808 ≤ a ∧ a ≤ 9223372036854775807) :
    spec_Be16.f xs a = some (if 0 ≤ a ∧ a + 2 ≤ xs.length then (rd xs a * 256 + rd xs (a + 1), true) else (0, false)) := by
  unfold spec_Be16.f
  rw [w64 (by omega) (by omega)]
  by_cases h : 0 ≤ a ∧ a + 2 ≤ xs.length
  · have h1 := hx.byte a
    have h2 := hx.byte (a + 1)
    rw [if_pos h, if_neg (by omega), if_neg (by omega), if_pos (by omega), if_pos (by omega), w64 (n := a + 1) (by omega) (by omega), if_pos (by omega), if_pos (by omega),
      w64 (n := rd xs a) (by omega) (by omega), w64 (n := rd xs (a + 1)) (by omega) (by omega), w64 (n := 256 * rd xs a) (by omega) (by omega), w64 (by omega) (by omega), Int.mul_comm]
  · rw [if_neg h]
    by_cases h0 : a < 0
    · rw [if_pos h0]
    · rw [if_neg h0, if_pos (by omega)]

theorem specBe32_step (k : Nat) (xs : List Int) (hx : U8 xs) (a n i : Int) (h0 : 0 ≤ a) (hi : 0 ≤ i) (hi4 : i < 4) (h : a + 4 ≤ xs.length) (hn : xs.length ≤ 140737488355328) (hn0 : 0 ≤ n) (hn1 : n < 36028797018963968) :
    spec_Be32.l0 (k + 1) xs a n i = spec_Be32.l0 k xs a (n * 256 + rd xs (a + i)) (i + 1) := by
  have hb := hx.byte (a + i)
  simp only [spec_Be32.l0]
  rw [if_pos hi4, w64 (n := a + i) (by omega) (by omega), if_pos (by omega), if_pos (by omega), w64 (n := i + 1) (by omega) (by omega), w64 (n := rd xs (a + i)) (by omega) (by omega), w64 (n := 256 * n) (by omega) (by omega), w64 (by omega) (by omega), Int.mul_comm 256 n]
theorem specBe32 {xs : List Int} (hx : U8 xs) (hn : xs.length ≤ 140737488355328) (a : Int) (_ha : -9223372036854775808 ≤ a ∧ a ≤ 9223372036854775807) {k : Nat} (hk : 10 ≤ k) :
    spec_Be32.f k xs a = some (if 0 ≤ a ∧ a + 4 ≤ xs.length then (((rd xs a * 256 + rd xs (a + 1)) * 256 + rd xs (a + 2)) * 256 + rd xs (a + 3), true) else (0, false)) := by
  obtain ⟨k, rfl⟩ : ∃ m, k = m + 6 := ⟨k - 6, by omega⟩
  unfold spec_Be32.f
  rw [w64 (by omega) (by omega)]
  by_cases h : 0 ≤ a ∧ a + 4 ≤ xs.length
  · have h1 := hx.byte a
    have h2 := hx.byte (a + 1)
    have h3 := hx.byte (a + 2)
    have h4 := hx.byte (a + 3)
    rw [if_pos h, if_neg (by omega), if_neg (by omega)]
    rw [specBe32_step _ _ hx _ _ _ h.1 (by omega) (by omega) h.2 hn (by omega) (by omega), show a + 0 = a by omega, show (0 : Int) + 1 = 1 by rfl]
    rw [specBe32_step _ _ hx _ _ _ h.1 (by omega) (by omega) h.2 hn (by omega) (by omega), show (1 : Int) + 1 = 2 by rfl]
    rw [specBe32_step _ _ hx _ _ _ h.1 (by omega) (by omega) h.2 hn (by omega) (by omega), show (2 : Int) + 1 = 3 by rfl]
    rw [specBe32_step _ _ hx _ _ _ h.1 (by omega) (by omega) h.2 hn (by omega) (by omega), show (3 : Int) + 1 = 4 by rfl]
    simp only [spec_Be32.l0]
    rw [if_neg (by decide), show (0 : Int) * 256 + rd xs a = rd xs a by omega]
  · rw [if_neg h]
    by_cases h0 : a < 0
    · rw [if_pos h0]
    · rw [if_neg h0, if_pos (by omega)]

theorem implAddrOf {xs : List Int} (hx : U8 xs) {k : Nat} (hk : 10 ≤ k) : impl_AddrOf.f k xs = some (addrOf xs) := by
  unfold impl_AddrOf.f addrOf
  by_cases h4 : (xs.length : Int) = 4
  · have h := beOf4i hx (i := 0) (j := 4) (by omega) (by omega) (by omega) hk
    rw [List.take_of_length_le (by omega)] at h
    rw [if_pos h4, if_pos h4, show impl_beOf.f k xs = some (be4 xs 0) from h]
    rfl
  · rw [if_neg h4, if_neg h4]
    by_cases h16 : (xs.length : Int) = 16
    · have h := beOf4i hx (i := 12) (j := 16) (by omega) (by omega) (by omega) hk
      rw [List.take_of_length_le (by omega)] at h
      rw [if_pos h16, if_pos h16, if_pos (by omega), show impl_beOf.f k (xs.take 4) = some (be4 xs 0) from beOf4i hx (i := 0) (j := 4) (by omega) (by omega) (by omega) hk]
      simp only [Option.bind_some]
      rw [if_pos (by omega), if_pos (by omega), show impl_beOf.f k ((xs.take 8).drop 4) = some (be4 xs 4) from beOf4i hx (i := 4) (j := 8) (by omega) (by omega) (by omega) hk]
      simp only [Option.bind_some]
      rw [if_pos (by omega), if_pos (by omega), show impl_beOf.f k ((xs.take 12).drop 8) = some (be4 xs 8) from beOf4i hx (i := 8) (j := 12) (by omega) (by omega) (by omega) hk, show impl_beOf.f k (xs.drop 12) = some (be4 xs 12) from h]
      rfl
    · rw [if_neg h16, if_neg h16]

theorem specAddrOf {xs : List Int} (hx : U8 xs) (hn : xs.length ≤ 140737488355328) {k : Nat} (hk : 10 ≤ k) : spec_AddrOf.f k xs = some (addrOf xs) := by
  unfold spec_AddrOf.f addrOf be4
  by_cases h4 : (xs.length : Int) = 4
  · rw [if_pos h4, if_pos h4, specBe32 hx hn 0 (by omega) hk, if_pos (by omega)]
    rfl
  · rw [if_neg h4, if_neg h4]
    by_cases h16 : (xs.length : Int) = 16
    · rw [if_pos h16, if_pos h16, specBe32 hx hn 0 (by omega) hk, if_pos (by omega), specBe32 hx hn 4 (by omega) hk, if_pos (by omega), specBe32 hx hn 8 (by omega) hk, if_pos (by omega), specBe32 hx hn 12 (by omega) hk, if_pos (by omega)]
      rfl
    · rw [if_neg h16, if_neg h16]

def kindB (n : Int) : Bool := n == 0 || (n == 43 || n == 60)
theorem specInner (n : Int) : spec_l06Inner.f n = some (kindB n) := by
  unfold spec_l06Inner.f kindB
  by_cases h : n = 0
  · rw [if_pos h, h]; rfl
  · rw [if_neg h]
    by_cases h1 : n = 43
    · rw [if_pos h1, h1]; rfl
    · rw [if_neg h1, beq_eq_false_iff_ne.mpr h, beq_eq_false_iff_ne.mpr h1, Bool.false_or, Bool.false_or]
theorem implKind (n : Int) : impl_isExtKind.f n = some (kindB n) := by
  unfold impl_isExtKind.f kindB
  by_cases h : n = 0
  · rw [if_pos h, h]; rfl
  · rw [if_neg h]
    by_cases h1 : n = 43
    · rw [if_pos h1, h1]; rfl
    · rw [if_neg h1, beq_eq_false_iff_ne.mpr h, beq_eq_false_iff_ne.mpr h1, Bool.false_or, Bool.false_or]
def sz0 (c : Int) : Int × Int × Int × Int × Int × Int × Int × Int × Int × Int × Int × Int × Int × Int × List S69 × List Int × List Int × Int := (0, 0, 0, 0, 0, 0, 0, 0, 0, 0, 0, 0, 0, 0, ([] : List S69), ([] : List Int), ([] : List Int), c)
/-- What walking the extensions answers: those read, the kind behind them, and where the body begins. -/
def sixWalk (l : List Int) (s : Int) : Nat → Int → Int → List S69 → Option (List S69 × Int × Int)
  | 0, _, _, _ => none
  | j + 1, kd, at_, es =>
    if kindB kd = true then
      if (es.length : Int) = 3 then none
      else if kd = 0 ∧ (es.length : Int) > 0 then none
      else if at_ + 2 > s then none
      else if rd l (at_ + 1) > 7 then none
      else if at_ + 8 * rd l (at_ + 1) + 8 > s then none
      else sixWalk l s j (rd l at_) (at_ + 8 * rd l (at_ + 1) + 8) (es ++ [⟨kd, (l.take (at_ + 8 * rd l (at_ + 1) + 8).toNat).drop (at_ + 2).toNat⟩])
    else some (es, kd, at_)
theorem sixWalk_len (l : List Int) (s : Int) : ∀ (j : Nat) (kd at_ : Int) (es : List S69) (es' : List S69) (kd' at' : Int), sixWalk l s j kd at_ es = some (es', kd', at') → (∀ x ∈ es, x.f1.length ≤ l.length) → es'.length ≤ es.length + j ∧ (∀ x ∈ es', x.f1.length ≤ l.length) := by
  intro j
  induction j with
  | zero => intro kd at_ es es' kd' at' h _; simp [sixWalk] at h
  | succ j ih =>
    intro kd at_ es es' kd' at' h hx
    unfold sixWalk at h
    split at h
    · split at h
      · cases h
      · split at h
        · cases h
        · split at h
          · cases h
          · split at h
            · cases h
            · split at h
              · cases h
              · obtain ⟨h1, h2⟩ := ih _ _ _ _ _ _ h (fun x hx' => by
                  rcases List.mem_append.1 hx' with hx' | hx'
                  · exact hx x hx'
                  · rw [List.mem_singleton.1 hx']
                    show ((l.take _).drop _).length ≤ _
                    rw [List.length_drop, List.length_take]
                    omega)
                refine ⟨?_, h2⟩
                rw [List.length_append] at h1
                simp only [List.length_cons, List.length_nil] at h1
                omega
    · cases h
      exact ⟨by omega, hx⟩
def sixOut (l : List Int) (s : Int) (c0 c1 c2 c3 c4 c5 c6 c7 c8 c9 c10 c11 c12 c13 : Int) : Option (List S69 × Int × Int) → Int × Int × Int × Int × Int × Int × Int × Int × Int × Int × Int × Int × Int × Int × List S69 × List Int × List Int × Int
  | none => sz0 5
  | some (es, kd, at_) => (c0, c1, c2, kd, c4, c5, c6, c7, c8, c9, c10, c11, c12, c13, es, (l.take s.toNat).drop at_.toNat, l.drop s.toNat, 0)
theorem specLoop {l : List Int} (hx : U8 l) {s : Int} (h40 : 40 ≤ s) (hsl : s ≤ l.length) (hn : l.length ≤ 1600) (c0 c1 c2 c3 c4 c5 c6 c7 c8 c9 c10 c11 c12 c13 : Int) : ∀ (j k : Nat) (kd at_ : Int) (es : List S69), es.length + j = 3 → j + 1 < k → 40 ≤ at_ → at_ ≤ s →
    spec_SixRead.l0 k l s kd at_ c0 c1 c2 c3 c4 c5 c6 c7 c8 c9 c10 c11 c12 c13 es = some (sixOut l s c0 c1 c2 c3 c4 c5 c6 c7 c8 c9 c10 c11 c12 c13 (sixWalk l s (j + 1) kd at_ es)) := by
  intro j
  induction j with
  | zero =>
    intro k kd at_ es he hk h1 h2
    obtain ⟨k, rfl⟩ := pos_k hk
    simp only [spec_SixRead.l0]
    unfold sixWalk
    rw [specInner, Option.bind_some]
    by_cases hb : kindB kd = true
    · rw [if_pos hb, if_pos hb, if_pos (show (es.length : Int) = 3 by omega), if_pos (show (es.length : Int) = 3 by omega)]
      rfl
    · rw [if_neg hb, if_neg hb, Option.bind_some, if_pos (by omega), if_pos h2, if_pos hsl, if_pos (by rw [List.length_drop, List.length_take, List.length_nil]; omega), Option.bind_some, if_pos (by omega), if_pos (by rw [List.length_drop, List.length_nil]; omega)]
      rfl
  | succ j ih =>
    intro k kd at_ es he hk h1 h2
    obtain ⟨k, rfl⟩ := pos_k hk
    simp only [spec_SixRead.l0]
    rw [show sixWalk l s (j + 1 + 1) kd at_ es = (if kindB kd = true then
      if (es.length : Int) = 3 then none
      else if kd = 0 ∧ (es.length : Int) > 0 then none
      else if at_ + 2 > s then none
      else if rd l (at_ + 1) > 7 then none
      else if at_ + 8 * rd l (at_ + 1) + 8 > s then none
      else sixWalk l s (j + 1) (rd l at_) (at_ + 8 * rd l (at_ + 1) + 8) (es ++ [⟨kd, (l.take (at_ + 8 * rd l (at_ + 1) + 8).toNat).drop (at_ + 2).toNat⟩])
    else some (es, kd, at_)) from rfl]
    rw [specInner, Option.bind_some]
    by_cases hb : kindB kd = true
    · rw [if_pos hb, if_pos hb, if_neg (show ¬ (es.length : Int) = 3 by omega), if_neg (show ¬ (es.length : Int) = 3 by omega)]
      have b0 := hx.byte at_
      have b1 := hx.byte (at_ + 1)
      rw [w64 (n := at_ + 1) (by omega) (by omega), w64 (n := at_ + 2) (by omega) (by omega), w64 (n := rd l (at_ + 1)) (by omega) (by omega), w64 (n := 8 * rd l (at_ + 1)) (by omega) (by omega), w64 (n := at_ + 8 * rd l (at_ + 1)) (by omega) (by omega), w64 (n := at_ + 8 * rd l (at_ + 1) + 8) (by omega) (by omega), w64 (n := rd l at_) (by omega) (by omega)]
      by_cases h0 : kd = 0 ∧ (es.length : Int) > 0
      · rw [if_pos h0, if_pos h0.1, if_pos h0.2]
        rfl
      · rw [if_neg h0]
        rcases Decidable.em (kd = 0) with h3 | h3
        · rw [if_pos h3, if_neg (fun h => h0 ⟨h3, h⟩)]
          by_cases c1 : at_ + 2 > s
          · rw [if_pos c1, if_pos c1]; rfl
          · rw [if_neg c1, if_neg c1, if_pos (show 0 ≤ at_ + 1 by omega), if_pos (show at_ + 1 < (l.length : Int) by omega)]
            by_cases c2 : rd l (at_ + 1) > 7
            · rw [if_pos c2, if_pos c2]; rfl
            · rw [if_neg c2, if_neg c2]
              by_cases c3 : at_ + 8 * rd l (at_ + 1) + 8 > s
              · rw [if_pos c3, if_pos c3]; rfl
              · rw [if_neg c3, if_neg c3, Option.bind_some, if_pos (show 0 ≤ at_ + 2 by omega), if_pos (show at_ + 2 ≤ at_ + 8 * rd l (at_ + 1) + 8 by omega), if_pos (show at_ + 8 * rd l (at_ + 1) + 8 ≤ (l.length : Int) by omega), if_pos (by rw [List.length_drop, List.length_take, List.length_nil]; omega), if_pos (show es.length < 4398046511104 by omega), if_pos (show 0 ≤ at_ by omega), if_pos (show at_ < (l.length : Int) by omega), List.nil_append,
                  ih k _ _ _ (by rw [List.length_append]; simp only [List.length_cons, List.length_nil]; omega) (by omega) (by omega) (by omega)]
        · rw [if_neg h3]
          by_cases c1 : at_ + 2 > s
          · rw [if_pos c1, if_pos c1]; rfl
          · rw [if_neg c1, if_neg c1, if_pos (show 0 ≤ at_ + 1 by omega), if_pos (show at_ + 1 < (l.length : Int) by omega)]
            by_cases c2 : rd l (at_ + 1) > 7
            · rw [if_pos c2, if_pos c2]; rfl
            · rw [if_neg c2, if_neg c2]
              by_cases c3 : at_ + 8 * rd l (at_ + 1) + 8 > s
              · rw [if_pos c3, if_pos c3]; rfl
              · rw [if_neg c3, if_neg c3, Option.bind_some, if_pos (show 0 ≤ at_ + 2 by omega), if_pos (show at_ + 2 ≤ at_ + 8 * rd l (at_ + 1) + 8 by omega), if_pos (show at_ + 8 * rd l (at_ + 1) + 8 ≤ (l.length : Int) by omega), if_pos (by rw [List.length_drop, List.length_take, List.length_nil]; omega), if_pos (show es.length < 4398046511104 by omega), if_pos (show 0 ≤ at_ by omega), if_pos (show at_ < (l.length : Int) by omega), List.nil_append,
                  ih k _ _ _ (by rw [List.length_append]; simp only [List.length_cons, List.length_nil]; omega) (by omega) (by omega) (by omega)]
    · rw [if_neg hb, if_neg hb, Option.bind_some, if_pos (by omega), if_pos h2, if_pos hsl, if_pos (by rw [List.length_drop, List.length_take, List.length_nil]; omega), Option.bind_some, if_pos (by omega), if_pos (by rw [List.length_drop, List.length_nil]; omega)]
      rfl
theorem rd_cut {l : List Int} {s at_ : Int} (i : Nat) (h0 : 0 ≤ at_) (h : at_ + i < s) : rd ((l.take s.toNat).drop at_.toNat) (i : Int) = rd l (at_ + i) := by
  unfold rd
  rw [List.getD_eq_getElem?_getD, List.getD_eq_getElem?_getD, List.getElem?_drop, List.getElem?_take, if_pos (by omega), show at_.toNat + (i : Int).toNat = (at_ + (i : Int)).toNat by omega]
theorem cut_cut (l : List Int) {s at_ n : Int} (h0 : 0 ≤ at_) (hn : 2 ≤ n) (h : at_ + n ≤ s) : (((l.take s.toNat).drop at_.toNat).take n.toNat).drop 2 = (l.take (at_ + n).toNat).drop (at_ + 2).toNat := by
  rw [List.take_drop, List.take_take, List.drop_drop, Nat.min_eq_left (by omega), show at_.toNat + n.toNat = (at_ + n).toNat by omega, show at_.toNat + 2 = (at_ + 2).toNat by omega]
theorem drop_cut (l : List Int) {s at_ n : Int} (h0 : 0 ≤ at_) (hn : 0 ≤ n) : ((l.take s.toNat).drop at_.toNat).drop n.toNat = (l.take s.toNat).drop (at_ + n).toNat := by
  rw [List.drop_drop, show at_.toNat + n.toNat = (at_ + n).toNat by omega]
def extOut (l : List Int) (s : Int) : Option (List S69 × Int × Int) → List S69 × Int × List Int × Bool
  | none => ([], 0, [], false)
  | some (es, kd, at_) => (es, kd, (l.take s.toNat).drop at_.toNat, true)
theorem clone {l : List Int} (h : l.length ≤ 140737488355328) : slices_Clone_byte_byte.f l = some l := by
  unfold slices_Clone_byte_byte.f
  rw [if_pos h]
theorem implLoop {l : List Int} (hx : U8 l) {s : Int} (h40 : 40 ≤ s) (hsl : s ≤ l.length) (hn : l.length ≤ 1600) : ∀ (j k : Nat) (kd at_ : Int) (es : List S69), es.length + j = 3 → j + 1 < k → 40 ≤ at_ → at_ ≤ s →
    impl_extsRead.l0 k kd ((l.take s.toNat).drop at_.toNat) es = some (extOut l s (sixWalk l s (j + 1) kd at_ es)) := by
  intro j
  induction j with
  | zero =>
    intro k kd at_ es he hk h1 h2
    obtain ⟨k, rfl⟩ := pos_k hk
    simp only [impl_extsRead.l0]
    unfold sixWalk
    rw [implKind, Option.bind_some]
    by_cases hb : kindB kd = true
    · rw [if_pos hb, if_pos hb, if_pos (show (es.length : Int) = 3 by omega), if_pos (show (es.length : Int) = 3 by omega)]
      rfl
    · rw [if_neg hb, if_neg hb]
      rfl
  | succ j ih =>
    intro k kd at_ es he hk h1 h2
    obtain ⟨k, rfl⟩ := pos_k hk
    simp only [impl_extsRead.l0]
    rw [show sixWalk l s (j + 1 + 1) kd at_ es = (if kindB kd = true then
      if (es.length : Int) = 3 then none
      else if kd = 0 ∧ (es.length : Int) > 0 then none
      else if at_ + 2 > s then none
      else if rd l (at_ + 1) > 7 then none
      else if at_ + 8 * rd l (at_ + 1) + 8 > s then none
      else sixWalk l s (j + 1) (rd l at_) (at_ + 8 * rd l (at_ + 1) + 8) (es ++ [⟨kd, (l.take (at_ + 8 * rd l (at_ + 1) + 8).toNat).drop (at_ + 2).toNat⟩])
    else some (es, kd, at_)) from rfl]
    rw [implKind, Option.bind_some]
    have hD : ((l.take s.toNat).drop at_.toNat).length = (s - at_).toNat := by rw [List.length_drop, List.length_take]; omega
    by_cases hb : kindB kd = true
    · rw [if_pos hb, if_pos hb, if_neg (show ¬ (es.length : Int) = 3 by omega), if_neg (show ¬ (es.length : Int) = 3 by omega), hD]
      by_cases h0 : kd = 0 ∧ (es.length : Int) > 0
      · rw [if_pos h0, if_pos h0.1, if_pos h0.2]
        rfl
      · rw [if_neg h0]
        rcases Decidable.em (kd = 0) with h3 | h3
        · rw [if_pos h3, if_neg (fun h => h0 ⟨h3, h⟩)]
          by_cases c1 : at_ + 2 > s
          · rw [if_pos c1, if_pos (by omega)]; rfl
          · have b0 := hx.byte at_
            have b1 := hx.byte (at_ + 1)
            have e1 : rd ((l.take s.toNat).drop at_.toNat) 1 = rd l (at_ + 1) := rd_cut 1 (by omega) (by omega)
            have e0 : rd ((l.take s.toNat).drop at_.toNat) 0 = rd l at_ := by simpa using rd_cut (l := l) (s := s) (at_ := at_) 0 (by omega) (by omega)
            rw [if_neg c1, if_neg (by omega), if_pos (by omega), e1, e0]
            clear e0 e1
            rw [w64 (n := rd l (at_ + 1)) (by omega) (by omega), w64 (n := rd l (at_ + 1) + 1) (by omega) (by omega), w64 (n := 8 * (rd l (at_ + 1) + 1)) (by omega) (by omega), w64 (n := rd l at_) (by omega) (by omega)]
            by_cases c2 : rd l (at_ + 1) > 7
            · rw [if_pos c2, if_pos c2]; rfl
            · rw [if_neg c2, if_neg c2]
              by_cases c3 : at_ + 8 * rd l (at_ + 1) + 8 > s
              · rw [if_pos c3, if_pos (by omega)]; rfl
              · rw [if_neg c3, if_neg (by omega), if_pos (by omega), if_pos (by omega), cut_cut l (n := 8 * (rd l (at_ + 1) + 1)) (by omega) (by omega) (by omega), drop_cut l (n := 8 * (rd l (at_ + 1) + 1)) (by omega) (by omega),
                  clone (by rw [List.length_drop, List.length_take]; omega), Option.bind_some, if_pos (by omega), if_pos (by omega), if_pos (by omega), show at_ + 8 * (rd l (at_ + 1) + 1) = at_ + 8 * rd l (at_ + 1) + 8 by omega,
                  ih k _ _ _ (by rw [List.length_append]; simp only [List.length_cons, List.length_nil]; omega) (by omega) (by omega) (by omega)]
        · rw [if_neg h3]
          by_cases c1 : at_ + 2 > s
          · rw [if_pos c1, if_pos (by omega)]; rfl
          · have b0 := hx.byte at_
            have b1 := hx.byte (at_ + 1)
            have e1 : rd ((l.take s.toNat).drop at_.toNat) 1 = rd l (at_ + 1) := rd_cut 1 (by omega) (by omega)
            have e0 : rd ((l.take s.toNat).drop at_.toNat) 0 = rd l at_ := by simpa using rd_cut (l := l) (s := s) (at_ := at_) 0 (by omega) (by omega)
            rw [if_neg c1, if_neg (by omega), if_pos (by omega), e1, e0]
            clear e0 e1
            rw [w64 (n := rd l (at_ + 1)) (by omega) (by omega), w64 (n := rd l (at_ + 1) + 1) (by omega) (by omega), w64 (n := 8 * (rd l (at_ + 1) + 1)) (by omega) (by omega), w64 (n := rd l at_) (by omega) (by omega)]
            by_cases c2 : rd l (at_ + 1) > 7
            · rw [if_pos c2, if_pos c2]; rfl
            · rw [if_neg c2, if_neg c2]
              by_cases c3 : at_ + 8 * rd l (at_ + 1) + 8 > s
              · rw [if_pos c3, if_pos (by omega)]; rfl
              · rw [if_neg c3, if_neg (by omega), if_pos (by omega), if_pos (by omega), cut_cut l (n := 8 * (rd l (at_ + 1) + 1)) (by omega) (by omega) (by omega), drop_cut l (n := 8 * (rd l (at_ + 1) + 1)) (by omega) (by omega),
                  clone (by rw [List.length_drop, List.length_take]; omega), Option.bind_some, if_pos (by omega), if_pos (by omega), if_pos (by omega), show at_ + 8 * (rd l (at_ + 1) + 1) = at_ + 8 * rd l (at_ + 1) + 8 by omega,
                  ih k _ _ _ (by rw [List.length_append]; simp only [List.length_cons, List.length_nil]; omega) (by omega) (by omega) (by omega)]
    · rw [if_neg hb, if_neg hb]
      rfl

def sixRead (l : List Int) : Int × Int × Int × Int × Int × Int × Int × Int × Int × Int × Int × Int × Int × Int × List S69 × List Int × List Int × Int :=
  if (l.length : Int) > 1600 then sz0 1 else if (l.length : Int) < 40 then sz0 2 else if rd l 0 / 16 = 6 then
    (if 40 + be2 l 4 > 1500 then sz0 4 else if 40 + be2 l 4 > (l.length : Int) then sz0 4
     else sixOut l (40 + be2 l 4) (be4 l 0 / 1048576 % 256) (be4 l 0 % 1048576) (rd l 7) 0 (addrOf ((l.take 24).drop 8)).1 (addrOf ((l.take 24).drop 8)).2.1 (addrOf ((l.take 24).drop 8)).2.2.1 (addrOf ((l.take 24).drop 8)).2.2.2.1 (addrOf ((l.take 24).drop 8)).2.2.2.2.1 (addrOf ((l.take 40).drop 24)).1 (addrOf ((l.take 40).drop 24)).2.1 (addrOf ((l.take 40).drop 24)).2.2.1 (addrOf ((l.take 40).drop 24)).2.2.2.1 (addrOf ((l.take 40).drop 24)).2.2.2.2.1 (sixWalk l (40 + be2 l 4) 4 (rd l 6) 40 []))
  else sz0 3
theorem sixRead_len (l : List Int) : (sixRead l).2.2.2.2.2.2.2.2.2.2.2.2.2.2.1.length ≤ 4 ∧ (∀ x ∈ (sixRead l).2.2.2.2.2.2.2.2.2.2.2.2.2.2.1, x.f1.length ≤ l.length) ∧ (sixRead l).2.2.2.2.2.2.2.2.2.2.2.2.2.2.2.1.length ≤ l.length ∧ (sixRead l).2.2.2.2.2.2.2.2.2.2.2.2.2.2.2.2.1.length ≤ l.length := by
  have hz : ∀ c, (sz0 c).2.2.2.2.2.2.2.2.2.2.2.2.2.2.1.length ≤ 4 ∧ (∀ x ∈ (sz0 c).2.2.2.2.2.2.2.2.2.2.2.2.2.2.1, x.f1.length ≤ l.length) ∧ (sz0 c).2.2.2.2.2.2.2.2.2.2.2.2.2.2.2.1.length ≤ l.length ∧ (sz0 c).2.2.2.2.2.2.2.2.2.2.2.2.2.2.2.2.1.length ≤ l.length :=
    fun c => ⟨Nat.zero_le _, fun x hx => absurd hx (by simp [sz0]), Nat.zero_le _, Nat.zero_le _⟩
  unfold sixRead
  split
  · exact hz _
  · split
    · exact hz _
    · split
      · split
        · exact hz _
        · split
          · exact hz _
          · generalize 40 + be2 l 4 = s
            cases h : sixWalk l s 4 (rd l 6) 40 [] with
            | none => exact hz _
            | some r =>
              obtain ⟨es, kd, at_⟩ := r
              obtain ⟨h1, h2⟩ := sixWalk_len l s 4 _ _ _ _ _ _ h (by simp)
              refine ⟨(show es.length ≤ 4 by simpa using h1), h2, ?_, ?_⟩
              · show ((l.take s.toNat).drop at_.toNat).length ≤ _
                rw [List.length_drop, List.length_take]
                omega
              · show (l.drop s.toNat).length ≤ _
                rw [List.length_drop]
                omega
      · exact hz _
theorem specBe16' {xs : List Int} (hx : U8 xs) (hn : xs.length ≤ 140737488355328) (a : Int) (h0 : 0 ≤ a) (h1 : a + 2 ≤ xs.length) : spec_Be16.f xs a = some (be2 xs a, true) := by
  rw [specBe16 hx hn a (by omega), if_pos ⟨h0, h1⟩]
  rfl
theorem specBe32' {xs : List Int} (hx : U8 xs) (hn : xs.length ≤ 140737488355328) (a : Int) (h0 : 0 ≤ a) (h1 : a + 4 ≤ xs.length) {k : Nat} (hk : 10 ≤ k) : spec_Be32.f k xs a = some (be4 xs a, true) := by
  rw [specBe32 hx hn a (by omega) hk, if_pos ⟨h0, h1⟩]
  rfl
theorem specSixRead {k : Nat} (hk : 300 ≤ k) {l : List Int} (hx : U8 l) : spec_SixRead.f k l = some (sixRead l) := by
  unfold spec_SixRead.f sixRead
  by_cases h1 : (l.length : Int) > 1600
  · rw [if_pos h1, if_pos h1]; rfl
  · rw [if_neg h1, if_neg h1]
    by_cases h2 : (l.length : Int) < 40
    · rw [if_pos h2, if_pos h2]; rfl
    · rw [if_neg h2, if_neg h2, if_pos (show 0 < (l.length : Int) by omega)]
      have b0 := hx.byte 0
      have e0 : Int.tdiv (rd l 0) 16 % 256 = rd l 0 / 16 := by rw [tdiv_pos (by omega)]; omega
      rw [e0]
      by_cases h3 : rd l 0 / 16 = 6
      · rw [if_pos h3, if_pos h3]
        clear e0 h3 b0
        have b2 := be2_word hx 4
        have b4 := be4_half hx 0
        have b6 := hx.byte 6
        have b7 := hx.byte 7
        rw [specBe16' hx (by omega) 4 (by omega) (by omega), Option.bind_some]
        dsimp only
        rw [w64 (n := 40 + be2 l 4) (by omega) (by omega)]
        by_cases c1 : 40 + be2 l 4 > 1500
        · rw [if_pos c1, if_pos c1]; rfl
        · rw [if_neg c1, if_neg c1]
          by_cases c2 : 40 + be2 l 4 > (l.length : Int)
          · rw [if_pos c2, if_pos c2]; rfl
          · rw [if_neg c2, if_neg c2, specBe32' hx (by omega) 0 (by omega) (by omega) (by omega), Option.bind_some]
            dsimp only
            rw [if_pos (show 7 < (l.length : Int) by omega), if_pos (by decide), if_pos (show 24 ≤ (l.length : Int) by omega), specAddrOf ((hx.take 24).drop 8) (by rw [List.length_drop, List.length_take]; omega) (by omega), Option.bind_some,
              if_pos (by decide), if_pos (show 40 ≤ (l.length : Int) by omega), specAddrOf ((hx.take 40).drop 24) (by rw [List.length_drop, List.length_take]; omega) (by omega), Option.bind_some, if_pos (show 6 < (l.length : Int) by omega),
              w64 (n := rd l 6) (by omega) (by omega), w64 (n := rd l 7) (by omega) (by omega), tdiv_pos (a := be4 l 0) (by omega), w64 (n := be4 l 0 / 1048576) (by omega) (by omega), tmod_pos (a := be4 l 0 / 1048576) (by omega), tmod_pos (a := be4 l 0) (by omega),
              specLoop hx (by omega) (by omega) (by omega) _ _ _ _ _ _ _ _ _ _ _ _ _ _ 3 k _ _ [] (by rfl) (by omega) (by omega) (by omega)]
      · rw [if_neg h3, if_neg h3]; rfl
theorem and_i64 (x : Int) (h0 : 0 ≤ x) (h1 : x < 9223372036854775808) (i : Nat) (hi : i ≤ 63) : Go.bits .and .i64 x (2 ^ i - 1) = x % 2 ^ i := bits_mask .i64 63 (by decide) wraps_i64 i hi x h0 h1
theorem implSixRead {k : Nat} (hk : 300 ≤ k) {l : List Int} (hx : U8 l) : impl_SixRead.f k l = some (sixRead l) := by
  unfold impl_SixRead.f sixRead
  by_cases h1 : (l.length : Int) > 1600
  · rw [if_pos h1, if_pos h1]; rfl
  · rw [if_neg h1, if_neg h1]
    by_cases h2 : (l.length : Int) < 40
    · rw [if_pos h2, if_pos h2]; rfl
    · rw [if_neg h2, if_neg h2, if_pos (show 0 < (l.length : Int) by omega)]
      by_cases h3 : rd l 0 / 16 = 6
      · rw [if_pos h3, if_pos h3]
        clear h3
        have b2 := be2_word hx 4
        have b4 := be4_half hx 0
        have b6 := hx.byte 6
        have b7 := hx.byte 7
        have q2 : impl_beOf.f k ((l.take 6).drop 4) = some (be2 l 4) := by
          have := beOf2i hx (i := 4) (j := 6) (by omega) (by omega) (by omega) (k := k) (by omega)
          simpa using this
        have q4 : impl_beOf.f k (l.take 4) = some (be4 l 0) := by
          have := beOf4i hx (i := 0) (j := 4) (by omega) (by omega) (by omega) (k := k) (by omega)
          simpa using this
        rw [if_pos (by decide), if_pos (show 6 ≤ (l.length : Int) by omega), q2, Option.bind_some, w64 (n := 40 + be2 l 4) (by omega) (by omega)]
        by_cases c1 : 40 + be2 l 4 > 1500
        · rw [if_pos c1, if_pos c1]; rfl
        · rw [if_neg c1, if_neg c1]
          by_cases c2 : 40 + be2 l 4 > (l.length : Int)
          · rw [if_pos c2, if_pos c2]; rfl
          · rw [if_neg c2, if_neg c2, if_pos (show 6 < (l.length : Int) by omega), if_pos (show 40 ≤ 40 + be2 l 4 by omega), if_pos (show 40 + be2 l 4 ≤ (l.length : Int) by omega), w64 (n := rd l 6) (by omega) (by omega)]
            have hw : impl_extsRead.f k (rd l 6) ((l.take (40 + be2 l 4).toNat).drop 40) = some (extOut l (40 + be2 l 4) (sixWalk l (40 + be2 l 4) 4 (rd l 6) 40 [])) :=
              implLoop hx (s := 40 + be2 l 4) (by omega) (by omega) (by omega) 3 k (rd l 6) 40 [] (by rfl) (by omega) (by omega) (by omega)
            rw [hw, Option.bind_some]
            clear hw
            have hs1 : 40 + be2 l 4 ≤ (l.length : Int) := by omega
            have hs0 : 40 ≤ 40 + be2 l 4 := by omega
            generalize 40 + be2 l 4 = s at hs0 hs1 ⊢
            cases sixWalk l s 4 (rd l 6) 40 [] with
            | none => rfl
            | some r =>
              obtain ⟨es, kd, at_⟩ := r
              have t1 : Go.bits .and .i64 (be4 l 0 / 1048576) 255 = be4 l 0 / 1048576 % 256 := and_i64 _ (by omega) (by omega) 8 (by omega)
              have t2 : Go.bits .and .i64 (be4 l 0) 1048575 = be4 l 0 % 1048576 := and_i64 _ (by omega) (by omega) 20 (by omega)
              unfold extOut sixOut
              dsimp only
              rw [if_pos rfl, if_pos (show 4 ≤ (l.length : Int) by omega), q4, Option.bind_some, if_pos (show 7 < (l.length : Int) by omega), clone (by rw [List.length_drop, List.length_take]; omega), Option.bind_some,
                if_pos (by decide), if_pos (show 24 ≤ (l.length : Int) by omega), implAddrOf ((hx.take 24).drop 8) (by omega), Option.bind_some, if_pos (by decide), if_pos (show 40 ≤ (l.length : Int) by omega), implAddrOf ((hx.take 40).drop 24) (by omega), Option.bind_some,
                if_pos (show 0 ≤ s by omega), clone (by rw [List.length_drop]; omega), Option.bind_some, t1, t2, w64 (n := rd l 7) (by omega) (by omega)]
      · rw [if_neg h3, if_neg h3]; rfl

def markN : List S69 → Int
  | [] => 0
  | x :: r => 1 + (x.f1.length : Int) + markN r
def HeldFrom : List S69 → Int → Prop
  | [], _ => True
  | x :: r, v => x.f0 = v ∧ Marked x.f1 (v + 1) ∧ x.f1.length ≤ 1048576 ∧ HeldFrom r (v + 1 + x.f1.length)
theorem markN_le {R : List S69} (h : ∀ x ∈ R, x.f1.length ≤ 1048576) : 0 ≤ markN R ∧ markN R ≤ 1048577 * R.length := by
  induction R with
  | nil => simp [markN]
  | cons x r ih =>
    have h1 := ih (fun y hy => h y (List.mem_cons_of_mem _ hy))
    have h2 := h x (List.mem_cons_self ..)
    simp only [markN, List.length_cons]
    omega
theorem markExtS_l (R : List S69) : ∀ (A : List S69) (k : Nat) (v i : Int), (∀ x ∈ R, x.f1.length ≤ 1048576) → A.length + R.length ≤ 1048576 → i = A.length → 0 ≤ v → v + 1048577 * R.length ≤ 1099511627776 * 4 → R.length + 1048578 < k → ∃ R', laws_markExtS.l0 k (A ++ R) v i = some (v + markN R, A ++ R') ∧ R'.length = R.length ∧ HeldFrom R' v ∧ markN R' = markN R := by
  induction R with
  | nil =>
    intro A k v i hx hn hi hv hb hk
    obtain ⟨k, rfl⟩ : ∃ q, k = q + 1 := ⟨k - 1, by omega⟩
    refine ⟨[], ?_, rfl, trivial, rfl⟩
    simp only [laws_markExtS.l0]
    rw [if_neg (by simp; omega)]
    simp [markN]
  | cons x R ih =>
    intro A k v i hx hn hi hv hb hk
    simp only [List.length_cons] at hn hk hb
    obtain ⟨k, rfl⟩ : ∃ q, k = q + 1 := ⟨k - 1, by omega⟩
    have hxl := hx x (List.mem_cons_self ..)
    obtain ⟨zs, h1, h3, h4⟩ := markByteS x.f1 (by omega) (m := v + 1) (by omega) (by omega) (k := k) (by omega)
    have hs : ∀ y : S69, (A ++ x :: R).set i.toNat y = (A ++ [y]) ++ R := fun y => by
      rw [List.set_append_right _ _ (by omega), show i.toNat - A.length = 0 by omega]
      simp
    obtain ⟨R', h2, h5, h6, h7⟩ := ih (A ++ [⟨v, zs⟩]) k (v + 1 + x.f1.length) (i + 1) (fun y hy => hx y (List.mem_cons_of_mem _ hy)) (by simp; omega) (by simp; omega) (by omega) (by omega) (by omega)
    refine ⟨⟨v, zs⟩ :: R', ?_, by simp [h5], ⟨rfl, h4, by show zs.length ≤ _; omega, by show HeldFrom R' (v + 1 + (zs.length : Int)); rw [h3]; exact h6⟩, ?_⟩
    · simp only [laws_markExtS.l0]
      rw [if_pos (by simp; omega), if_pos (by omega), rdi_at A R x hi, w64 (n := v + 1) (by omega) (by omega), h1, Option.bind_some]
      dsimp only
      rw [hs, w64 (n := i + 1) (by omega) (by omega), h2]
      simp only [markN, List.append_assoc, List.cons_append, List.nil_append]
      rw [show v + 1 + (x.f1.length : Int) + markN R = v + (1 + (x.f1.length : Int) + markN R) by omega]
    · show 1 + (zs.length : Int) + markN R' = 1 + (x.f1.length : Int) + markN R
      rw [h3, h7]
theorem heldExtS_l (R : List S69) : ∀ (A : List S69) (k : Nat) (v i : Int), HeldFrom R v → A.length + R.length ≤ 1048576 → i = A.length → 0 ≤ v → v + 1048577 * R.length ≤ 1099511627776 * 4 → R.length + 1048578 < k → laws_heldExtS.l0 k (A ++ R) v i = some (v + markN R) := by
  induction R with
  | nil =>
    intro A k v i hx hn hi hv hb hk
    obtain ⟨k, rfl⟩ : ∃ q, k = q + 1 := ⟨k - 1, by omega⟩
    simp only [laws_heldExtS.l0]
    rw [if_neg (by simp; omega)]
    simp [markN]
  | cons x R ih =>
    intro A k v i hx hn hi hv hb hk
    simp only [List.length_cons] at hn hk hb
    obtain ⟨k, rfl⟩ : ∃ q, k = q + 1 := ⟨k - 1, by omega⟩
    obtain ⟨g1, g2, g3, g4⟩ := hx
    have h2 := ih (A ++ [x]) k (v + 1 + x.f1.length) (i + 1) g4 (by simp; omega) (by simp; omega) (by omega) (by omega) (by omega)
    rw [List.append_assoc] at h2
    simp only [laws_heldExtS.l0]
    rw [if_pos (by simp; omega), if_pos (by omega), rdi_at A R x hi, if_pos g1, w64 (n := v + 1) (by omega) (by omega), heldByteS g2 (by omega) (by omega) (by omega) (by omega), Option.bind_some, if_neg (by omega), w64 (n := i + 1) (by omega) (by omega)]
    rw [show A ++ x :: R = A ++ ([x] ++ R) from rfl, h2]
    simp only [markN]
    rw [show v + 1 + (x.f1.length : Int) + markN R = v + (1 + (x.f1.length : Int) + markN R) by omega]
theorem markSix {k : Nat} (a0 a1 a2 a3 a4 a5 a6 a7 a8 a9 a10 a11 a12 a13 : Int) (l : List S69) (m : List Int) (hl : l.length ≤ 1048576) (hx : ∀ n ∈ l, n.f1.length ≤ 1048576) (hm : m.length ≤ 1048576) (hk : 3000000 ≤ k) :
    ∃ v z1 z2, laws_markSix.f k a0 a1 a2 a3 a4 a5 a6 a7 a8 a9 a10 a11 a12 a13 l m 1 = some (v, z1, z2) ∧ 1 ≤ v ∧ v ≤ 1 + 1048577 * l.length + 1048576 ∧ ∀ b0 b1 b2 b3 b4 b5 b6 b7 b8 b9 b10 b11 b12 b13 : Int, laws_heldSix.f k b0 b1 b2 b3 b4 b5 b6 b7 b8 b9 b10 b11 b12 b13 z1 z2 1 = some v := by
  obtain ⟨R', h1, h3, h4, h5⟩ := markExtS_l l [] k 1 0 hx (by simpa using hl) rfl (by omega) (by omega) (by omega)
  rw [List.nil_append, List.nil_append] at h1
  have hn := markN_le hx
  obtain ⟨z2, h2, h6, h7⟩ := markByteS m (by omega) (m := 1 + markN l) (by omega) (by omega) (k := k) (by omega)
  refine ⟨1 + markN l + m.length, R', z2, ?_, by omega, by omega, fun b0 b1 b2 b3 b4 b5 b6 b7 b8 b9 b10 b11 b12 b13 => ?_⟩
  · unfold laws_markSix.f laws_markExtS.f
    rw [h1, Option.bind_some]
    dsimp only
    rw [h2]
    rfl
  · have h8 := heldExtS_l R' [] k 1 0 h4 (by simp; omega) rfl (by omega) (by omega) (by omega)
    rw [List.nil_append, h5] at h8
    have h9 : laws_heldByteS.f k z2 (1 + markN l) = some (1 + markN l + m.length) := by
      have := heldByteS h7 (by omega) (by omega) (by omega) (k := k) (by omega)
      rwa [h6] at this
    unfold laws_heldSix.f laws_heldExtS.f
    rw [h8, Option.bind_some, if_neg (by omega), h9, Option.bind_some, if_neg (by omega)]

end ExactSixRead
open ExactSixRead

theorem FnExactSixRead : laws_FnExactSixRead.Pure := by
  intro l0 _ hl hu
  have hx := U8.of_wf hu
  refine ⟨3000000, ?_⟩
  unfold laws_FnExactSixRead.f
  by_cases h : (l0.length : Int) > 1048576
  · rw [if_pos h]
  · have hlen := sixRead_len l0
    have ht : laws_toByteS.f 3000000 l0 = some l0 := toByteS (by omega) (by omega)
    have hs : spec_SixRead.f 3000000 l0 = some (sixRead l0) := specSixRead (by omega) hx
    have hi : impl_SixRead.f 3000000 l0 = some (sixRead l0) := implSixRead (by omega) hx
    have hb : ∀ xs : List Int, xs.length ≤ l0.length → laws_eqByteS.f 3000000 xs xs = some true := fun xs hxs => eqByteS (by omega) (by omega)
    obtain ⟨z0, hm0, _, _⟩ := markByteS l0 (by omega) (m := 1) (by omega) (by omega) (k := 3000000) (by omega)
    generalize sixRead l0 = r at hs hi hlen
    obtain ⟨r0, r1, r2, r3, r4, r5, r6, r7, r8, r9, r10, r11, r12, r13, o, b, p, c⟩ := r
    obtain ⟨g1, g2, g3, g4⟩ := hlen
    simp only at g1 g2 g3 g4
    have g2' : ∀ n ∈ o, n.f1.length ≤ 1048576 := fun n hn => by have := g2 n hn; omega
    have he : laws_eqSix.f 3000000 r0 r1 r2 r3 r4 r5 r6 r7 r8 r9 r10 r11 r12 r13 o b r0 r1 r2 r3 r4 r5 r6 r7 r8 r9 r10 r11 r12 r13 o b = some true := eqSix r0 r1 r2 r3 r4 r5 r6 r7 r8 r9 r10 r11 r12 r13 o b (by omega) g2' (by omega) (by omega)
    obtain ⟨v, z1, z2, mk, v0, v1, hd⟩ := markSix r0 r1 r2 r3 r4 r5 r6 r7 r8 r9 r10 r11 r12 r13 o b (by omega) g2' (by omega) (k := 3000000) (by omega)
    obtain ⟨y3, m3, l3, z3⟩ := markByteS p (by omega) (m := v) (by omega) (by omega) (k := 3000000) (by omega)
    have h3 : laws_heldByteS.f 3000000 y3 v = some (v + p.length) := by
      have := heldByteS z3 (by omega) (by omega) (by omega) (k := 3000000) (by omega)
      rwa [l3] at this
    have n1 : ¬ ((1 : Int) + l0.length < 0) := by omega
    have n2 : ¬ (v < 0) := by omega
    have n3 : ¬ (v + (p.length : Int) < 0) := by omega
    rw [if_neg h]
    simp only [ht, hs, hi, Option.bind_some, he, if_true, hb p g4, hb l0 (Nat.le_refl _), hm0, if_neg n1, mk, m3, hd, if_neg n2, h3, if_neg n3]

end Go.Proofs.Ytdbiejkaplndgaa.Pure
