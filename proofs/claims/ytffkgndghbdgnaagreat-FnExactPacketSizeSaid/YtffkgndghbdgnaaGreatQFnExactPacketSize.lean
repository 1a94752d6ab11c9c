/- The program's PacketSize returns what the reference's returns, for all arguments. No condition. -/
import Derived.Test.YtffkgndghbdgnaaGreatTFnExactPacketSize
import Derived.Test.YtffkgndghbdgnaaGreatZBaseFnExactPacketSize
namespace Go.Proofs.YtffkgndghbdgnaaGreat.Pure
open Go.RowKit Go.Proofs.YtffkgndghbdgnaaGreat.FFnExactPacketSize Go.Proofs.YtffkgndghbdgnaaGreatW.PrintWords Go.Proofs.YtffkgndghbdgnaaGreatW.PrintLast Go.Proofs.YtffkgndghbdgnaaGreatW.PrintMore Go.Proofs.YtffkgndghbdgnaaGreat.Base

set_option linter.unusedVariables false
set_option linter.unusedSimpArgs false
namespace ExactPacketSize
theorem toAddr (k a b c d : Int) : laws_toAddr.f k a b c d = some (k, a, b, c, d) := rfl

theorem eqAddr (k a b c d : Int) : laws_eqAddr.f k a b c d k a b c d = some true := by
  unfold laws_eqAddr.f
  simp only [if_true]

theorem toByteS_l (xs : List Int) (hn : xs.length ≤ 140737488355328) (d : Nat) : ∀ (k : Nat) (ys : List Int) (i : Int), 0 ≤ i → i + d = xs.length → d < k → ys.length = xs.length → (∀ j : Nat, (j : Int) < i → ys[j]? = xs[j]?) → laws_toByteS.l0 k xs ys i = some xs := by
  induction d with
  | zero =>
    intro k ys i h0 hi hk hl hj
    obtain ⟨k, rfl⟩ := pos_k hk
    simp only [laws_toByteS.l0]
    rw [if_neg (by omega)]
    congr 1
    apply List.ext_getElem?
    intro j
    by_cases h : (j : Int) < i
    · exact hj j h
    · rw [List.getElem?_eq_none (by omega), List.getElem?_eq_none (by omega)]
  | succ d ih =>
    intro k ys i h0 hi hk hl hj
    obtain ⟨k, rfl⟩ := pos_k hk
    simp only [laws_toByteS.l0]
    rw [if_pos (by omega), if_pos (by omega), if_pos (by omega), w64 (by omega) (by omega)]
    refine ih k _ (i + 1) (by omega) (by omega) (by omega) (by rw [List.length_set]; omega) ?_
    intro j hj'
    by_cases h : (j : Int) = i
    · have e : i.toNat = j := by omega
      rw [e, List.getElem?_set_self (by omega), ← h, ← rd_get? (by omega) (by omega)]
      rfl
    · rw [List.getElem?_set_ne (by omega)]
      exact hj j (by omega)
theorem toByteS {xs : List Int} (hn : xs.length ≤ 140737488355328) {k : Nat} (hk : xs.length < k) : laws_toByteS.f k xs = some xs := by
  unfold laws_toByteS.f
  rw [if_pos (by omega), if_pos (by omega)]
  exact toByteS_l xs hn xs.length k _ 0 (by omega) (by omega) hk (by simp) (fun j hj => by omega)

theorem eqByteS_l (xs : List Int) (hn : xs.length ≤ 140737488355328) (d : Nat) : ∀ (k : Nat) (i : Int), 0 ≤ i → i + d = xs.length → d < k → laws_eqByteS.l0 k xs xs i = some true := by
  induction d with
  | zero =>
    intro k i h0 hi hk
    obtain ⟨k, rfl⟩ := pos_k hk
    simp only [laws_eqByteS.l0]
    rw [if_neg (by omega)]
  | succ d ih =>
    intro k i h0 hi hk
    obtain ⟨k, rfl⟩ := pos_k hk
    simp only [laws_eqByteS.l0]
    rw [if_pos (by omega), if_pos (by omega), if_pos (by omega), if_pos (by first | rfl | trivial), w64 (by omega) (by omega)]
    exact ih k (i + 1) (by omega) (by omega) (by omega)
theorem eqByteS {xs : List Int} (hn : xs.length ≤ 140737488355328) {k : Nat} (hk : xs.length < k) : laws_eqByteS.f k xs xs = some true := by
  unfold laws_eqByteS.f
  rw [if_pos rfl]
  exact eqByteS_l xs hn xs.length k 0 (by omega) (by omega) hk

theorem szByteS (l : List Int) (a : Int) (h0 : 0 ≤ a) (h1 : a ≤ 1048576) (hl : l.length ≤ maxLen) : laws_szByteS.f l a = some (if a - l.length < 0 then -1 else a - l.length) := by
  unfold maxLen at hl
  unfold laws_szByteS.f
  rw [w64 (by omega) (by omega)]
  by_cases h : a - l.length < 0
  · rw [if_pos h, if_pos h]
  · rw [if_neg h, if_neg h]

theorem toEther (a0 a1 a2 a3 : Int) (l : List Int) (hn : l.length ≤ 140737488355328) {k : Nat} (hk : l.length < k) : laws_toEther.f k a0 a1 a2 a3 l = some (a0, a1, a2, a3, l) := by
  unfold laws_toEther.f
  rw [toByteS hn hk]
  rfl
theorem eqEther (a0 a1 a2 a3 : Int) (l : List Int) (hn : l.length ≤ 140737488355328) {k : Nat} (hk : l.length < k) : laws_eqEther.f k a0 a1 a2 a3 l a0 a1 a2 a3 l = some true := by
  unfold laws_eqEther.f
  simp only [if_true, eqByteS hn hk, Option.bind_some]

theorem toFour (a0 a1 a2 a3 a4 a5 a6 a7 a8 a9 a10 a11 a12 a13 a14 a15 a16 : Int) (l m : List Int) (hn : l.length + m.length ≤ 140737488355328) {k : Nat} (hk : l.length + m.length < k) : laws_toFour.f k a0 a1 a2 a3 a4 a5 a6 a7 a8 a9 a10 a11 a12 a13 a14 a15 a16 l m = some (a0, a1, a2, a3, a4, a5, a6, a7, a8, a9, a10, a11, a12, a13, a14, a15, a16, l, m) := by
  unfold laws_toFour.f
  rw [toAddr, toAddr, toByteS (xs := l) (by omega) (by omega), toByteS (xs := m) (by omega) (by omega)]
  rfl
theorem eqFour (a0 a1 a2 a3 a4 a5 a6 a7 a8 a9 a10 a11 a12 a13 a14 a15 a16 : Int) (l m : List Int) (hn : l.length + m.length ≤ 140737488355328) {k : Nat} (hk : l.length + m.length < k) : laws_eqFour.f k a0 a1 a2 a3 a4 a5 a6 a7 a8 a9 a10 a11 a12 a13 a14 a15 a16 l m a0 a1 a2 a3 a4 a5 a6 a7 a8 a9 a10 a11 a12 a13 a14 a15 a16 l m = some true := by
  unfold laws_eqFour.f
  simp only [if_true, eqAddr, eqByteS (xs := l) (by omega) (k := k) (by omega), eqByteS (xs := m) (by omega) (k := k) (by omega), Option.bind_some]

theorem rdl_get? {xs : List S101} {i : Int} (h0 : 0 ≤ i) (h : i < xs.length) : xs[i.toNat]? = some (rd_T101 xs i) := by
  unfold rd_T101
  rw [List.getD_eq_getElem?_getD, List.getElem?_eq_getElem (by omega)]
  rfl
theorem rdl_mem {xs : List S101} {i : Int} (h0 : 0 ≤ i) (h : i < xs.length) : rd_T101 xs i ∈ xs := List.mem_of_getElem? (rdl_get? h0 h)
theorem rdi_get? {xs : List S102} {i : Int} (h0 : 0 ≤ i) (h : i < xs.length) : xs[i.toNat]? = some (rd_T102 xs i) := by
  unfold rd_T102
  rw [List.getD_eq_getElem?_getD, List.getElem?_eq_getElem (by omega)]
  rfl
theorem rdi_mem {xs : List S102} {i : Int} (h0 : 0 ≤ i) (h : i < xs.length) : rd_T102 xs i ∈ xs := List.mem_of_getElem? (rdi_get? h0 h)
theorem rdi_at (A R : List S102) (x : S102) {i : Int} (hi : i = A.length) : rd_T102 (A ++ x :: R) i = x := by
  unfold rd_T102
  rw [List.getD_eq_getElem?_getD, List.getElem?_append_right (by omega), show i.toNat - A.length = 0 by omega]
  rfl
def ext (x : S101) : S102 := ⟨x.f0, x.f1⟩
theorem toExtS_l (xs : List S101) (hn : xs.length ≤ 1048576) (hx : ∀ n ∈ xs, n.f1.length ≤ 1048576) (d : Nat) : ∀ (k : Nat) (ys : List S102) (i : Int), 0 ≤ i → i + d = xs.length → d + 1048577 < k → ys.length = xs.length → (∀ j : Nat, (j : Int) < i → ys[j]? = (xs.map ext)[j]?) → laws_toExtS.l0 k xs ys i = some (xs.map ext) := by
  induction d with
  | zero =>
    intro k ys i h0 hi hk hl hj
    obtain ⟨k, rfl⟩ := pos_k hk
    simp only [laws_toExtS.l0]
    rw [if_neg (by omega)]
    congr 1
    apply List.ext_getElem?
    intro j
    by_cases h : (j : Int) < i
    · exact hj j h
    · rw [List.getElem?_eq_none (by omega), List.getElem?_eq_none (by simp; omega)]
  | succ d ih =>
    intro k ys i h0 hi hk hl hj
    obtain ⟨k, rfl⟩ := pos_k hk
    have hm := hx _ (rdl_mem h0 (show i < xs.length by omega))
    simp only [laws_toExtS.l0]
    rw [if_pos (by omega), if_pos h0]
    unfold laws_toExt.f
    rw [toByteS (by omega) (by omega)]
    simp only [Option.bind_some]
    rw [if_pos (by omega), w64 (by omega) (by omega)]
    refine ih k _ (i + 1) (by omega) (by omega) (by omega) (by rw [List.length_set]; omega) ?_
    intro j hj'
    by_cases h : (j : Int) = i
    · have e : i.toNat = j := by omega
      rw [e, List.getElem?_set_self (by omega), List.getElem?_map, ← e, rdl_get? h0 (by omega)]
      rfl
    · rw [List.getElem?_set_ne (by omega)]
      exact hj j (by omega)
theorem toSix (a0 a1 a2 a3 a4 a5 a6 a7 a8 a9 a10 a11 a12 a13 : Int) (l : List S101) (m : List Int) (hl : l.length ≤ 1048576) (hx : ∀ n ∈ l, n.f1.length ≤ 1048576) (hm : m.length ≤ 1048576) {k : Nat} (hk : 3000000 ≤ k) :
    laws_toSix.f k a0 a1 a2 a3 a4 a5 a6 a7 a8 a9 a10 a11 a12 a13 l m = some (a0, a1, a2, a3, a4, a5, a6, a7, a8, a9, a10, a11, a12, a13, l.map ext, m) := by
  unfold laws_toSix.f
  rw [toAddr, toAddr]
  simp only [Option.bind_some]
  unfold laws_toExtS.f
  rw [if_pos (by omega), if_pos (by omega), toExtS_l l hl hx l.length k _ 0 (by omega) (by omega) (by omega) (by simp) (fun j hj => by omega)]
  simp only [Option.bind_some]
  rw [toByteS (by omega) (by omega)]
  rfl
theorem eqExtS_l (xs : List S102) (hn : xs.length ≤ 1048576) (hx : ∀ n ∈ xs, n.f1.length ≤ 1048576) (d : Nat) : ∀ (k : Nat) (i : Int), 0 ≤ i → i + d = xs.length → d + 1048577 < k → laws_eqExtS.l0 k xs xs i = some true := by
  induction d with
  | zero =>
    intro k i h0 hi hk
    obtain ⟨k, rfl⟩ := pos_k hk
    simp only [laws_eqExtS.l0]
    rw [if_neg (by omega)]
  | succ d ih =>
    intro k i h0 hi hk
    obtain ⟨k, rfl⟩ := pos_k hk
    have hm := hx _ (rdi_mem h0 (show i < xs.length by omega))
    simp only [laws_eqExtS.l0]
    rw [if_pos (by omega), if_pos (by omega), if_pos (by omega)]
    unfold laws_eqExt.f
    rw [if_pos rfl, eqByteS (by omega) (by omega)]
    simp only [Option.bind_some, if_true]
    rw [w64 (by omega) (by omega)]
    exact ih k (i + 1) (by omega) (by omega) (by omega)
theorem eqSix (a0 a1 a2 a3 a4 a5 a6 a7 a8 a9 a10 a11 a12 a13 : Int) (l : List S102) (m : List Int) (hl : l.length ≤ 1048576) (hx : ∀ n ∈ l, n.f1.length ≤ 1048576) (hm : m.length ≤ 1048576) {k : Nat} (hk : 3000000 ≤ k) :
    laws_eqSix.f k a0 a1 a2 a3 a4 a5 a6 a7 a8 a9 a10 a11 a12 a13 l m a0 a1 a2 a3 a4 a5 a6 a7 a8 a9 a10 a11 a12 a13 l m = some true := by
  have h1 : laws_eqExtS.f k l l = some true := by
    unfold laws_eqExtS.f
    rw [if_pos rfl]
    exact eqExtS_l l hl hx l.length k 0 (by omega) (by omega) (by omega)
  unfold laws_eqSix.f
  simp only [if_true, eqAddr, h1, eqByteS (xs := m) (by omega) (k := k) (by omega), Option.bind_some]
theorem ext_len {l : List S101} (hx : ∀ n ∈ l, n.f1.length ≤ 1048576) : ∀ n ∈ l.map ext, n.f1.length ≤ 1048576 := by
  intro n hn
  obtain ⟨q, hq, rfl⟩ := List.mem_map.1 hn
  exact hx q hq

theorem toUpper (a0 a1 a2 a3 a4 a5 a6 a7 a8 a9 a10 : Int) (a11 : Bool) (l m : List Int) (hn : l.length + m.length ≤ 140737488355328) {k : Nat} (hk : l.length + m.length < k) : laws_toUpper.f k a0 a1 a2 a3 a4 a5 a6 a7 a8 a9 a10 a11 l m = some (a0, a1, a2, a3, a4, a5, a6, a7, a8, a9, a10, a11, l, m) := by
  unfold laws_toUpper.f
  rw [toByteS (by omega) (by omega), toByteS (by omega) (by omega)]
  rfl
theorem eqUpper (a0 a1 a2 a3 a4 a5 a6 a7 a8 a9 a10 : Int) (a11 : Bool) (l m : List Int) (hn : l.length + m.length ≤ 140737488355328) {k : Nat} (hk : l.length + m.length < k) : laws_eqUpper.f k a0 a1 a2 a3 a4 a5 a6 a7 a8 a9 a10 a11 l m a0 a1 a2 a3 a4 a5 a6 a7 a8 a9 a10 a11 l m = some true := by
  unfold laws_eqUpper.f
  simp only [if_true, bne_self_eq_false, Bool.false_eq_true, if_false, eqByteS (xs := l) (by omega) (k := k) (by omega), eqByteS (xs := m) (by omega) (k := k) (by omega), Option.bind_some]

theorem szExtS_lG (xs : List S101) (hx : ∀ n ∈ xs, n.f1.length ≤ maxLen) (hn : xs.length ≤ 1048576) (d : Nat) : ∀ (k : Nat) (left i : Int), 0 ≤ i → i + d = xs.length → d < k → 0 ≤ left → left ≤ 1048576 →
    ∃ r, laws_szExtS.l0 k xs left i = some r ∧ (¬ r < 0 → r ≤ left ∧ ∀ j : Int, i ≤ j → j < xs.length → ((rd_T101 xs j).f1.length : Int) ≤ 1048576) := by
  induction d with
  | zero =>
    intro k left i h0 hi hk hl hl2
    obtain ⟨k, rfl⟩ := pos_k hk
    simp only [laws_szExtS.l0]
    rw [if_neg (by omega)]
    exact ⟨left, rfl, fun _ => ⟨Int.le_refl _, fun j h1 h2 => by omega⟩⟩
  | succ d ih =>
    intro k left i h0 hi hk hl hl2
    obtain ⟨k, rfl⟩ := pos_k hk
    have hm := hx _ (rdl_mem h0 (show i < xs.length by omega))
    simp only [laws_szExtS.l0]
    rw [if_pos (by omega), if_pos h0]
    unfold laws_szExt.f
    rw [szByteS _ _ hl hl2 hm]
    simp only [Option.bind_some]
    by_cases h : left - ((rd_T101 xs i).f1.length : Int) < 0
    · rw [if_pos h, if_pos (by decide)]
      simp only [Option.bind_some]
      rw [if_pos (by decide)]
      exact ⟨-1, rfl, fun hh => absurd (by decide) hh⟩
    · rw [if_neg h, if_neg h]
      simp only [Option.bind_some]
      rw [if_neg h, w64 (n := i + 1) (by omega) (by omega)]
      obtain ⟨r, hr, hc⟩ := ih k (left - ((rd_T101 xs i).f1.length : Int)) (i + 1) (by omega) (by omega) (by omega) (by omega) (by omega)
      refine ⟨r, hr, fun hh => ⟨by have := (hc hh).1; omega, fun j h1 h2 => ?_⟩⟩
      by_cases e : j = i
      · subst e
        omega
      · exact (hc hh).2 j (by omega) h2
theorem szEtherG (s : Int) (h0_ : 0 ≤ s) (h1_ : s ≤ 1048576) (a0 a1 a2 a3 : Int) (l : List Int) (hl : l.length ≤ maxLen) : ∃ r, laws_szEther.f a0 a1 a2 a3 l s = some r ∧ (¬ r < 0 → r ≤ s ∧ l.length ≤ 1048576) := by
  unfold laws_szEther.f
  rw [szByteS l _ (by omega) (by omega) hl]
  simp only [Option.bind_some]
  by_cases h : s - l.length < 0
  · rw [if_pos h, if_pos (by decide)]
    exact ⟨-1, rfl, fun hh => absurd (by decide) hh⟩
  · rw [if_neg h, if_neg h]
    exact ⟨_, rfl, fun _ => ⟨by omega, by omega⟩⟩
theorem szFourG (s : Int) (h0_ : 0 ≤ s) (h1_ : s ≤ 1048576) (a0 a1 a2 a3 a4 a5 a6 a7 a8 a9 a10 a11 a12 a13 a14 a15 a16 : Int) (l m : List Int) (hl : l.length ≤ maxLen) (hm : m.length ≤ maxLen) : ∃ r, laws_szFour.f a0 a1 a2 a3 a4 a5 a6 a7 a8 a9 a10 a11 a12 a13 a14 a15 a16 l m s = some r ∧ (¬ r < 0 → r ≤ s ∧ l.length + m.length ≤ 1048576) := by
  unfold laws_szFour.f
  rw [szByteS l _ (by omega) (by omega) hl]
  simp only [Option.bind_some]
  by_cases h : s - l.length < 0
  · rw [if_pos h, if_pos (by decide)]
    exact ⟨-1, rfl, fun hh => absurd (by decide) hh⟩
  · rw [if_neg h, if_neg h, szByteS m _ (by omega) (by omega) hm]
    simp only [Option.bind_some]
    by_cases h' : s - l.length - m.length < 0
    · rw [if_pos h', if_pos (by decide)]
      exact ⟨-1, rfl, fun hh => absurd (by decide) hh⟩
    · rw [if_neg h', if_neg h']
      exact ⟨_, rfl, fun _ => ⟨by omega, by omega⟩⟩
theorem szSixG (s : Int) (h0_ : 0 ≤ s) (h1_ : s ≤ 1048576) (a0 a1 a2 a3 a4 a5 a6 a7 a8 a9 a10 a11 a12 a13 : Int) (l : List S101) (m : List Int) (hl : l.length ≤ maxLen) (hx : ∀ n ∈ l, n.f1.length ≤ maxLen) (hm : m.length ≤ maxLen) {k : Nat} (hk : 3000000 ≤ k) :
    ∃ r, laws_szSix.f k a0 a1 a2 a3 a4 a5 a6 a7 a8 a9 a10 a11 a12 a13 l m s = some r ∧ (¬ r < 0 → r ≤ s ∧ l.length ≤ 1048576 ∧ m.length ≤ 1048576 ∧ ∀ n ∈ l, n.f1.length ≤ 1048576) := by
  have hl' := hl
  unfold maxLen at hl'
  unfold laws_szSix.f laws_szExtS.f
  rw [w64 (n := s - (l.length : Int)) (by omega) (by omega)]
  by_cases h : s - l.length < 0
  · rw [if_pos h]
    simp only [Option.bind_some]
    rw [if_pos (by decide)]
    exact ⟨-1, rfl, fun hh => absurd (by decide) hh⟩
  · rw [if_neg h]
    obtain ⟨r, hr, hc⟩ := szExtS_lG l hx (by omega) l.length k (s - l.length) 0 (by omega) (by omega) (by omega) (by omega) (by omega)
    rw [hr]
    simp only [Option.bind_some]
    by_cases h1 : r < 0
    · rw [if_pos h1]
      exact ⟨-1, rfl, fun hh => absurd (by decide) hh⟩
    · rw [if_neg h1, szByteS m r (by omega) (by have := (hc h1).1; omega) hm]
      simp only [Option.bind_some]
      by_cases h2 : r - m.length < 0
      · rw [if_pos h2, if_pos (by decide)]
        exact ⟨-1, rfl, fun hh => absurd (by decide) hh⟩
      · rw [if_neg h2, if_neg h2]
        have h3 := (hc h1).1
        refine ⟨_, rfl, fun _ => ⟨by omega, by omega, by omega, fun n hn => ?_⟩⟩
        obtain ⟨j, hj, e⟩ := List.getElem_of_mem hn
        have h4 := (hc h1).2 (j : Int) (by omega) (by omega)
        have h5 := rdl_get? (xs := l) (i := (j : Int)) (by omega) (by omega)
        rw [Int.toNat_natCast, List.getElem?_eq_getElem hj, e] at h5
        rw [← Option.some.inj h5] at h4
        omega
theorem szUpperG (s : Int) (h0_ : 0 ≤ s) (h1_ : s ≤ 1048576) (a0 a1 a2 a3 a4 a5 a6 a7 a8 a9 a10 : Int) (a11 : Bool) (l m : List Int) (hl : l.length ≤ maxLen) (hm : m.length ≤ maxLen) : ∃ r, laws_szUpper.f a0 a1 a2 a3 a4 a5 a6 a7 a8 a9 a10 a11 l m s = some r ∧ (¬ r < 0 → r ≤ s ∧ l.length + m.length ≤ 1048576) := by
  unfold laws_szUpper.f
  rw [szByteS l _ (by omega) (by omega) hl]
  simp only [Option.bind_some]
  by_cases h : s - l.length < 0
  · rw [if_pos h, if_pos (by decide)]
    exact ⟨-1, rfl, fun hh => absurd (by decide) hh⟩
  · rw [if_neg h, if_neg h, szByteS m _ (by omega) (by omega) hm]
    simp only [Option.bind_some]
    by_cases h' : s - l.length - m.length < 0
    · rw [if_pos h', if_pos (by decide)]
      exact ⟨-1, rfl, fun hh => absurd (by decide) hh⟩
    · rw [if_neg h', if_neg h']
      exact ⟨_, rfl, fun _ => ⟨by omega, by omega⟩⟩
theorem szPacket (a0 a1 a2 a3 a4 : Int) (l5 : List Int) (a6 a7 a8 a9 a10 a11 a12 a13 a14 a15 a16 a17 a18 a19 a20 a21 a22 : Int) (l23 l24 : List Int) (a25 a26 a27 a28 a29 a30 a31 a32 a33 a34 a35 a36 a37 a38 : Int) (l39 : List S101) (l40 : List Int) (a41 a42 a43 a44 a45 a46 a47 a48 a49 a50 a51 : Int) (a52 : Bool) (l53 l54 l55 : List Int) (m5 : l5.length ≤ maxLen) (m23 : l23.length ≤ maxLen) (m24 : l24.length ≤ maxLen) (m39 : l39.length ≤ maxLen) (mx : ∀ n ∈ l39, n.f1.length ≤ maxLen) (m40 : l40.length ≤ maxLen) (m53 : l53.length ≤ maxLen) (m54 : l54.length ≤ maxLen) (m55 : l55.length ≤ maxLen) {k : Nat} (hk : 3000000 ≤ k) : ∃ r, laws_szPacket.f k a0 a1 a2 a3 a4 l5 a6 a7 a8 a9 a10 a11 a12 a13 a14 a15 a16 a17 a18 a19 a20 a21 a22 l23 l24 a25 a26 a27 a28 a29 a30 a31 a32 a33 a34 a35 a36 a37 a38 l39 l40 a41 a42 a43 a44 a45 a46 a47 a48 a49 a50 a51 a52 l53 l54 l55 1048576 = some r ∧ (¬ r < 0 → l5.length ≤ 1048576 ∧ l23.length + l24.length ≤ 1048576 ∧ l39.length ≤ 1048576 ∧ l40.length ≤ 1048576 ∧ (∀ n ∈ l39, n.f1.length ≤ 1048576) ∧ l53.length + l54.length ≤ 1048576 ∧ l55.length ≤ 1048576) := by
  unfold laws_szPacket.f
  obtain ⟨r1, e1, c1⟩ := szEtherG 1048576 (by omega) (by omega) a1 a2 a3 a4 l5 m5
  rw [e1, Option.bind_some]
  by_cases g1 : r1 < 0
  · rw [if_pos g1]
    exact ⟨-1, rfl, fun hh => absurd (by decide) hh⟩
  rw [if_neg g1]
  obtain ⟨b1, q1⟩ := c1 g1
  obtain ⟨r2, e2, c2⟩ := szFourG r1 (by omega) (by omega) a6 a7 a8 a9 a10 a11 a12 a13 a14 a15 a16 a17 a18 a19 a20 a21 a22 l23 l24 m23 m24
  rw [e2, Option.bind_some]
  by_cases g2 : r2 < 0
  · rw [if_pos g2]
    exact ⟨-1, rfl, fun hh => absurd (by decide) hh⟩
  rw [if_neg g2]
  obtain ⟨b2, q2⟩ := c2 g2
  obtain ⟨r3, e3, c3⟩ := szSixG r2 (by omega) (by omega) a25 a26 a27 a28 a29 a30 a31 a32 a33 a34 a35 a36 a37 a38 l39 l40 m39 mx m40 hk
  rw [e3, Option.bind_some]
  by_cases g3 : r3 < 0
  · rw [if_pos g3]
    exact ⟨-1, rfl, fun hh => absurd (by decide) hh⟩
  rw [if_neg g3]
  obtain ⟨b3, q3, q4, q5⟩ := c3 g3
  obtain ⟨r4, e4, c4⟩ := szUpperG r3 (by omega) (by omega) a41 a42 a43 a44 a45 a46 a47 a48 a49 a50 a51 a52 l53 l54 m53 m54
  rw [e4, Option.bind_some]
  by_cases g4 : r4 < 0
  · rw [if_pos g4]
    exact ⟨-1, rfl, fun hh => absurd (by decide) hh⟩
  rw [if_neg g4]
  obtain ⟨b4, q6⟩ := c4 g4
  rw [szByteS l55 r4 (by omega) (by omega) m55, Option.bind_some]
  by_cases g5 : r4 - l55.length < 0
  · rw [if_pos g5, if_pos (by decide)]
    exact ⟨-1, rfl, fun hh => absurd (by decide) hh⟩
  rw [if_neg g5, if_neg g5]
  exact ⟨_, rfl, fun _ => ⟨q1, q2, q3, q4, q5, q6, by omega⟩⟩
theorem toPacket (a0 a1 a2 a3 a4 : Int) (l5 : List Int) (a6 a7 a8 a9 a10 a11 a12 a13 a14 a15 a16 a17 a18 a19 a20 a21 a22 : Int) (l23 l24 : List Int) (a25 a26 a27 a28 a29 a30 a31 a32 a33 a34 a35 a36 a37 a38 : Int) (l39 : List S101) (l40 : List Int) (a41 a42 a43 a44 a45 a46 a47 a48 a49 a50 a51 : Int) (a52 : Bool) (l53 l54 l55 : List Int) (h5 : l5.length ≤ 1048576) (h24 : l23.length + l24.length ≤ 1048576) (h39 : l39.length ≤ 1048576) (h40 : l40.length ≤ 1048576) (h54 : l53.length + l54.length ≤ 1048576) (h55 : l55.length ≤ 1048576) (hx : ∀ n ∈ l39, n.f1.length ≤ 1048576) {k : Nat} (hk : 3000000 ≤ k) : laws_toPacket.f k a0 a1 a2 a3 a4 l5 a6 a7 a8 a9 a10 a11 a12 a13 a14 a15 a16 a17 a18 a19 a20 a21 a22 l23 l24 a25 a26 a27 a28 a29 a30 a31 a32 a33 a34 a35 a36 a37 a38 l39 l40 a41 a42 a43 a44 a45 a46 a47 a48 a49 a50 a51 a52 l53 l54 l55 = some (a0, a1, a2, a3, a4, l5, a6, a7, a8, a9, a10, a11, a12, a13, a14, a15, a16, a17, a18, a19, a20, a21, a22, l23, l24, a25, a26, a27, a28, a29, a30, a31, a32, a33, a34, a35, a36, a37, a38, l39.map ext, l40, a41, a42, a43, a44, a45, a46, a47, a48, a49, a50, a51, a52, l53, l54, l55) := by
  unfold laws_toPacket.f
  rw [toEther a1 a2 a3 a4 l5 (by omega) (by omega), toFour a6 a7 a8 a9 a10 a11 a12 a13 a14 a15 a16 a17 a18 a19 a20 a21 a22 l23 l24 (by omega) (by omega), toSix a25 a26 a27 a28 a29 a30 a31 a32 a33 a34 a35 a36 a37 a38 l39 l40 h39 hx h40 hk, toUpper a41 a42 a43 a44 a45 a46 a47 a48 a49 a50 a51 a52 l53 l54 (by omega) (by omega), toByteS (xs := l55) (by omega) (by omega)]
  rfl
theorem eqPacket (a0 a1 a2 a3 a4 : Int) (l5 : List Int) (a6 a7 a8 a9 a10 a11 a12 a13 a14 a15 a16 a17 a18 a19 a20 a21 a22 : Int) (l23 l24 : List Int) (a25 a26 a27 a28 a29 a30 a31 a32 a33 a34 a35 a36 a37 a38 : Int) (l39 : List S102) (l40 : List Int) (a41 a42 a43 a44 a45 a46 a47 a48 a49 a50 a51 : Int) (a52 : Bool) (l53 l54 l55 : List Int) (h5 : l5.length ≤ 1048576) (h24 : l23.length + l24.length ≤ 1048576) (h39 : l39.length ≤ 1048576) (h40 : l40.length ≤ 1048576) (h54 : l53.length + l54.length ≤ 1048576) (h55 : l55.length ≤ 1048576) (hx : ∀ n ∈ l39, n.f1.length ≤ 1048576) {k : Nat} (hk : 3000000 ≤ k) : laws_eqPacket.f k a0 a1 a2 a3 a4 l5 a6 a7 a8 a9 a10 a11 a12 a13 a14 a15 a16 a17 a18 a19 a20 a21 a22 l23 l24 a25 a26 a27 a28 a29 a30 a31 a32 a33 a34 a35 a36 a37 a38 l39 l40 a41 a42 a43 a44 a45 a46 a47 a48 a49 a50 a51 a52 l53 l54 l55 a0 a1 a2 a3 a4 l5 a6 a7 a8 a9 a10 a11 a12 a13 a14 a15 a16 a17 a18 a19 a20 a21 a22 l23 l24 a25 a26 a27 a28 a29 a30 a31 a32 a33 a34 a35 a36 a37 a38 l39 l40 a41 a42 a43 a44 a45 a46 a47 a48 a49 a50 a51 a52 l53 l54 l55 = some true := by
  unfold laws_eqPacket.f
  rw [if_pos rfl, eqEther a1 a2 a3 a4 l5 (by omega) (by omega), eqFour a6 a7 a8 a9 a10 a11 a12 a13 a14 a15 a16 a17 a18 a19 a20 a21 a22 l23 l24 (by omega) (by omega), eqSix a25 a26 a27 a28 a29 a30 a31 a32 a33 a34 a35 a36 a37 a38 l39 l40 h39 hx h40 hk, eqUpper a41 a42 a43 a44 a45 a46 a47 a48 a49 a50 a51 a52 l53 l54 (by omega) (by omega), eqByteS (xs := l55) (by omega) (by omega)]
  rfl

theorem specHalf (n : Int) : spec_l03Half.f n = some (decide (Half n)) := by
  unfold spec_l03Half.f Half
  by_cases h : n ≥ 0
  · rw [if_pos h]
    simp [h]
  · rw [if_neg h]
    simp [h]
theorem specAddrOk (k a b c d : Int) : spec_AddrOk.f k a b c d = some (decide (AddrOK k a b c d)) := by
  unfold spec_AddrOk.f
  simp only [specHalf, Option.bind_some]
  unfold AddrOK
  by_cases h4 : k = 4
  · subst h4
    by_cases ha : a = 0 <;> by_cases hb : b = 0 <;> by_cases hc : c = 0 <;> simp [ha, hb, hc]
  · by_cases h6 : k = 6
    · subst h6
      by_cases ha : Half a <;> by_cases hb : Half b <;> by_cases hc : Half c <;> simp [ha, hb, hc]
    · simp [h4, h6]

theorem isLong (n : Int) : impl_isLong.f n = some (decide (Half n)) := by
  unfold impl_isLong.f impl_within.f Half
  by_cases h : n ≥ 0
  · rw [if_pos h]
    simp [h]
  · rw [if_neg h]
    simp [h]
theorem implAddrOk (k a b c d : Int) : impl_AddrOk.f k a b c d = some (decide (AddrOK k a b c d)) := by
  unfold impl_AddrOk.f
  simp only [isLong, Option.bind_some]
  unfold AddrOK
  by_cases h4 : k = 4
  · subst h4
    by_cases ha : a = 0 <;> by_cases hb : b = 0 <;> by_cases hc : c = 0 <;> simp [ha, hb, hc]
  · by_cases h6 : k = 6
    · subst h6
      by_cases ha : Half a <;> by_cases hb : Half b <;> by_cases hc : Half c <;> simp [ha, hb, hc]
    · simp [h4, h6]

theorem isWord (n : Int) : impl_isWord.f n = some (decide (0 ≤ n ∧ n ≤ 65535)) := by
  unfold impl_isWord.f impl_within.f
  by_cases h : n ≥ 0
  · rw [if_pos h]
    simp [h]
  · rw [if_neg h]
    simp [h]

theorem isByte (n : Int) : impl_isByte.f n = some (decide (0 ≤ n ∧ n ≤ 255)) := by
  unfold impl_isByte.f impl_within.f
  by_cases h : n ≥ 0
  · rw [if_pos h]
    simp [h]
  · rw [if_neg h]
    simp [h]

theorem specIn (n m : Int) : spec_l05In.f n m = some (decide (0 ≤ n ∧ n ≤ m)) := by
  unfold spec_l05In.f
  by_cases h : n ≥ 0
  · rw [if_pos h]
    simp [h]
  · rw [if_neg h]
    simp [h]

theorem within (n lo hi : Int) : impl_within.f n lo hi = some (decide (lo ≤ n ∧ n ≤ hi)) := by
  unfold impl_within.f
  by_cases h : n ≥ lo
  · rw [if_pos h]
    simp [h]
  · rw [if_neg h]
    simp [h]

theorem isAddrOf (k a b c d n : Int) : impl_isAddrOf.f k a b c d n = some (decide (AddrOK k a b c d ∧ k = n)) := by
  unfold impl_isAddrOf.f
  rw [implAddrOk]
  simp only [Option.bind_some]
  by_cases h : AddrOK k a b c d
  · rw [decide_eq_true h, if_pos rfl]
    refine some_decide ?_
    simp [h]
  · rw [decide_eq_false h, if_neg Bool.false_ne_true]
    refine some_decide ?_
    simp [h]

theorem areWords_l (xs : List Int) (hn : xs.length ≤ 140737488355328) (d : Nat) : ∀ (k : Nat) (i : Int), 0 ≤ i → i + d = xs.length → d < k → impl_areWords.l0 k xs xs.length i = some (decide (∀ x ∈ xs.drop i.toNat, 0 ≤ x ∧ x ≤ 65535)) := by
  induction d with
  | zero =>
    intro k i h0 hi hk
    obtain ⟨k, rfl⟩ := pos_k hk
    simp only [impl_areWords.l0]
    rw [if_neg (by omega), List.drop_eq_nil_of_le (by omega)]
    simp
  | succ d ih =>
    intro k i h0 hi hk
    obtain ⟨k, rfl⟩ := pos_k hk
    simp only [impl_areWords.l0]
    rw [if_pos (by omega), if_pos (by omega), if_pos (by omega), isWord, drop_rd h0 (by omega)]
    simp only [Option.bind_some]
    rw [w64 (by omega) (by omega), ih k (i + 1) (by omega) (by omega) (by omega)]
    by_cases h : 0 ≤ rd xs i ∧ rd xs i ≤ 65535
    · rw [decide_eq_true h, if_pos (by first | rfl | trivial)]
      simp [h]
    · rw [decide_eq_false h, if_neg Bool.false_ne_true]
      have : ¬ ∀ x ∈ rd xs i :: xs.drop (i + 1).toNat, 0 ≤ x ∧ x ≤ 65535 := fun hh => h (hh _ (by simp))
      rw [decide_eq_false this]
theorem areWords {xs : List Int} (hn : xs.length ≤ 140737488355328) {k : Nat} (hk : xs.length < k) : impl_areWords.f k xs = some (decide (∀ x ∈ xs, 0 ≤ x ∧ x ≤ 65535)) := by
  unfold impl_areWords.f
  rw [areWords_l xs hn xs.length k 0 (by omega) (by omega) hk]
  rfl

theorem areWords2 {a b : Int} {k : Nat} (hk : 10 ≤ k) : impl_areWords.f k [a, b] = some (inB a 0 65535 && inB b 0 65535) := by
  rw [areWords (by simp) (by simp; omega)]
  congr 1
  unfold inB
  rw [Bool.eq_iff_iff]
  simp

def EtherOK (d s t k n : Int) : Prop := (0 ≤ d ∧ d ≤ 281474976710655) ∧ (0 ≤ s ∧ s ≤ 281474976710655) ∧ (-1 ≤ t ∧ t ≤ 65535) ∧ (1536 ≤ k ∧ k ≤ 65535 ∧ k ≠ 33024) ∧ (t ≥ 0 → n ≤ 1582) ∧ (t < 0 → n ≤ 1586)
instance (d s t k n : Int) : Decidable (EtherOK d s t k n) := by unfold EtherOK; infer_instance
theorem specEtherOk (d s t k : Int) (l : List Int) : spec_EtherOk.f d s t k l = some (decide (EtherOK d s t k l.length)) := by
  unfold spec_EtherOk.f
  repeat' split
  all_goals refine some_decide ?_
  all_goals unfold EtherOK
  all_goals (simp only [decide_eq_true_eq, Bool.false_eq_true, false_iff] at *; omega)
theorem implEtherOk (d s t k : Int) (l : List Int) (hl : l.length ≤ 4000000) : impl_EtherOk.f d s t k l = some (decide (EtherOK d s t k l.length)) := by
  unfold impl_EtherOk.f impl_isKind.f impl_within.f impl_headOf.f
  have hw : ∀ n : Int, 0 ≤ n → n ≤ 18 → wrap64 (n + l.length) = n + l.length := fun n h0 h1 => w64 (by omega) (by omega)
  by_cases h1 : d ≥ 0 <;> by_cases h2 : d ≤ 281474976710655 <;> by_cases h3 : s ≥ 0 <;> by_cases h4 : s ≤ 281474976710655 <;> simp only [h1, h2, h3, h4, if_true, if_false, decide_true, decide_false, Option.bind_some, Bool.false_eq_true]
  all_goals first | (refine some_decide ?_; unfold EtherOK; simp only [Bool.false_eq_true, false_iff]; omega) | skip
  by_cases h5 : t ≥ -1 <;> by_cases h6 : t ≤ 65535 <;> by_cases h7 : k ≥ 1536 <;> by_cases h8 : k ≤ 65535 <;> simp only [h5, h6, h7, h8, if_true, if_false, decide_true, decide_false, Option.bind_some, Bool.false_eq_true]
  all_goals first | (refine some_decide ?_; unfold EtherOK; simp only [Bool.false_eq_true, false_iff]; omega) | skip
  by_cases h9 : k = 33024 <;> by_cases h10 : t ≥ 0 <;> simp only [h9, h10, bne_self_eq_false, bne_iff_ne, ne_eq, not_true_eq_false, not_false_eq_true, Bool.false_eq_true, if_true, if_false, Option.bind_some, hw 18 (by omega) (by omega), hw 14 (by omega) (by omega)]
  all_goals (refine some_decide ?_; unfold EtherOK; simp only [Bool.false_eq_true, false_iff, decide_eq_true_eq]; omega)

def FourOK (a0 a1 a2 a3 a4 a5 a6 a7 a8 a9 a10 a11 a12 a13 a14 a15 a16 ol bl : Int) : Prop :=
  (0 ≤ a0 ∧ a0 ≤ 63) ∧ (0 ≤ a1 ∧ a1 ≤ 3) ∧ (0 ≤ a2 ∧ a2 ≤ 65535) ∧ (0 ≤ a3 ∧ a3 ≤ 7) ∧ (0 ≤ a4 ∧ a4 ≤ 8191) ∧ (0 ≤ a5 ∧ a5 ≤ 255) ∧ (0 ≤ a6 ∧ a6 ≤ 255) ∧
  (AddrOK a7 a8 a9 a10 a11 ∧ a7 = 4) ∧ (AddrOK a12 a13 a14 a15 a16 ∧ a12 = 4) ∧ ol ≤ 40 ∧ ol % 4 = 0 ∧ 20 + ol + bl ≤ 1500
instance (a0 a1 a2 a3 a4 a5 a6 a7 a8 a9 a10 a11 a12 a13 a14 a15 a16 ol bl : Int) : Decidable (FourOK a0 a1 a2 a3 a4 a5 a6 a7 a8 a9 a10 a11 a12 a13 a14 a15 a16 ol bl) := by unfold FourOK; infer_instance
theorem specFourOk (a0 a1 a2 a3 a4 a5 a6 a7 a8 a9 a10 a11 a12 a13 a14 a15 a16 : Int) (l m : List Int) (hl : l.length + m.length ≤ 4000000) : spec_FourOk.f a0 a1 a2 a3 a4 a5 a6 a7 a8 a9 a10 a11 a12 a13 a14 a15 a16 l m = some (decide (FourOK a0 a1 a2 a3 a4 a5 a6 a7 a8 a9 a10 a11 a12 a13 a14 a15 a16 l.length m.length)) := by
  have hw : wrap64 (1480 - (l.length : Int)) = 1480 - l.length := w64 (by omega) (by omega)
  unfold spec_FourOk.f
  simp only [specIn, Option.bind_some, specAddrOk, hw, decide_eq_true_eq, if_true, Bool.not_eq_true', decide_eq_false_iff_not]
  repeat' (with_reducible refine ite_goal (fun c_ => ?_) (fun c_ => ?_))
  all_goals refine some_decide ?_
  all_goals unfold FourOK
  all_goals (simp only [Bool.false_eq_true, false_iff, decide_eq_true_eq]; grind)
theorem implFourOk (a0 a1 a2 a3 a4 a5 a6 a7 a8 a9 a10 a11 a12 a13 a14 a15 a16 : Int) (l m : List Int) (hl : l.length + m.length ≤ 4000000) : impl_FourOk.f a0 a1 a2 a3 a4 a5 a6 a7 a8 a9 a10 a11 a12 a13 a14 a15 a16 l m = some (decide (FourOK a0 a1 a2 a3 a4 a5 a6 a7 a8 a9 a10 a11 a12 a13 a14 a15 a16 l.length m.length)) := by
  have hw : wrap64 (20 + (l.length : Int)) = 20 + l.length := w64 (by omega) (by omega)
  have hw2 : wrap64 (20 + (l.length : Int) + m.length) = 20 + l.length + m.length := w64 (by omega) (by omega)
  unfold impl_FourOk.f
  simp only [within, isWord, isByte, Option.bind_some, isAddrOf, impl_fourSize.f, impl_fourHead.f, hw, hw2, decide_eq_true_eq, if_true, Bool.not_eq_true', decide_eq_false_iff_not]
  repeat' (with_reducible refine ite_goal (fun c_ => ?_) (fun c_ => ?_))
  all_goals refine some_decide ?_
  all_goals unfold FourOK
  all_goals (simp only [Bool.false_eq_true, false_iff, decide_eq_true_eq]; grind)

def kindB (n : Int) : Bool := n == 0 || (n == 43 || n == 60)
theorem specInner (n : Int) : spec_l06Inner.f n = some (kindB n) := by
  unfold spec_l06Inner.f kindB
  by_cases h : n = 0
  · rw [if_pos h, h]; rfl
  · rw [if_neg h]
    by_cases h1 : n = 43
    · rw [if_pos h1, h1]; rfl
    · rw [if_neg h1, beq_eq_false_iff_ne.mpr h, beq_eq_false_iff_ne.mpr h1, Bool.false_or, Bool.false_or]
theorem implKind (n : Int) : impl_isExtKind.f n = some (kindB n) := by
  unfold impl_isExtKind.f kindB
  by_cases h : n = 0
  · rw [if_pos h, h]; rfl
  · rw [if_neg h]
    by_cases h1 : n = 43
    · rw [if_pos h1, h1]; rfl
    · rw [if_neg h1, beq_eq_false_iff_ne.mpr h, beq_eq_false_iff_ne.mpr h1, Bool.false_or, Bool.false_or]
def extB (i : Int) (x : S102) : Bool := kindB x.f0 && (decide (i > 0 → x.f0 ≠ 0) && (decide ((x.f1.length : Int) % 8 = 6) && decide ((x.f1.length : Int) ≤ 62)))
def extsB : Int → List S102 → Bool
  | _, [] => true
  | i, x :: r => extB i x && extsB (i + 1) r
def extsN : List S102 → Int
  | [] => 0
  | x :: r => 2 + (x.f1.length : Int) + extsN r
theorem extsN_le {r : List S102} {i : Int} (h : extsB i r = true) : 0 ≤ extsN r ∧ extsN r ≤ 64 * r.length := by
  induction r generalizing i with
  | nil => simp [extsN]
  | cons x r ih =>
    simp only [extsB, extB, Bool.and_eq_true, decide_eq_true_eq] at h
    have := ih h.2
    have h2 := h.1.2.2.2
    simp only [extsN, List.length_cons]
    omega
theorem spec_six_l0 (a0 a1 a2 a3 a4 a5 a6 a7 a8 a9 a10 a11 a12 a13 : Int) (m : List Int) (hm : m.length ≤ 1048576) (R : List S102) : ∀ (A : List S102) (k : Nat) (room i : Int), A.length + R.length ≤ 3 → i = A.length → room ≤ 1460 → 1460 - 64 * i ≤ room → R.length < k →
    spec_SixOk.l0 k room i a0 a1 a2 a3 a4 a5 a6 a7 a8 a9 a10 a11 a12 a13 (A ++ R) m = some (extsB i R && decide (extsN R + (m.length : Int) ≤ room)) := by
  induction R with
  | nil =>
    intro A k room i hA hi h1 h2 hk
    obtain ⟨k, rfl⟩ := pos_k hk
    simp only [spec_SixOk.l0]
    rw [List.append_nil, if_neg (by omega)]
    simp only [extsB, extsN, Bool.true_and, Int.zero_add]
  | cons x R ih =>
    intro A k room i hA hi h1 h2 hk
    obtain ⟨k, rfl⟩ := pos_k hk
    rw [List.length_cons] at hA hk
    have hlt : i < ((A ++ x :: R).length : Int) := by rw [List.length_append, List.length_cons]; omega
    have h0 : 0 ≤ i := by omega
    simp only [spec_SixOk.l0, rdi_at A R x hi, specInner, Option.bind_some]
    rw [if_pos hlt, if_pos h0]
    by_cases hl : (x.f1.length : Int) > 62
    · have he : extB i x = false := by
        unfold extB
        rw [decide_eq_false (show ¬ (x.f1.length : Int) ≤ 62 by omega)]
        simp
      rw [extsB, he, Bool.false_and, Bool.false_and]
      simp only [hl, if_true]
      repeat' (with_reducible refine ite_goal (fun c_ => ?_) (fun c_ => ?_))
      all_goals rfl
    · have ih' := ih (A ++ [x]) k (room - x.f1.length - 2) (i + 1) (by simp; omega) (by simp; omega) (by omega) (by omega) (by omega)
      rw [List.append_assoc, List.singleton_append] at ih'
      rw [w64 (n := room - (x.f1.length : Int)) (by omega) (by omega), w64 (n := room - (x.f1.length : Int) - 2) (by omega) (by omega), w64 (n := i + 1) (by omega) (by omega), ih']
      clear ih ih'
      simp only [hl, if_false]
      rw [extsB, extsN]
      generalize extsB (i + 1) R = b
      generalize extsN R = s
      have e : decide (2 + (x.f1.length : Int) + s + (m.length : Int) ≤ room) = decide (s + (m.length : Int) ≤ room - x.f1.length - 2) := decide_eq_decide.mpr (by omega)
      rw [e]
      generalize decide (s + (m.length : Int) ≤ room - x.f1.length - 2) = q
      unfold extB
      rw [decide_eq_true (show (x.f1.length : Int) ≤ 62 by omega), Bool.and_true]
      repeat' (with_reducible refine ite_goal (fun c_ => ?_) (fun c_ => ?_))
      all_goals simp_all
theorem areExts_l0 (xs : List S102) (hxs : xs.length ≤ 1048576) (R : List S102) : ∀ (A : List S102) (k : Nat) (i : Int), A ++ R = xs → i = A.length → R.length < k →
    impl_areExts.l0 k xs xs (xs.length : Int) i = some (extsB i R && decide ((xs.length : Int) ≤ 3)) := by
  induction R with
  | nil =>
    intro A k i hA hi hk
    obtain ⟨k, rfl⟩ := pos_k hk
    rw [List.append_nil] at hA
    subst hA
    simp only [impl_areExts.l0]
    rw [if_neg (by omega)]
    simp only [extsB, Bool.true_and]
  | cons x R ih =>
    intro A k i hA hi hk
    obtain ⟨k, rfl⟩ := pos_k hk
    rw [List.length_cons] at hk
    have hL : (xs.length : Int) = A.length + (R.length + 1) := by rw [← hA, List.length_append, List.length_cons]; omega
    have ih' := ih (A ++ [x]) k (i + 1) (by rw [List.append_assoc, List.singleton_append, hA]) (by simp; omega) (by omega)
    have hr : rd_T102 xs i = x := by rw [← hA, rdi_at A R x hi]
    simp only [impl_areExts.l0, hr, implKind, Option.bind_some]
    rw [if_pos (by omega), if_pos (by omega), if_pos (by omega), w64 (n := i + 1) (by omega) (by omega), ih']
    clear ih ih' hr
    rw [extsB]
    generalize extsB (i + 1) R = b
    generalize decide ((xs.length : Int) ≤ 3) = q
    unfold extB
    by_cases hl : (x.f1.length : Int) > 62
    · rw [decide_eq_false (show ¬ (x.f1.length : Int) ≤ 62 by omega)]
      simp only [hl, if_true]
      repeat' (with_reducible refine ite_goal (fun c_ => ?_) (fun c_ => ?_))
      all_goals simp_all
    · rw [decide_eq_true (show (x.f1.length : Int) ≤ 62 by omega)]
      simp only [hl, if_false]
      repeat' (with_reducible refine ite_goal (fun c_ => ?_) (fun c_ => ?_))
      all_goals simp_all
theorem areExts (xs : List S102) (hxs : xs.length ≤ 1048576) {k : Nat} (hk : 3000000 ≤ k) : impl_areExts.f k xs = some (extsB 0 xs && decide ((xs.length : Int) ≤ 3)) := by
  unfold impl_areExts.f
  exact areExts_l0 xs hxs xs [] k 0 rfl rfl (by omega)
theorem extsSize_l0 (xs : List S102) (hxs : xs.length ≤ 3) (R : List S102) : ∀ (A : List S102) (k : Nat) (s i : Int), A ++ R = xs → i = A.length → extsB i R = true → 0 ≤ s → s ≤ 64 * i → R.length < k →
    impl_extsSize.l0 k s xs (xs.length : Int) i = some (s + extsN R) := by
  induction R with
  | nil =>
    intro A k s i hA hi hb h1 h2 hk
    obtain ⟨k, rfl⟩ := pos_k hk
    rw [List.append_nil] at hA
    subst hA
    simp only [impl_extsSize.l0]
    rw [if_neg (by omega)]
    simp only [extsN, Int.add_zero]
  | cons x R ih =>
    intro A k s i hA hi hb h1 h2 hk
    obtain ⟨k, rfl⟩ := pos_k hk
    rw [List.length_cons] at hk
    have hL : (xs.length : Int) = A.length + (R.length + 1) := by rw [← hA, List.length_append, List.length_cons]; omega
    simp only [extsB, extB, Bool.and_eq_true, decide_eq_true_eq] at hb
    have hlen := hb.1.2.2.2
    have ih' := ih (A ++ [x]) k (s + (2 + x.f1.length)) (i + 1) (by rw [List.append_assoc, List.singleton_append, hA]) (by simp; omega) hb.2 (by omega) (by omega) (by omega)
    have hr : rd_T102 xs i = x := by rw [← hA, rdi_at A R x hi]
    simp only [impl_extsSize.l0, hr]
    rw [if_pos (by omega), if_pos (by omega), if_pos (by omega), w64 (n := i + 1) (by omega) (by omega), w64 (n := 2 + (x.f1.length : Int)) (by omega) (by omega), w64 (n := s + (2 + (x.f1.length : Int))) (by omega) (by omega), ih', extsN]
    congr 1
    omega
theorem extsSizeI (xs : List S102) (hxs : xs.length ≤ 3) (hb : extsB 0 xs = true) {k : Nat} (hk : 3000000 ≤ k) : impl_extsSize.f k xs = some (extsN xs) := by
  unfold impl_extsSize.f
  rw [extsSize_l0 xs hxs xs [] k 0 0 rfl rfl hb (by omega) (by omega) (by omega), Int.zero_add]
def SixOK (a0 a1 a2 a3 a4 a5 a6 a7 a8 a9 a10 a11 a12 a13 : Int) (xs : List S102) (ml : Int) : Prop :=
  (0 ≤ a0 ∧ a0 ≤ 255) ∧ (0 ≤ a1 ∧ a1 ≤ 1048575) ∧ (0 ≤ a2 ∧ a2 ≤ 255) ∧ (0 ≤ a3 ∧ a3 ≤ 255) ∧ ¬ kindB a3 = true ∧ (AddrOK a4 a5 a6 a7 a8 ∧ a4 = 6) ∧ (AddrOK a9 a10 a11 a12 a13 ∧ a9 = 6) ∧ (xs.length : Int) ≤ 3 ∧ extsB 0 xs = true ∧ 40 + extsN xs + ml ≤ 1500
instance (a0 a1 a2 a3 a4 a5 a6 a7 a8 a9 a10 a11 a12 a13 : Int) (xs : List S102) (ml : Int) : Decidable (SixOK a0 a1 a2 a3 a4 a5 a6 a7 a8 a9 a10 a11 a12 a13 xs ml) := by unfold SixOK; infer_instance
theorem specSixOk (a0 a1 a2 a3 a4 a5 a6 a7 a8 a9 a10 a11 a12 a13 : Int) (xs : List S102) (m : List Int) (hm : m.length ≤ 1048576) {k : Nat} (hk : 3000000 ≤ k) :
    spec_SixOk.f k a0 a1 a2 a3 a4 a5 a6 a7 a8 a9 a10 a11 a12 a13 xs m = some (decide (SixOK a0 a1 a2 a3 a4 a5 a6 a7 a8 a9 a10 a11 a12 a13 xs m.length)) := by
  unfold spec_SixOk.f
  simp only [specIn, Option.bind_some, specAddrOk, specInner, decide_eq_true_eq]
  repeat' (with_reducible refine ite_goal (fun c_ => ?_) (fun c_ => ?_))
  all_goals first
    | (have h3 : xs.length ≤ 3 := by omega
       have key := spec_six_l0 a0 a1 a2 a3 a4 a5 a6 a7 a8 a9 a10 a11 a12 a13 m hm xs [] k 1460 0 (by simpa using h3) rfl (by omega) (by omega) (by omega)
       rw [List.nil_append] at key
       rw [key]
       refine congrArg some ?_
       rw [Bool.eq_iff_iff, Bool.and_eq_true, decide_eq_true_eq, decide_eq_true_eq]
       unfold SixOK
       grind)
    | (refine some_decide ?_
       unfold SixOK
       simp only [Bool.false_eq_true, false_iff]
       grind)
theorem implSixOk (a0 a1 a2 a3 a4 a5 a6 a7 a8 a9 a10 a11 a12 a13 : Int) (xs : List S102) (m : List Int) (hl : xs.length ≤ 1048576) (hm : m.length ≤ 1048576) {k : Nat} (hk : 3000000 ≤ k) :
    impl_SixOk.f k a0 a1 a2 a3 a4 a5 a6 a7 a8 a9 a10 a11 a12 a13 xs m = some (decide (SixOK a0 a1 a2 a3 a4 a5 a6 a7 a8 a9 a10 a11 a12 a13 xs m.length)) := by
  unfold impl_SixOk.f
  simp only [within, isByte, isAddrOf, implKind, areExts xs hl hk, Option.bind_some, decide_eq_true_eq]
  repeat' (with_reducible refine ite_goal (fun c_ => ?_) (fun c_ => ?_))
  all_goals first
    | (have h4 : extsB 0 xs = true ∧ (xs.length : Int) ≤ 3 := by simpa only [Bool.and_eq_true, decide_eq_true_eq] using c_
       have h5 := extsN_le h4.1
       rw [extsSizeI xs (by omega) h4.1 hk, Option.bind_some, w64 (n := 40 + extsN xs) (by omega) (by omega), w64 (n := 40 + extsN xs + (m.length : Int)) (by omega) (by omega)]
       refine congrArg some (decide_eq_decide.mpr ?_)
       unfold SixOK
       grind)
    | (refine some_decide ?_
       unfold SixOK
       simp only [Bool.false_eq_true, false_iff]
       grind)

theorem specExts_l0 (a0 a1 a2 a3 a4 a5 a6 a7 a8 a9 a10 a11 a12 a13 : Int) (m : List Int) (xs : List S102) (hxs : xs.length ≤ 3) (R : List S102) : ∀ (A : List S102) (k : Nat) (s i : Int), A ++ R = xs → i = A.length → extsB i R = true → 0 ≤ s → s ≤ 64 * i → R.length < k →
    spec_ExtsSize.l0 k s i a0 a1 a2 a3 a4 a5 a6 a7 a8 a9 a10 a11 a12 a13 xs m = some (s + extsN R) := by
  induction R with
  | nil =>
    intro A k s i hA hi hb h1 h2 hk
    obtain ⟨k, rfl⟩ := pos_k hk
    rw [List.append_nil] at hA
    subst hA
    simp only [spec_ExtsSize.l0]
    rw [if_neg (by omega)]
    simp only [extsN, Int.add_zero]
  | cons x R ih =>
    intro A k s i hA hi hb h1 h2 hk
    obtain ⟨k, rfl⟩ := pos_k hk
    rw [List.length_cons] at hk
    have hL : (xs.length : Int) = A.length + (R.length + 1) := by rw [← hA, List.length_append, List.length_cons]; omega
    simp only [extsB, extB, Bool.and_eq_true, decide_eq_true_eq] at hb
    have hlen := hb.1.2.2.2
    have ih' := ih (A ++ [x]) k (s + 2 + x.f1.length) (i + 1) (by rw [List.append_assoc, List.singleton_append, hA]) (by simp; omega) hb.2 (by omega) (by omega) (by omega)
    have hr : rd_T102 xs i = x := by rw [← hA, rdi_at A R x hi]
    simp only [spec_ExtsSize.l0, hr]
    rw [if_pos (by omega), if_pos (by omega), w64 (n := i + 1) (by omega) (by omega), w64 (n := s + 2) (by omega) (by omega), w64 (n := s + 2 + (x.f1.length : Int)) (by omega) (by omega), ih', extsN]
    congr 1
    omega
theorem specExtsSize (a0 a1 a2 a3 a4 a5 a6 a7 a8 a9 a10 a11 a12 a13 : Int) (xs : List S102) (m : List Int) (hm : m.length ≤ 1048576) {k : Nat} (hk : 3000000 ≤ k) :
    spec_ExtsSize.f k a0 a1 a2 a3 a4 a5 a6 a7 a8 a9 a10 a11 a12 a13 xs m = some (if SixOK a0 a1 a2 a3 a4 a5 a6 a7 a8 a9 a10 a11 a12 a13 xs m.length then extsN xs else -1) := by
  unfold spec_ExtsSize.f
  rw [specSixOk a0 a1 a2 a3 a4 a5 a6 a7 a8 a9 a10 a11 a12 a13 xs m hm hk, Option.bind_some]
  by_cases h : SixOK a0 a1 a2 a3 a4 a5 a6 a7 a8 a9 a10 a11 a12 a13 xs m.length
  · rw [decide_eq_true h, if_pos rfl, if_pos h]
    obtain ⟨_, _, _, _, _, _, _, h3, hb, _⟩ := h
    rw [specExts_l0 a0 a1 a2 a3 a4 a5 a6 a7 a8 a9 a10 a11 a12 a13 m xs (by omega) xs [] k 0 0 rfl rfl hb (by omega) (by omega) (by omega), Int.zero_add]
  · rw [decide_eq_false h, if_neg Bool.false_ne_true, if_neg h]

def usize (k o b : Int) : Int := if k = 0 then b else if k = 1 then 20 + o + b else if k = 2 then 8 + b else if k = 3 then 8 + b else -1
theorem specUpperSize (a0 a1 a2 a3 a4 a5 a6 a7 a8 a9 a10 : Int) (a11 : Bool) (l m : List Int) (hn : l.length + m.length ≤ 1048576) : spec_UpperSize.f a0 a1 a2 a3 a4 a5 a6 a7 a8 a9 a10 a11 l m = some (usize a0 l.length m.length) := by
  unfold spec_UpperSize.f usize
  rw [w64 (n := 20 + (l.length : Int)) (by omega) (by omega), w64 (n := 20 + (l.length : Int) + m.length) (by omega) (by omega), w64 (n := 8 + (m.length : Int)) (by omega) (by omega)]
  repeat' split
  all_goals rfl
theorem implUpperSize (a0 a1 a2 a3 a4 a5 a6 a7 a8 a9 a10 : Int) (a11 : Bool) (l m : List Int) (hn : l.length + m.length ≤ 1048576) : impl_UpperSize.f a0 a1 a2 a3 a4 a5 a6 a7 a8 a9 a10 a11 l m = some (usize a0 l.length m.length) := by
  unfold impl_UpperSize.f impl_upperHead.f usize
  have w0 : wrap64 (m.length : Int) = m.length := w64 (by omega) (by omega)
  have w8 : wrap64 (8 + (m.length : Int)) = 8 + m.length := w64 (by omega) (by omega)
  have w20 : wrap64 (20 + (l.length : Int)) = 20 + l.length := w64 (by omega) (by omega)
  have w2m : wrap64 (20 + (l.length : Int) + m.length) = 20 + l.length + m.length := w64 (by omega) (by omega)
  by_cases h0 : a0 = 0
  · subst h0
    simp [w0]
  · by_cases h1 : a0 = 1
    · subst h1
      simp [w20, w2m]
    · by_cases h2 : a0 = 2
      · subst h2
        simp [w8]
      · by_cases h3 : a0 = 3
        · subst h3
          simp [w8]
        · simp [h0, h1, h2, h3]

def upK (k : Int) : Bool := decide (k = 4 ∨ k = 6)
def upPorts (a b : Int) : Bool := decide ((0 ≤ a ∧ a ≤ 65535) ∧ (0 ≤ b ∧ b ≤ 65535))
def upZP (a b : Int) : Bool := decide (a = 0 ∧ b = 0)
def upTcp (a3 a4 a5 a6 a7 : Int) (l : List Int) : Bool := decide ((0 ≤ a3 ∧ a3 ≤ 4294967295) ∧ (0 ≤ a4 ∧ a4 ≤ 4294967295) ∧ (0 ≤ a5 ∧ a5 ≤ 4095) ∧ (0 ≤ a6 ∧ a6 ≤ 65535) ∧ (0 ≤ a7 ∧ a7 ≤ 65535) ∧ (l.length : Int) ≤ 40 ∧ (l.length : Int) % 4 = 0)
def upZT (a3 a4 a5 a6 a7 : Int) (l : List Int) : Bool := decide (a3 = 0 ∧ a4 = 0 ∧ a5 = 0 ∧ a6 = 0 ∧ a7 = 0 ∧ (l.length : Int) = 0)
def upIc (a8 a9 a10 : Int) : Bool := decide ((0 ≤ a8 ∧ a8 ≤ 255) ∧ (0 ≤ a9 ∧ a9 ≤ 255) ∧ (0 ≤ a10 ∧ a10 ≤ 4294967295))
def upZI (a8 a9 a10 : Int) : Bool := decide (a8 = 0 ∧ a9 = 0 ∧ a10 = 0)
def upSz (a0 o b : Int) : Bool := decide (0 ≤ usize a0 o b ∧ usize a0 o b ≤ 1500)
/-- Whether an upper packet is right. -/
def upV (a0 a1 a2 a3 a4 a5 a6 a7 a8 a9 a10 : Int) (a11 : Bool) (l : List Int) (b k : Int) : Bool :=
  upK k && upSz a0 l.length b && (if a0 = 1 then upPorts a1 a2 && upTcp a3 a4 a5 a6 a7 l && upZI a8 a9 a10 && !a11
    else if a0 = 2 then upPorts a1 a2 && upZT a3 a4 a5 a6 a7 l && upZI a8 a9 a10 && (!a11 || decide (k = 4))
    else if a0 = 3 then upZP a1 a2 && upZT a3 a4 a5 a6 a7 l && upIc a8 a9 a10 && !a11
    else upZP a1 a2 && upZT a3 a4 a5 a6 a7 l && upZI a8 a9 a10 && !a11)
theorem specHalfU (n : Int) : spec_l03Half.f n = some (decide (0 ≤ n ∧ n ≤ 4294967295)) := by
  unfold spec_l03Half.f
  by_cases h : n ≥ 0
  · rw [if_pos h]
    simp [h]
  · rw [if_neg h]
    simp [h]
theorem isLongU (n : Int) : impl_isLong.f n = some (decide (0 ≤ n ∧ n ≤ 4294967295)) := by
  unfold impl_isLong.f
  rw [within, Option.bind_some]
theorem upS1 (k : Int) : spec_UpperOk.F1 k = some (!upK k) := by
  unfold spec_UpperOk.F1 upK
  repeat' split
  all_goals simp <;> omega
theorem upS3 (a : Int) : spec_UpperOk.F3 a = some (decide (a = 1 ∨ a = 2)) := by
  unfold spec_UpperOk.F3
  repeat' split
  all_goals simp <;> omega
theorem upS4 (a b : Int) (c : Bool) : spec_UpperOk.F4 a b c = some (!(upPorts a b && (c || upZP a b))) := by
  unfold spec_UpperOk.F4 upPorts upZP
  simp only [specIn, Option.bind_some, decide_eq_true_eq]
  cases c
  all_goals simp only [Bool.false_eq_true, if_false, if_true]
  all_goals (repeat' split)
  all_goals (congr 1; rw [Bool.eq_iff_iff]; simp only [Bool.not_eq_true', Bool.and_eq_false_iff, Bool.or_eq_false_iff, decide_eq_false_iff_not, Bool.true_or, Bool.false_or, Bool.and_true, Bool.false_eq_true, false_iff, true_iff, reduceCtorEq, or_false]; omega)
theorem upS7 (a3 a4 a5 a6 a7 : Int) (l : List Int) : spec_UpperOk.F7 a3 a4 a5 a6 a7 l = some (!upTcp a3 a4 a5 a6 a7 l) := by
  unfold spec_UpperOk.F7 upTcp
  simp only [specIn, specHalfU, Option.bind_some, decide_eq_true_eq]
  repeat' split
  all_goals simp <;> omega
theorem upS9 (a3 a4 a5 a6 a7 : Int) (l : List Int) : spec_UpperOk.F9 a3 a4 a5 a6 a7 l = some (!upZT a3 a4 a5 a6 a7 l) := by
  unfold spec_UpperOk.F9 upZT
  generalize (l.length : Int) = n
  repeat' split
  all_goals simp <;> omega
theorem upS12 (a8 a9 a10 : Int) : spec_UpperOk.F12 a8 a9 a10 = some (!upIc a8 a9 a10) := by
  unfold spec_UpperOk.F12 upIc
  simp only [specIn, specHalfU, Option.bind_some, decide_eq_true_eq]
  repeat' split
  all_goals simp <;> omega
theorem upS14 (a8 a9 a10 : Int) : spec_UpperOk.F14 a8 a9 a10 = some (!upZI a8 a9 a10) := by
  unfold spec_UpperOk.F14 upZI
  repeat' split
  all_goals simp <;> omega
theorem upS16 (a0 : Int) (b : Bool) (k : Int) : spec_UpperOk.F16 a0 b k = some (b && !(decide (a0 = 2) && decide (k = 4))) := by
  unfold spec_UpperOk.F16
  cases b
  · rfl
  · repeat' split
    all_goals simp [*] at *
theorem upZP_ports {a b : Int} (h : upZP a b = true) : upPorts a b = true := by
  unfold upZP at h
  unfold upPorts
  simp only [decide_eq_true_eq] at h ⊢
  omega
theorem upSz_ite (u : Int) : (if u ≥ 0 then (if u ≤ 1500 then (some true : Option Bool) else some false) else some false) = some (decide (0 ≤ u ∧ u ≤ 1500)) := by
  repeat' split
  all_goals simp <;> omega
theorem specUpperOk (a0 a1 a2 a3 a4 a5 a6 a7 a8 a9 a10 : Int) (a11 : Bool) (l m : List Int) (k : Int) (hn : l.length + m.length ≤ 1048576) : spec_UpperOk.f a0 a1 a2 a3 a4 a5 a6 a7 a8 a9 a10 a11 l m k = some (upV a0 a1 a2 a3 a4 a5 a6 a7 a8 a9 a10 a11 l m.length k) := by
  unfold spec_UpperOk.f
  simp only [upS1, upS3, upS4, upS7, upS9, upS12, upS14, upS16, specUpperSize _ _ _ _ _ _ _ _ _ _ _ _ l m hn, Option.bind_some, upSz_ite]
  unfold upV
  have hz := @upZP_ports a1 a2
  have hs : decide (0 ≤ usize a0 (l.length : Int) (m.length : Int) ∧ usize a0 (l.length : Int) (m.length : Int) ≤ 1500) = upSz a0 l.length m.length := rfl
  simp only [hs]
  by_cases h1 : a0 = 1
  · subst h1
    generalize upSz 1 _ _ = z
    generalize upTcp a3 a4 a5 a6 a7 l = t
    generalize upZI a8 a9 a10 = i
    generalize upPorts a1 a2 = p
    generalize upK k = q
    cases z <;> cases t <;> cases i <;> cases p <;> cases q <;> cases a11 <;> rfl
  · by_cases h2 : a0 = 2
    · subst h2
      generalize upSz 2 _ _ = z
      generalize upZT a3 a4 a5 a6 a7 l = t
      generalize upZI a8 a9 a10 = i
      generalize upPorts a1 a2 = p
      generalize upK k = q
      generalize decide (k = 4) = x
      cases z <;> cases t <;> cases i <;> cases p <;> cases q <;> cases a11 <;> cases x <;> rfl
    · have hd : decide (a0 = 1 ∨ a0 = 2) = false := decide_eq_false (by omega)
      have hd2 : decide (a0 = 2) = false := decide_eq_false h2
      rw [hd, hd2]
      simp only [if_neg h1, if_neg h2]
      by_cases h3 : a0 = 3
      · subst h3
        simp only [if_true]
        generalize upSz 3 _ _ = z
        generalize upZT a3 a4 a5 a6 a7 l = t
        generalize upIc a8 a9 a10 = i
        generalize upPorts a1 a2 = p at hz ⊢
        generalize upZP a1 a2 = y at hz ⊢
        generalize upK k = q
        cases z <;> cases t <;> cases i <;> cases p <;> cases y <;> cases q <;> cases a11 <;> first | rfl | exact absurd (hz rfl) (by decide)
      · simp only [if_neg h3]
        generalize upSz a0 _ _ = z
        generalize upZT a3 a4 a5 a6 a7 l = t
        generalize upZI a8 a9 a10 = i
        generalize upPorts a1 a2 = p at hz ⊢
        generalize upZP a1 a2 = y at hz ⊢
        generalize upK k = q
        cases z <;> cases t <;> cases i <;> cases p <;> cases y <;> cases q <;> cases a11 <;> first | rfl | exact absurd (hz rfl) (by decide)
theorem upI1 (a0 a1 a2 a3 a4 a5 a6 a7 a8 a9 a10 : Int) (a11 : Bool) (l m : List Int) (k : Int) (hn : l.length + m.length ≤ 1048576) : impl_UpperOk.F1 a0 a1 a2 a3 a4 a5 a6 a7 a8 a9 a10 a11 l m k = some (!(upK k && upSz a0 l.length m.length)) := by
  unfold impl_UpperOk.F1 upK upSz
  simp only [implUpperSize _ _ _ _ _ _ _ _ _ _ _ _ l m hn, Option.bind_some]
  generalize usize _ _ _ = u
  repeat' split
  all_goals simp <;> omega
theorem upI4 {f : Nat} (hf : 10 ≤ f) (a3 a4 a5 a6 a7 : Int) (l : List Int) : impl_UpperOk.F4 f a3 a4 a5 a6 a7 l = some (upTcp a3 a4 a5 a6 a7 l) := by
  unfold impl_UpperOk.F4 upTcp
  simp only [areWords2 hf, inB, isLongU, within, Option.bind_some, Bool.and_eq_true, decide_eq_true_eq]
  generalize (l.length : Int) = n
  repeat' split
  all_goals simp <;> omega
theorem upI5 (a8 a9 a10 : Int) : impl_UpperOk.F5 a8 a9 a10 = some (upIc a8 a9 a10) := by
  unfold impl_UpperOk.F5 upIc
  simp only [isByte, isLongU, Option.bind_some, decide_eq_true_eq]
  repeat' split
  all_goals (congr 1; rw [Bool.eq_iff_iff]; simp only [decide_eq_true_eq, Bool.false_eq_true, false_iff]; omega)
theorem areZero {xs : List Int} (h : xs.length ≤ 100) : impl_areZero.f xs = some (!xs.any (· != 0)) := by
  unfold impl_areZero.f
  rw [if_pos (by omega)]
theorem zero3 (a b c : Int) : impl_areZero.f [a, b, c] = some (upZI a b c) := by
  rw [areZero (by simp)]
  unfold upZI
  congr 1
  rw [Bool.eq_iff_iff]
  simp
theorem zero9 (a b c d e f g h i : Int) (l : List Int) (hi : i = l.length) : impl_areZero.f [a, b, c, d, e, f, g, h, i] = some (upZT a b c d e l && upZI f g h) := by
  rw [areZero (by simp)]
  unfold upZI upZT
  congr 1
  rw [Bool.eq_iff_iff]
  simp only [List.any_cons, List.any_nil, Bool.or_false, Bool.not_eq_true', Bool.or_eq_false_iff, bne_eq_false_iff_eq, Bool.and_eq_true, decide_eq_true_eq]
  omega
theorem zero8 (a b c d e f g i : Int) (l : List Int) (hi : i = l.length) : impl_areZero.f [a, b, c, d, e, f, g, i] = some (upZP a b && upZT c d e f g l) := by
  rw [areZero (by simp)]
  unfold upZP upZT
  congr 1
  rw [Bool.eq_iff_iff]
  simp only [List.any_cons, List.any_nil, Bool.or_false, Bool.not_eq_true', Bool.or_eq_false_iff, bne_eq_false_iff_eq, Bool.and_eq_true, decide_eq_true_eq]
  omega
theorem zero11 (a b c d e f g h j n i : Int) (l : List Int) (hi : i = l.length) : impl_areZero.f [a, b, c, d, e, f, g, h, j, n, i] = some (upZP a b && upZT c d e f g l && upZI h j n) := by
  rw [areZero (by simp)]
  unfold upZP upZT upZI
  congr 1
  rw [Bool.eq_iff_iff]
  simp only [List.any_cons, List.any_nil, Bool.or_false, Bool.not_eq_true', Bool.or_eq_false_iff, bne_eq_false_iff_eq, Bool.and_eq_true, decide_eq_true_eq]
  omega
theorem words2 {f : Nat} (hf : 10 ≤ f) (a b : Int) : impl_areWords.f f [a, b] = some (upPorts a b) := by
  rw [areWords2 hf]
  unfold inB upPorts
  congr 1
  rw [Bool.eq_iff_iff]
  simp
theorem implUpperOk {f : Nat} (hf : 10 ≤ f) (a0 a1 a2 a3 a4 a5 a6 a7 a8 a9 a10 : Int) (a11 : Bool) (l m : List Int) (k : Int) (hn : l.length + m.length ≤ 1048576) : impl_UpperOk.f f a0 a1 a2 a3 a4 a5 a6 a7 a8 a9 a10 a11 l m k = some (upV a0 a1 a2 a3 a4 a5 a6 a7 a8 a9 a10 a11 l m.length k) := by
  unfold impl_UpperOk.f
  simp only [upI1 _ _ _ _ _ _ _ _ _ _ _ _ l m k hn, upI4 hf, upI5, words2 hf, zero3, zero9 _ _ _ _ _ _ _ _ _ l rfl, zero8 _ _ _ _ _ _ _ _ l rfl, zero11 _ _ _ _ _ _ _ _ _ _ _ l rfl, Option.bind_some]
  unfold upV
  by_cases h1 : a0 = 1
  · subst h1
    generalize upSz 1 _ _ = z
    generalize upTcp a3 a4 a5 a6 a7 l = t
    generalize upZI a8 a9 a10 = i
    generalize upPorts a1 a2 = p
    generalize upK k = q
    cases z <;> cases t <;> cases i <;> cases p <;> cases q <;> cases a11 <;> rfl
  · by_cases h2 : a0 = 2
    · subst h2
      have hk : ∀ b : Option Bool, (if k = 4 then (some true : Option Bool) else some false) = some (decide (k = 4)) := fun _ => by split <;> simp [*]
      simp only [hk none]
      generalize decide (k = 4) = x
      generalize upSz 2 _ _ = z
      generalize upZT a3 a4 a5 a6 a7 l = t
      generalize upZI a8 a9 a10 = i
      generalize upPorts a1 a2 = p
      generalize upK k = q
      cases z <;> cases t <;> cases i <;> cases p <;> cases q <;> cases a11 <;> cases x <;> rfl
    · simp only [if_neg h1, if_neg h2]
      by_cases h3 : a0 = 3
      · subst h3
        simp only [if_true]
        generalize upSz 3 _ _ = z
        generalize upZT a3 a4 a5 a6 a7 l = t
        generalize upIc a8 a9 a10 = i
        generalize upZP a1 a2 = y
        generalize upK k = q
        cases z <;> cases t <;> cases i <;> cases y <;> cases q <;> cases a11 <;> rfl
      · simp only [if_neg h3]
        generalize upSz a0 _ _ = z
        generalize upZT a3 a4 a5 a6 a7 l = t
        generalize upZI a8 a9 a10 = i
        generalize upZP a1 a2 = y
        generalize upK k = q
        cases z <;> cases t <;> cases i <;> cases y <;> cases q <;> cases a11 <;> rfl

theorem shr_nat (x : Int) (n : Nat) (h : n ≤ 64) (y : Int) (hy : y = n) : shr .i64 x y = x / 2 ^ n := by
  subst hy
  unfold shr
  rw [Int.toNat_natCast, Nat.min_eq_left (by exact h)]
theorem put_step (k : Nat) (a n : Int) (ys : List Int) (L i : Int) (m : Nat) (hL : L = ys.length) (h0 : 0 ≤ i) (h : i < L) (hn : n = L) (hn1 : n ≤ 8) (hm : (m : Int) = 8 * (n - 1 - i)) :
    impl_put.l0 (k + 1) a n ys L i = impl_put.l0 k a n (ys.set i.toNat (a / 2 ^ m % 256)) L (i + 1) := by
  simp only [impl_put.l0]
  rw [if_pos h, w64 (n := n - 1) (by omega) (by omega), w64 (n := n - 1 - i) (by omega) (by omega), w64 (n := 8 * (n - 1 - i)) (by omega) (by omega), if_pos (by omega), if_pos h0, if_pos (by omega),
    shr_nat a m (by omega) _ hm.symm, w64 (by omega) (by omega)]
theorem put_end (k : Nat) (a n : Int) (ys : List Int) (L i : Int) (h : ¬ i < L) : impl_put.l0 (k + 1) a n ys L i = some ys := by
  simp only [impl_put.l0]
  rw [if_neg h]
theorem put2 {k : Nat} (hk : 10 ≤ k) {a : Int} : impl_put.f k a 2 = some [a / 256 % 256, a % 256] := by
  obtain ⟨k, rfl⟩ : ∃ m, k = m + 3 := ⟨k - 3, by omega⟩
  unfold impl_put.f
  rw [if_pos (by decide), if_pos (by decide)]
  simp only [Option.bind_some]
  rw [put_step _ _ _ _ _ _ 8 (by simp) (by decide) (by decide) (by decide) (by decide) (by decide)]
  rw [put_step _ _ _ _ _ _ 0 (by simp) (by decide) (by decide) (by decide) (by decide) (by decide)]
  rw [put_end _ _ _ _ _ _ (by decide)]
  congr 1
  simp [List.replicate, List.set]
theorem put4 {k : Nat} (hk : 10 ≤ k) {a : Int} : impl_put.f k a 4 = some [a / 16777216 % 256, a / 65536 % 256, a / 256 % 256, a % 256] := by
  obtain ⟨k, rfl⟩ : ∃ m, k = m + 5 := ⟨k - 5, by omega⟩
  unfold impl_put.f
  rw [if_pos (by decide), if_pos (by decide)]
  simp only [Option.bind_some]
  rw [put_step _ _ _ _ _ _ 24 (by simp) (by decide) (by decide) (by decide) (by decide) (by decide)]
  rw [put_step _ _ _ _ _ _ 16 (by simp) (by decide) (by decide) (by decide) (by decide) (by decide)]
  rw [put_step _ _ _ _ _ _ 8 (by simp) (by decide) (by decide) (by decide) (by decide) (by decide)]
  rw [put_step _ _ _ _ _ _ 0 (by simp) (by decide) (by decide) (by decide) (by decide) (by decide)]
  rw [put_end _ _ _ _ _ _ (by decide)]
  congr 1
  simp [List.replicate, List.set]
theorem implPut16 {k : Nat} (hk : 10 ≤ k) (a : Int) : impl_Put16.f k a = some (b2 a) := by
  unfold impl_Put16.f
  rw [put2 hk]
  rfl

theorem specLow {a m : Int} (_ha : -9223372036854775808 ≤ a ∧ a ≤ 9223372036854775807) (hm0 : 0 < m) (hm1 : m ≤ 4294967296) : spec_l01Low.f a m = some (a % m) := by
  unfold spec_l01Low.f
  have h1 := Int.emod_nonneg a (show m ≠ 0 by omega)
  have h2 := Int.emod_lt_of_pos a hm0
  have h3 := Int.tmod_eq_emod (a := a) (b := m)
  rw [if_neg (by omega)]
  by_cases h : 0 ≤ a
  · rw [tmod_pos h, if_neg (by omega)]
  · have e := Int.emod_def a m
    by_cases hz : m ∣ a
    · have h4 : Int.tmod a m = 0 := Int.tmod_eq_zero_of_dvd hz
      have h5 : a % m = 0 := Int.emod_eq_zero_of_dvd hz
      rw [h4, h5, if_neg (by omega)]
    · have h4 : Int.tmod a m = a % m - m := by
        rw [h3, if_neg (by intro hh; rcases hh with hh | hh; exact h hh; exact hz hh)]
        omega
      rw [h4, if_pos (by omega), w64 (by omega) (by omega)]
      congr 1
      omega

theorem specPut16 {a : Int} (hb : -9223372036854775808 ≤ a ∧ a ≤ 9223372036854775807) : spec_Put16.f a = some [a / 256 % 256, a % 256] := by
  unfold spec_Put16.f
  rw [specLow hb (by omega) (by omega)]
  simp only [Option.bind_some]
  rw [tdiv_pos (by omega), tmod_pos (by omega), w64 (by omega) (by omega), show a % 65536 / 256 % 256 = a / 256 % 256 by omega, show a % 65536 % 256 % 256 = a % 256 by omega]

theorem specPut32 {a : Int} (hb : -9223372036854775808 ≤ a ∧ a ≤ 9223372036854775807) : spec_Put32.f a = some [a / 16777216 % 256, a / 65536 % 256, a / 256 % 256, a % 256] := by
  unfold spec_Put32.f
  rw [specLow hb (by omega) (by omega)]
  simp only [Option.bind_some]
  rw [tdiv_pos (by omega), tmod_pos (by omega), w64 (by omega) (by omega), specPut16 (by omega), specPut16 (by omega)]
  simp only [Option.bind_some]
  rw [if_pos (by simp), show a % 4294967296 / 65536 / 256 % 256 = a / 16777216 % 256 by omega, show a % 4294967296 / 65536 % 256 = a / 65536 % 256 by omega, show a % 4294967296 % 65536 / 256 % 256 = a / 256 % 256 by omega, show a % 4294967296 % 65536 % 256 = a % 256 by omega]
  rfl

theorem grow {n : Int} (h0 : 0 ≤ n) (h1 : n ≤ 140737488355328) (l : List Int) : slices_Grow_byte_byte.f l n = some [] := by
  unfold slices_Grow_byte_byte.f
  rw [if_pos h0, if_pos h1]
theorem concat_l1 (ls : List (List Int)) (hn : ls.length ≤ 1000) (d : Nat) : ∀ (k : Nat) (acc : List Int) (i : Int), 0 ≤ i → i + d = ls.length → d < k → acc.length + ((ls.drop i.toNat).flatten).length < 140737488355328 → slices_Concat_byte_byte.l1 k acc ls ls.length i = some (acc ++ (ls.drop i.toNat).flatten) := by
  induction d with
  | zero =>
    intro k acc i h0 hi hk hl
    obtain ⟨k, rfl⟩ := pos_k hk
    simp only [slices_Concat_byte_byte.l1]
    rw [if_neg (by omega), List.drop_eq_nil_of_le (by omega)]
    simp
  | succ d ih =>
    intro k acc i h0 hi hk hl
    obtain ⟨k, rfl⟩ := pos_k hk
    have e : ls.drop i.toNat = rd_L2 ls i :: ls.drop (i + 1).toNat := dropG ([] : List Int) h0 (show i < ls.length by omega)
    rw [e, List.flatten_cons, List.length_append] at hl
    simp only [slices_Concat_byte_byte.l1]
    rw [if_pos (by omega), if_pos h0, if_pos (by omega), if_pos (by omega), w64 (by omega) (by omega), ih k _ (i + 1) (by omega) (by omega) (by omega) (by rw [List.length_append]; omega), e, List.flatten_cons, List.append_assoc]
theorem concat_l0 (ls : List (List Int)) (hn : ls.length ≤ 1000) (hb : ls.flatten.length < 140737488355328) (d : Nat) : ∀ (k : Nat) (s i : Int), 0 ≤ i → i + d = ls.length → d + ls.length + 10 < k → 0 ≤ s → s + ((ls.drop i.toNat).flatten).length < 140737488355328 → slices_Concat_byte_byte.l0 k ls s ls ls.length i = some ls.flatten := by
  induction d with
  | zero =>
    intro k s i h0 hi hk hs hl
    obtain ⟨k, rfl⟩ := pos_k hk
    simp only [slices_Concat_byte_byte.l0]
    rw [if_neg (by omega), grow hs (by omega)]
    simp only [Option.bind_some]
    rw [concat_l1 ls hn ls.length k [] 0 (by omega) (by omega) (by omega) (by simpa using hb)]
    simp
  | succ d ih =>
    intro k s i h0 hi hk hs hl
    obtain ⟨k, rfl⟩ := pos_k hk
    have e : ls.drop i.toNat = rd_L2 ls i :: ls.drop (i + 1).toNat := dropG ([] : List Int) h0 (show i < ls.length by omega)
    rw [e, List.flatten_cons, List.length_append] at hl
    simp only [slices_Concat_byte_byte.l0]
    rw [if_pos (by omega), if_pos h0, if_pos (by omega), w64 (n := s + ((rd_L2 ls i).length : Int)) (by omega) (by omega), if_neg (by omega), w64 (by omega) (by omega), ih k _ (i + 1) (by omega) (by omega) (by omega) (by omega) (by omega)]
theorem concat {ls : List (List Int)} (hn : ls.length ≤ 1000) (hb : ls.flatten.length < 140737488355328) {k : Nat} (hk : 2 * ls.length + 10 < k) : slices_Concat_byte_byte.f k ls = some ls.flatten := by
  unfold slices_Concat_byte_byte.f
  rw [concat_l0 ls hn hb ls.length k 0 0 (by omega) (by omega) (by omega) (by omega) (by show (0 : Int) + (ls.flatten.length : Int) < _; omega)]

theorem specAddrBytes (k a b c d : Int) : spec_AddrBytes.f k a b c d = some (addrBytes k a b c d) := by
  unfold spec_AddrBytes.f addrBytes
  rw [specAddrOk]
  simp only [Option.bind_some]
  by_cases h : AddrOK k a b c d
  · rw [decide_eq_true h, if_pos rfl, if_pos h]
    have h' := h
    unfold AddrOK Half at h'
    by_cases h4 : k = 4
    · rw [if_pos h4, if_pos h4, specPut32 (by omega)]
      rfl
    · rw [if_neg h4, if_neg h4, specPut32 (a := a) (by omega), specPut32 (a := b) (by omega), specPut32 (a := c) (by omega), specPut32 (a := d) (by omega)]
      simp only [Option.bind_some]
      rw [if_pos (by simp), if_pos (by simp), if_pos (by simp)]
      rfl
  · rw [decide_eq_false h, if_neg Bool.false_ne_true, if_neg h]
theorem implPut32 {k : Nat} (hk : 10 ≤ k) (a : Int) : impl_Put32.f k a = some (b4 a) := by
  unfold impl_Put32.f
  rw [put4 hk]
  rfl
theorem implAddrBytes {n : Nat} (hn : 30 ≤ n) (k a b c d : Int) : impl_AddrBytes.f n k a b c d = some (addrBytes k a b c d) := by
  unfold impl_AddrBytes.f addrBytes
  rw [implAddrOk]
  simp only [Option.bind_some]
  by_cases h : AddrOK k a b c d
  · rw [decide_eq_true h, if_pos rfl, if_pos h]
    by_cases h4 : k = 4
    · rw [if_pos h4, if_pos h4, implPut32 (by omega)]
      rfl
    · rw [if_neg h4, if_neg h4, implPut32 (by omega), implPut32 (by omega), implPut32 (by omega), implPut32 (by omega)]
      simp only [Option.bind_some]
      rw [concat (by simp) (by simp [b4]) (by simp; omega)]
      simp
  · rw [decide_eq_false h, if_neg Bool.false_ne_true, if_neg h]
theorem addrBytes_len (k a b c d : Int) : (addrBytes k a b c d).length ≤ 16 := by
  unfold addrBytes
  split
  · split <;> simp [b4]
  · simp
theorem addrBytes_u8 (k a b c d : Int) : U8 (addrBytes k a b c d) := by
  unfold addrBytes
  split
  · split
    · exact U8.b4 _
    · exact (U8.b4 _).append ((U8.b4 _).append ((U8.b4 _).append (U8.b4 _)))
  · exact U8.nil

theorem implSum {a b : Int} (h0 : 0 ≤ a) (h1 : a ≤ 65535) (h2 : 0 ≤ b) (h3 : b ≤ 65535) : impl_sum.f a b = some (osum a b) := by
  unfold impl_sum.f osum
  rw [w64 (n := a + b) (by omega) (by omega), w64 (by omega) (by omega)]
  split <;> rfl

theorem specWord (n : Int) : spec_l02Word.f n = some (decide (0 ≤ n ∧ n ≤ 65535)) := by
  unfold spec_l02Word.f
  by_cases h : n ≥ 0
  · rw [if_pos h]
    simp [h]
  · rw [if_neg h]
    simp [h]
theorem specSumAdd {a b : Int} (_h : 0 < 1) : spec_SumAdd.f a b = some (if (0 ≤ a ∧ a ≤ 65535) ∧ (0 ≤ b ∧ b ≤ 65535) then osum a b else -1) := by
  unfold spec_SumAdd.f
  rw [specWord, specWord]
  simp only [Option.bind_some]
  by_cases h : 0 ≤ a ∧ a ≤ 65535
  · by_cases h' : 0 ≤ b ∧ b ≤ 65535
    · rw [decide_eq_true h, decide_eq_true h']
      simp only [if_true]
      rw [if_pos (show (0 ≤ a ∧ a ≤ 65535) ∧ (0 ≤ b ∧ b ≤ 65535) from ⟨h, h'⟩)]
      unfold osum
      rw [w64 (n := a + b) (by omega) (by omega), w64 (by omega) (by omega)]
      split <;> rfl
    · rw [decide_eq_true h, decide_eq_false h', if_pos (by first | rfl | trivial), if_neg Bool.false_ne_true, if_neg (fun hh => h' hh.2)]
  · rw [decide_eq_false h, if_neg Bool.false_ne_true, if_neg (fun hh => h hh.1)]

theorem specOnes_l (xs : List Int) (hx : U8 xs) (hn : xs.length ≤ 140737488355328) (d : Nat) : ∀ (k : Nat) (s i : Int), 0 ≤ i → (xs.length : Int) - i ≤ d → i ≤ xs.length + 1 → d + 1 < k → 0 ≤ s → s ≤ 65535 → spec_OnesSum.l0 k xs s i = some (ones (xs.drop i.toNat) s) := by
  induction d with
  | zero =>
    intro k s i h0 hi _ hk _ _
    obtain ⟨k, rfl⟩ := pos_k hk
    simp only [spec_OnesSum.l0]
    rw [if_neg (by omega), List.drop_eq_nil_of_le (by omega)]
    rfl
  | succ d ih =>
    intro k s i h0 hi hi2 hk hs0 hs1
    obtain ⟨k, rfl⟩ := pos_k hk
    by_cases hlt : i < xs.length
    · have hb := hx.byte i
      simp only [spec_OnesSum.l0]
      rw [if_pos hlt, if_pos h0, w64 (n := i + 1) (by omega) (by omega), w64 (n := rd xs i) (by omega) (by omega), w64 (n := 256 * rd xs i) (by omega) (by omega), w64 (n := i + 2) (by omega) (by omega), drop_rd h0 hlt]
      by_cases h2 : i + 1 < xs.length
      · have hc := hx.byte (i + 1)
        have ho := osum_word hs0 hs1 (show 0 ≤ rd xs i * 256 + rd xs (i + 1) by omega) (by omega)
        rw [if_pos h2, if_pos (by omega), w64 (n := rd xs (i + 1)) (by omega) (by omega), w64 (n := 256 * rd xs i + rd xs (i + 1)) (by omega) (by omega), specSumAdd (by omega), if_pos ⟨⟨by omega, by omega⟩, by omega, by omega⟩]
        simp only [Option.bind_some]
        rw [Int.mul_comm 256, ih k _ (i + 2) (by omega) (by omega) (by omega) (by omega) ho.1 ho.2, drop_rd (i := i + 1) (by omega) h2, show i + 1 + 1 = i + 2 by omega]
        rfl
      · have ho := osum_word hs0 hs1 (show 0 ≤ rd xs i * 256 by omega) (by omega)
        rw [if_neg h2, specSumAdd (by omega), if_pos ⟨⟨by omega, by omega⟩, by omega, by omega⟩]
        simp only [Option.bind_some]
        rw [Int.mul_comm 256, ih k _ (i + 2) (by omega) (by omega) (by omega) (by omega) ho.1 ho.2, List.drop_eq_nil_of_le (i := (i + 1).toNat) (by omega), List.drop_eq_nil_of_le (i := (i + 2).toNat) (by omega)]
        rfl
    · simp only [spec_OnesSum.l0]
      rw [if_neg hlt, List.drop_eq_nil_of_le (by omega)]
      rfl
theorem specOnesSum {xs : List Int} (hx : U8 xs) {k : Nat} (hk : xs.length + 10 < k) : spec_OnesSum.f k xs = some (if (xs.length : Int) > 2000 then -1 else ones xs 0) := by
  unfold spec_OnesSum.f
  by_cases h : (xs.length : Int) > 2000
  · rw [if_pos h, if_pos h]
  · rw [if_neg h, if_neg h, specOnes_l xs hx (by omega) xs.length k 0 0 (by omega) (by omega) (by omega) (by omega) (by omega) (by omega)]
    rfl

theorem implOnes_l (xs : List Int) (hx : U8 xs) (hn : xs.length ≤ 140737488355328) (d : Nat) : ∀ (k : Nat) (s i : Int), 0 ≤ i → (xs.length : Int) - i ≤ d → i ≤ xs.length + 1 → d + 1 < k → 0 ≤ s → s ≤ 65535 → impl_onesSum.l0 k xs s i = some (ones (xs.drop i.toNat) s) := by
  induction d with
  | zero =>
    intro k s i h0 hi _ hk _ _
    obtain ⟨k, rfl⟩ := pos_k hk
    simp only [impl_onesSum.l0]
    rw [if_neg (by omega), List.drop_eq_nil_of_le (by omega)]
    rfl
  | succ d ih =>
    intro k s i h0 hi hi2 hk hs0 hs1
    obtain ⟨k, rfl⟩ := pos_k hk
    by_cases hlt : i < xs.length
    · have hb := hx.byte i
      simp only [impl_onesSum.l0]
      rw [if_pos hlt, if_pos h0, w64 (n := i + 1) (by omega) (by omega), w64 (n := rd xs i) (by omega) (by omega), w64 (n := i + 2) (by omega) (by omega), drop_rd h0 hlt]
      by_cases h2 : i + 1 < xs.length
      · have hc := hx.byte (i + 1)
        have ho := osum_word hs0 hs1 (show 0 ≤ rd xs i * 256 + rd xs (i + 1) by omega) (by omega)
        rw [if_pos h2, if_pos (by omega), or_be (by omega) (by omega) hc.1 hc.2, implSum (by omega) (by omega) (by omega) (by omega)]
        simp only [Option.bind_some]
        rw [ih k _ (i + 2) (by omega) (by omega) (by omega) (by omega) ho.1 ho.2, drop_rd (i := i + 1) (by omega) h2, show i + 1 + 1 = i + 2 by omega]
        rfl
      · have ho := osum_word hs0 hs1 (show 0 ≤ rd xs i * 256 by omega) (by omega)
        rw [if_neg h2, w64 (n := rd xs i * 256) (by omega) (by omega), implSum (by omega) (by omega) (by omega) (by omega)]
        simp only [Option.bind_some]
        rw [ih k _ (i + 2) (by omega) (by omega) (by omega) (by omega) ho.1 ho.2, List.drop_eq_nil_of_le (i := (i + 1).toNat) (by omega), List.drop_eq_nil_of_le (i := (i + 2).toNat) (by omega)]
        rfl
    · simp only [impl_onesSum.l0]
      rw [if_neg hlt, List.drop_eq_nil_of_le (by omega)]
      rfl
theorem implOnes {xs : List Int} (hx : U8 xs) (hn : xs.length ≤ 140737488355328) {k : Nat} (hk : xs.length + 10 < k) : impl_onesSum.f k xs = some (ones xs 0) := by
  unfold impl_onesSum.f
  rw [implOnes_l xs hx hn xs.length k 0 0 (by omega) (by omega) (by omega) (by omega) (by omega) (by omega)]
  rfl

theorem specChecksum {xs : List Int} (hx : U8 xs) {k : Nat} (hk : xs.length + 10 < k) : spec_Checksum.f k xs = some (if (xs.length : Int) > 2000 then -1 else 65535 - ones xs 0) := by
  have ho := ones_word xs.length xs 0 (Nat.le_refl _) hx (by omega) (by omega)
  unfold spec_Checksum.f
  rw [specOnesSum hx hk]
  simp only [Option.bind_some]
  by_cases h : (xs.length : Int) > 2000
  · rw [if_pos h, if_pos h, if_pos (by decide)]
  · rw [if_neg h, if_neg h, if_neg (by omega), w64 (by omega) (by omega)]

theorem implChecksum {xs : List Int} (hx : U8 xs) {k : Nat} (hk : xs.length + 10 < k) : impl_Checksum.f k xs = some (if (xs.length : Int) > 2000 then -1 else 65535 - ones xs 0) := by
  have ho := ones_word xs.length xs 0 (Nat.le_refl _) hx (by omega) (by omega)
  unfold impl_Checksum.f
  by_cases h : (xs.length : Int) > 2000
  · rw [if_pos h, if_pos h]
  · rw [if_neg h, if_neg h, implOnes hx (by omega) hk]
    simp only [Option.bind_some]
    rw [w64 (by omega) (by omega)]

/- fourBytes: the header's bytes with a checksum s -/
def headL (a0 a1 a2 a3 a4 a5 a6 a7 a8 a9 a10 a11 a12 a13 a14 a15 a16 ol bl s : Int) (l : List Int) : List Int :=
  [(69 + ol / 4) % 256, (4 * a0 + a1) % 256] ++ (b2 (20 + ol + bl) ++ (b2 a2 ++ (b2 (8192 * a3 + a4) ++ ([a5 % 256, a6 % 256] ++ (b2 s ++ (addrBytes a7 a8 a9 a10 a11 ++ (addrBytes a12 a13 a14 a15 a16 ++ l)))))))
theorem headL_len (a0 a1 a2 a3 a4 a5 a6 a7 a8 a9 a10 a11 a12 a13 a14 a15 a16 ol bl s : Int) (l : List Int) : (headL a0 a1 a2 a3 a4 a5 a6 a7 a8 a9 a10 a11 a12 a13 a14 a15 a16 ol bl s l).length ≤ 44 + l.length := by
  have h1 := addrBytes_len a7 a8 a9 a10 a11
  have h2 := addrBytes_len a12 a13 a14 a15 a16
  unfold headL
  simp [b2]
  omega
theorem headL_u8 (a0 a1 a2 a3 a4 a5 a6 a7 a8 a9 a10 a11 a12 a13 a14 a15 a16 ol bl s : Int) {l : List Int} (hl : U8 l) : U8 (headL a0 a1 a2 a3 a4 a5 a6 a7 a8 a9 a10 a11 a12 a13 a14 a15 a16 ol bl s l) := by
  unfold headL
  exact (U8.cons (by omega) (by omega) (U8.cons (by omega) (by omega) U8.nil)).append ((U8.b2 _).append ((U8.b2 _).append ((U8.b2 _).append ((U8.cons (by omega) (by omega) (U8.cons (by omega) (by omega) U8.nil)).append ((U8.b2 _).append ((addrBytes_u8 _ _ _ _ _).append ((addrBytes_u8 _ _ _ _ _).append hl)))))))
theorem chain8 (y0 t1 t2 t3 t4 t5 t6 t7 t8 : List Int) (h : y0.length + t1.length + t2.length + t3.length + t4.length + t5.length + t6.length + t7.length + t8.length < 140737488355328) :
    ((some y0 : Option (List Int)).bind fun y168 => ((some t1 : Option (List Int)).bind fun t171 => (if y168.length + t171.length < 140737488355328 then ((some (y168 ++ t171 : List Int)).bind fun y174 => ((some t2 : Option (List Int)).bind fun t177 => (if y174.length + t177.length < 140737488355328 then ((some (y174 ++ t177 : List Int)).bind fun y180 => ((some t3 : Option (List Int)).bind fun t183 => (if y180.length + t183.length < 140737488355328 then ((some (y180 ++ t183 : List Int)).bind fun y186 => ((some t4 : Option (List Int)).bind fun y189 => (if y186.length + y189.length < 140737488355328 then ((some (y186 ++ y189 : List Int)).bind fun y192 => ((some t5 : Option (List Int)).bind fun t195 => (if y192.length + t195.length < 140737488355328 then ((some (y192 ++ t195 : List Int)).bind fun y198 => ((some t6 : Option (List Int)).bind fun t201 => (if y198.length + t201.length < 140737488355328 then ((some (y198 ++ t201 : List Int)).bind fun y204 => ((some t7 : Option (List Int)).bind fun t207 => (if y204.length + t207.length < 140737488355328 then ((some (y204 ++ t207 : List Int)).bind fun y210 => (if y210.length + t8.length < 140737488355328 then (some (y210 ++ t8)) else (none))) else (none)))) else (none)))) else (none)))) else (none)))) else (none)))) else (none)))) else (none)))) = some (y0 ++ t1 ++ t2 ++ t3 ++ t4 ++ t5 ++ t6 ++ t7 ++ t8) := by
  simp only [Option.bind_some]
  rw [if_pos (by omega), if_pos (by simp only [List.length_append]; omega), if_pos (by simp only [List.length_append]; omega), if_pos (by simp only [List.length_append]; omega), if_pos (by simp only [List.length_append]; omega), if_pos (by simp only [List.length_append]; omega), if_pos (by simp only [List.length_append]; omega), if_pos (by simp only [List.length_append]; omega)]
theorem specHead (a0 a1 a2 a3 a4 a5 a6 a7 a8 a9 a10 a11 a12 a13 a14 a15 a16 s : Int) (l m : List Int) (hl : l.length ≤ 100) (hm : m.length ≤ 4000000) (h0 : 0 ≤ a0 ∧ a0 ≤ 63) (h1 : 0 ≤ a1 ∧ a1 ≤ 3) (h2 : 0 ≤ a2 ∧ a2 ≤ 65535) (h3 : 0 ≤ a3 ∧ a3 ≤ 7) (h4 : 0 ≤ a4 ∧ a4 ≤ 8191) (hs : 0 ≤ s ∧ s ≤ 65535) :
    spec_l05Head.f a0 a1 a2 a3 a4 a5 a6 a7 a8 a9 a10 a11 a12 a13 a14 a15 a16 l m s = some (headL a0 a1 a2 a3 a4 a5 a6 a7 a8 a9 a10 a11 a12 a13 a14 a15 a16 l.length m.length s l) := by
  have q1 := addrBytes_len a7 a8 a9 a10 a11
  have q2 := addrBytes_len a12 a13 a14 a15 a16
  unfold spec_l05Head.f
  rw [w64 (n := (l.length : Int) / 4) (by omega) (by omega), w64 (n := 69 + (l.length : Int) / 4) (by omega) (by omega), w64 (n := 4 * a0) (by omega) (by omega), w64 (n := 4 * a0 + a1) (by omega) (by omega), w64 (n := 20 + (l.length : Int)) (by omega) (by omega), w64 (n := 20 + (l.length : Int) + m.length) (by omega) (by omega), w64 (n := 8192 * a3) (by omega) (by omega), w64 (n := 8192 * a3 + a4) (by omega) (by omega), specPut16 (by omega), specPut16 (by omega), specPut16 (by omega), specPut16 (by omega), specAddrBytes, specAddrBytes]
  refine (chain8 _ _ _ _ _ _ _ _ _ (by simp only [List.length_cons, List.length_nil, b2]; omega)).trans ?_
  unfold headL b2
  simp only [List.append_assoc]
theorem head_w9 (n : Nat) (hn : n ≤ 100) (h4 : (n : Int) % 4 = 0) : wrap64 (64 + wrap64 (Int.tdiv (20 + (n : Int)) 4)) = 69 + (n : Int) / 4 := by
  rw [tdiv_pos (by omega), w64 (n := (20 + (n : Int)) / 4) (by omega) (by omega), w64 (by omega) (by omega)]
  omega
theorem implHead {k : Nat} (hk : 200 ≤ k) (a0 a1 a2 a3 a4 a5 a6 a7 a8 a9 a10 a11 a12 a13 a14 a15 a16 s : Int) (l m : List Int) (hl : l.length ≤ 100) (hm : m.length ≤ 4000000) (h0 : 0 ≤ a0 ∧ a0 ≤ 63) (h1 : 0 ≤ a1 ∧ a1 ≤ 3) (h3 : 0 ≤ a3 ∧ a3 ≤ 7) (h4 : 0 ≤ a4 ∧ a4 ≤ 8191) (h44 : (l.length : Int) % 4 = 0) :
    impl_Four_head.f k a0 a1 a2 a3 a4 a5 a6 a7 a8 a9 a10 a11 a12 a13 a14 a15 a16 l m s = some (headL a0 a1 a2 a3 a4 a5 a6 a7 a8 a9 a10 a11 a12 a13 a14 a15 a16 l.length m.length s l) := by
  have q1 := addrBytes_len a7 a8 a9 a10 a11
  have q2 := addrBytes_len a12 a13 a14 a15 a16
  unfold impl_Four_head.f impl_fourSize.f impl_fourHead.f
  rw [w64 (n := 4 * a0) (by omega) (by omega), w64 (n := 4 * a0 + a1) (by omega) (by omega), w64 (n := 20 + (l.length : Int)) (by omega) (by omega), w64 (n := 8192 * a3) (by omega) (by omega), w64 (n := 8192 * a3 + a4) (by omega) (by omega), Option.bind_some, implPut16 (by omega), Option.bind_some, Option.bind_some, w64 (n := 20 + (l.length : Int) + m.length) (by omega) (by omega), Option.bind_some, implPut16 (by omega), Option.bind_some, implPut16 (by omega), Option.bind_some, implPut16 (by omega), Option.bind_some, implAddrBytes (by omega), Option.bind_some, implAddrBytes (by omega), Option.bind_some, head_w9 l.length hl h44,
    concat (by simp) (by simp [b2]; omega) (by simp; omega), Option.bind_some]
  unfold headL
  simp

def headSumV (a0 a1 a2 a3 a4 a5 a6 a7 a8 a9 a10 a11 a12 a13 a14 a15 a16 bl : Int) (l : List Int) : Int :=
  if FourOK a0 a1 a2 a3 a4 a5 a6 a7 a8 a9 a10 a11 a12 a13 a14 a15 a16 l.length bl then 65535 - ones (headL a0 a1 a2 a3 a4 a5 a6 a7 a8 a9 a10 a11 a12 a13 a14 a15 a16 l.length bl 0 l) 0 else -1
theorem specHeadSum {k : Nat} (hk : 300 ≤ k) (a0 a1 a2 a3 a4 a5 a6 a7 a8 a9 a10 a11 a12 a13 a14 a15 a16 : Int) (l m : List Int) (hn : l.length + m.length ≤ 4000000) (hu : U8 l) : spec_HeadSum.f k a0 a1 a2 a3 a4 a5 a6 a7 a8 a9 a10 a11 a12 a13 a14 a15 a16 l m = some (headSumV a0 a1 a2 a3 a4 a5 a6 a7 a8 a9 a10 a11 a12 a13 a14 a15 a16 m.length l) := by
  unfold spec_HeadSum.f headSumV
  rw [specFourOk _ _ _ _ _ _ _ _ _ _ _ _ _ _ _ _ _ l m hn, Option.bind_some]
  by_cases h : FourOK a0 a1 a2 a3 a4 a5 a6 a7 a8 a9 a10 a11 a12 a13 a14 a15 a16 l.length m.length
  · rw [decide_eq_true h, if_pos rfl, if_pos h]
    have h' := h
    unfold FourOK at h'
    obtain ⟨h0, h1, h2, h3, h4, h5, h6, h7, h8, h9, h10, h11⟩ := h'
    have hL := headL_len a0 a1 a2 a3 a4 a5 a6 a7 a8 a9 a10 a11 a12 a13 a14 a15 a16 l.length m.length 0 l
    rw [specHead _ _ _ _ _ _ _ _ _ _ _ _ _ _ _ _ _ _ l m (by omega) (by omega) h0 h1 h2 h3 h4 (by omega), Option.bind_some, specChecksum (headL_u8 _ _ _ _ _ _ _ _ _ _ _ _ _ _ _ _ _ _ _ _ hu) (by omega), Option.bind_some, if_neg (by omega)]
  · rw [decide_eq_false h, if_neg Bool.false_ne_true, if_neg h]
theorem implHeadSum {k : Nat} (hk : 300 ≤ k) (a0 a1 a2 a3 a4 a5 a6 a7 a8 a9 a10 a11 a12 a13 a14 a15 a16 : Int) (l m : List Int) (hn : l.length + m.length ≤ 4000000) (hu : U8 l) : impl_HeadSum.f k a0 a1 a2 a3 a4 a5 a6 a7 a8 a9 a10 a11 a12 a13 a14 a15 a16 l m = some (headSumV a0 a1 a2 a3 a4 a5 a6 a7 a8 a9 a10 a11 a12 a13 a14 a15 a16 m.length l) := by
  unfold impl_HeadSum.f headSumV
  rw [implFourOk _ _ _ _ _ _ _ _ _ _ _ _ _ _ _ _ _ l m hn, Option.bind_some]
  by_cases h : FourOK a0 a1 a2 a3 a4 a5 a6 a7 a8 a9 a10 a11 a12 a13 a14 a15 a16 l.length m.length
  · rw [decide_eq_true h, if_pos rfl, if_pos h]
    have h' := h
    unfold FourOK at h'
    obtain ⟨h0, h1, h2, h3, h4, h5, h6, h7, h8, h9, h10, h11⟩ := h'
    have hL := headL_len a0 a1 a2 a3 a4 a5 a6 a7 a8 a9 a10 a11 a12 a13 a14 a15 a16 l.length m.length 0 l
    rw [implHead (by omega) _ _ _ _ _ _ _ _ _ _ _ _ _ _ _ _ _ _ l m (by omega) (by omega) h0 h1 h3 h4 h10, Option.bind_some, implChecksum (headL_u8 _ _ _ _ _ _ _ _ _ _ _ _ _ _ _ _ _ _ _ _ hu) (by omega), Option.bind_some, if_neg (by omega)]
  · rw [decide_eq_false h, if_neg Bool.false_ne_true, if_neg h]

def fourBytes (a0 a1 a2 a3 a4 a5 a6 a7 a8 a9 a10 a11 a12 a13 a14 a15 a16 : Int) (l m : List Int) : List Int :=
  if FourOK a0 a1 a2 a3 a4 a5 a6 a7 a8 a9 a10 a11 a12 a13 a14 a15 a16 l.length m.length then headL a0 a1 a2 a3 a4 a5 a6 a7 a8 a9 a10 a11 a12 a13 a14 a15 a16 l.length m.length (headSumV a0 a1 a2 a3 a4 a5 a6 a7 a8 a9 a10 a11 a12 a13 a14 a15 a16 m.length l) l ++ m else []
theorem headSumV_le (a0 a1 a2 a3 a4 a5 a6 a7 a8 a9 a10 a11 a12 a13 a14 a15 a16 bl : Int) {l : List Int} (hu : U8 l) (h : FourOK a0 a1 a2 a3 a4 a5 a6 a7 a8 a9 a10 a11 a12 a13 a14 a15 a16 l.length bl) : 0 ≤ headSumV a0 a1 a2 a3 a4 a5 a6 a7 a8 a9 a10 a11 a12 a13 a14 a15 a16 bl l ∧ headSumV a0 a1 a2 a3 a4 a5 a6 a7 a8 a9 a10 a11 a12 a13 a14 a15 a16 bl l ≤ 65535 := by
  unfold headSumV
  rw [if_pos h]
  have := ones_word _ _ 0 (Nat.le_refl _) (headL_u8 a0 a1 a2 a3 a4 a5 a6 a7 a8 a9 a10 a11 a12 a13 a14 a15 a16 l.length bl 0 hu) (by omega) (by omega)
  omega
theorem fourBytes_len (a0 a1 a2 a3 a4 a5 a6 a7 a8 a9 a10 a11 a12 a13 a14 a15 a16 : Int) (l m : List Int) : (fourBytes a0 a1 a2 a3 a4 a5 a6 a7 a8 a9 a10 a11 a12 a13 a14 a15 a16 l m).length ≤ 44 + l.length + m.length := by
  unfold fourBytes
  split
  · rw [List.length_append]
    have := headL_len a0 a1 a2 a3 a4 a5 a6 a7 a8 a9 a10 a11 a12 a13 a14 a15 a16 l.length m.length (headSumV a0 a1 a2 a3 a4 a5 a6 a7 a8 a9 a10 a11 a12 a13 a14 a15 a16 m.length l) l
    omega
  · exact Nat.zero_le _
theorem specFourBytes {k : Nat} (hk : 300 ≤ k) (a0 a1 a2 a3 a4 a5 a6 a7 a8 a9 a10 a11 a12 a13 a14 a15 a16 : Int) (l m : List Int) (hn : l.length + m.length ≤ 4000000) (hu : U8 l) : spec_FourBytes.f k a0 a1 a2 a3 a4 a5 a6 a7 a8 a9 a10 a11 a12 a13 a14 a15 a16 l m = some (fourBytes a0 a1 a2 a3 a4 a5 a6 a7 a8 a9 a10 a11 a12 a13 a14 a15 a16 l m) := by
  unfold spec_FourBytes.f fourBytes
  rw [specFourOk _ _ _ _ _ _ _ _ _ _ _ _ _ _ _ _ _ l m hn, Option.bind_some]
  by_cases h : FourOK a0 a1 a2 a3 a4 a5 a6 a7 a8 a9 a10 a11 a12 a13 a14 a15 a16 l.length m.length
  · rw [decide_eq_true h, if_pos rfl, if_pos h]
    have hs := headSumV_le _ _ _ _ _ _ _ _ _ _ _ _ _ _ _ _ _ _ hu h
    have h' := h
    unfold FourOK at h'
    obtain ⟨h0, h1, h2, h3, h4, h5, h6, h7, h8, h9, h10, h11⟩ := h'
    have hL := headL_len a0 a1 a2 a3 a4 a5 a6 a7 a8 a9 a10 a11 a12 a13 a14 a15 a16 l.length m.length (headSumV a0 a1 a2 a3 a4 a5 a6 a7 a8 a9 a10 a11 a12 a13 a14 a15 a16 m.length l) l
    rw [specHeadSum hk _ _ _ _ _ _ _ _ _ _ _ _ _ _ _ _ _ l m hn hu, Option.bind_some, specHead _ _ _ _ _ _ _ _ _ _ _ _ _ _ _ _ _ _ l m (by omega) (by omega) h0 h1 h2 h3 h4 hs, Option.bind_some, if_pos (by omega)]
  · rw [decide_eq_false h, if_neg Bool.false_ne_true, if_neg h]
theorem implFourBytes {k : Nat} (hk : 300 ≤ k) (a0 a1 a2 a3 a4 a5 a6 a7 a8 a9 a10 a11 a12 a13 a14 a15 a16 : Int) (l m : List Int) (hn : l.length + m.length ≤ 4000000) (hu : U8 l) : impl_FourBytes.f k a0 a1 a2 a3 a4 a5 a6 a7 a8 a9 a10 a11 a12 a13 a14 a15 a16 l m = some (fourBytes a0 a1 a2 a3 a4 a5 a6 a7 a8 a9 a10 a11 a12 a13 a14 a15 a16 l m) := by
  unfold impl_FourBytes.f fourBytes
  rw [implFourOk _ _ _ _ _ _ _ _ _ _ _ _ _ _ _ _ _ l m hn, Option.bind_some]
  by_cases h : FourOK a0 a1 a2 a3 a4 a5 a6 a7 a8 a9 a10 a11 a12 a13 a14 a15 a16 l.length m.length
  · rw [decide_eq_true h, if_pos rfl, if_pos h]
    have h' := h
    unfold FourOK at h'
    obtain ⟨h0, h1, h2, h3, h4, h5, h6, h7, h8, h9, h10, h11⟩ := h'
    have hL := headL_len a0 a1 a2 a3 a4 a5 a6 a7 a8 a9 a10 a11 a12 a13 a14 a15 a16 l.length m.length (headSumV a0 a1 a2 a3 a4 a5 a6 a7 a8 a9 a10 a11 a12 a13 a14 a15 a16 m.length l) l
    have hf : ∀ A B : List Int, [A, B].flatten = A ++ B := fun A B => by simp
    rw [implHeadSum hk _ _ _ _ _ _ _ _ _ _ _ _ _ _ _ _ _ l m hn hu, Option.bind_some, implHead (by omega) _ _ _ _ _ _ _ _ _ _ _ _ _ _ _ _ _ _ l m (by omega) (by omega) h0 h1 h3 h4 h10, Option.bind_some,
      concat (by simp) (by rw [hf, List.length_append]; omega) (by simp only [List.length_cons, List.length_nil]; omega), Option.bind_some, hf]
  · rw [decide_eq_false h, if_neg Bool.false_ne_true, if_neg h]
def sixNext (p : Int) : List S102 → Int
  | [] => p % 256
  | y :: _ => y.f0 % 256
/-- The bytes of the extension headers, the kind of each behind it told in the one before. -/
def extBytes (p : Int) : List S102 → List Int
  | [] => []
  | x :: r => [sixNext p r, ((2 + (x.f1.length : Int)) / 8 - 1) % 256] ++ (x.f1 ++ extBytes p r)
def sixBytesV (a0 a1 a2 a3 a4 a5 a6 a7 a8 a9 a10 a11 a12 a13 : Int) (xs : List S102) (m : List Int) : List Int :=
  b4 (1610612736 + a0 * 1048576 + a1) ++ (b2 (extsN xs + (m.length : Int)) ++ ([sixNext a3 xs, a2 % 256] ++ (addrBytes a4 a5 a6 a7 a8 ++ (addrBytes a9 a10 a11 a12 a13 ++ (extBytes a3 xs ++ m)))))
def sixBytes (a0 a1 a2 a3 a4 a5 a6 a7 a8 a9 a10 a11 a12 a13 : Int) (xs : List S102) (m : List Int) : List Int :=
  if SixOK a0 a1 a2 a3 a4 a5 a6 a7 a8 a9 a10 a11 a12 a13 xs m.length then sixBytesV a0 a1 a2 a3 a4 a5 a6 a7 a8 a9 a10 a11 a12 a13 xs m else []
theorem extBytes_len (p : Int) (xs : List S102) : ((extBytes p xs).length : Int) = extsN xs := by
  induction xs with
  | nil => rfl
  | cons x r ih =>
    simp only [extBytes, extsN, List.length_append, List.length_cons, List.length_nil]
    omega
theorem nextF (a0 a1 a2 a3 a4 a5 a6 a7 a8 a9 a10 a11 a12 a13 : Int) (xs A R : List S102) (m : List Int) {i : Int} (hx : A ++ R = xs) (hi : i = A.length) : spec_l06Next.f a0 a1 a2 a3 a4 a5 a6 a7 a8 a9 a10 a11 a12 a13 xs m i = some (sixNext a3 R) := by
  unfold spec_l06Next.f
  subst hx
  cases R with
  | nil =>
    rw [if_neg (by simp; omega)]
    rfl
  | cons y r =>
    rw [if_pos (by simp; omega), if_pos (by omega), rdi_at A r y hi]
    rfl
theorem extB_len {xs : List S102} {i : Int} (h : extsB i xs = true) : ∀ x ∈ xs, x.f1.length ≤ 62 := by
  induction xs generalizing i with
  | nil => simp
  | cons y r ih =>
    simp only [extsB, extB, Bool.and_eq_true, decide_eq_true_eq] at h
    intro x hx
    rcases List.mem_cons.1 hx with rfl | hx
    · have := h.1.2.2.2; omega
    · exact ih h.2 x hx
theorem extW {n : Nat} (hn : n ≤ 62) : wrap64 ((wrap64 (Int.tdiv (wrap64 (2 + (n : Int))) 8)) - 1) % 256 = ((2 + (n : Int)) / 8 - 1) % 256 := by
  rw [w64 (n := 2 + (n : Int)) (by omega) (by omega), tdiv_pos (by omega), w64 (n := (2 + (n : Int)) / 8) (by omega) (by omega), w64 (by omega) (by omega)]
theorem specSB_l0 (a0 a1 a2 a3 a4 a5 a6 a7 a8 a9 a10 a11 a12 a13 : Int) (m : List Int) (hm : m.length ≤ 1048576) (xs : List S102) (hxs : xs.length ≤ 3) (hb : ∀ x ∈ xs, x.f1.length ≤ 62) (R : List S102) : ∀ (A : List S102) (k : Nat) (out : List Int) (i : Int), A ++ R = xs → i = A.length → out.length + 64 * R.length ≤ 1048576 → R.length < k →
    spec_SixBytes.l0 k out i a0 a1 a2 a3 a4 a5 a6 a7 a8 a9 a10 a11 a12 a13 xs m = some (out ++ (extBytes a3 R ++ m)) := by
  induction R with
  | nil =>
    intro A k out i hx hi ho hk
    obtain ⟨k, rfl⟩ : ∃ q, k = q + 1 := ⟨k - 1, by simp at hk; omega⟩
    simp only [spec_SixBytes.l0]
    rw [if_neg (by rw [← hx]; simp; omega), if_pos (by simp at ho; omega)]
    rfl
  | cons x R ih =>
    intro A k out i hx hi ho hk
    simp only [List.length_cons] at ho hk
    obtain ⟨k, rfl⟩ : ∃ q, k = q + 1 := ⟨k - 1, by omega⟩
    have hl : A.length + (R.length + 1) = xs.length := by rw [← hx]; simp
    have hr : rd_T102 xs i = x := by rw [← hx]; exact rdi_at A R x hi
    have hxl : x.f1.length ≤ 62 := hb x (by rw [← hx]; simp)
    simp only [spec_SixBytes.l0]
    rw [if_pos (by omega), w64 (n := i + 1) (by omega) (by omega), nextF a0 a1 a2 a3 a4 a5 a6 a7 a8 a9 a10 a11 a12 a13 xs (A ++ [x]) R m (by rw [List.append_assoc]; exact hx) (by simp; omega), Option.bind_some, if_pos (by omega), hr, extW hxl, Option.bind_some, if_pos (by simp only [List.length_cons, List.length_nil]; omega), Option.bind_some,
      if_pos (by simp only [List.length_append, List.length_cons, List.length_nil]; omega), ih (A ++ [x]) k _ (i + 1) (by rw [List.append_assoc]; exact hx) (by simp; omega) (by simp only [List.length_append, List.length_cons, List.length_nil]; omega) (by omega)]
    simp [extBytes]
theorem specSixBytes (a0 a1 a2 a3 a4 a5 a6 a7 a8 a9 a10 a11 a12 a13 : Int) (xs : List S102) (m : List Int) (hm : m.length ≤ 1048576) {k : Nat} (hk : 3000000 ≤ k) :
    spec_SixBytes.f k a0 a1 a2 a3 a4 a5 a6 a7 a8 a9 a10 a11 a12 a13 xs m = some (sixBytes a0 a1 a2 a3 a4 a5 a6 a7 a8 a9 a10 a11 a12 a13 xs m) := by
  unfold spec_SixBytes.f sixBytes
  rw [specSixOk a0 a1 a2 a3 a4 a5 a6 a7 a8 a9 a10 a11 a12 a13 xs m hm hk, Option.bind_some]
  by_cases h : SixOK a0 a1 a2 a3 a4 a5 a6 a7 a8 a9 a10 a11 a12 a13 xs m.length
  · have h' := h
    rw [decide_eq_true h, if_pos rfl, if_pos h]
    obtain ⟨h0, h1, h2, h3, _, _, _, hl, hb, hn⟩ := h'
    have he := extsN_le hb
    have l1 := addrBytes_len a4 a5 a6 a7 a8
    have l2 := addrBytes_len a9 a10 a11 a12 a13
    rw [w64 (n := a0 * 1048576) (by omega) (by omega), w64 (n := 1610612736 + a0 * 1048576) (by omega) (by omega), w64 (n := 1610612736 + a0 * 1048576 + a1) (by omega) (by omega), specPut32 (by omega), Option.bind_some,
      specExtsSize a0 a1 a2 a3 a4 a5 a6 a7 a8 a9 a10 a11 a12 a13 xs m hm hk, Option.bind_some, if_pos h, w64 (n := extsN xs + (m.length : Int)) (by omega) (by omega), specPut16 (by omega), Option.bind_some, if_pos (by simp), Option.bind_some,
      nextF a0 a1 a2 a3 a4 a5 a6 a7 a8 a9 a10 a11 a12 a13 xs [] xs m (i := 0) rfl rfl, Option.bind_some, Option.bind_some, if_pos (by simp), Option.bind_some, specAddrBytes, Option.bind_some, if_pos (by simp only [List.length_append, List.length_cons, List.length_nil]; omega), Option.bind_some, specAddrBytes, Option.bind_some,
      if_pos (by simp only [List.length_append, List.length_cons, List.length_nil]; omega), specSB_l0 a0 a1 a2 a3 a4 a5 a6 a7 a8 a9 a10 a11 a12 a13 m hm xs (by omega) (extB_len hb) xs [] k _ 0 rfl rfl (by simp only [List.length_append, List.length_cons, List.length_nil]; omega) (by omega)]
    unfold sixBytesV
    simp [b4, b2]
  · rw [decide_eq_false h, if_neg Bool.false_ne_true, if_neg h]
theorem sixBytes_len (a0 a1 a2 a3 a4 a5 a6 a7 a8 a9 a10 a11 a12 a13 : Int) (xs : List S102) (m : List Int) : (sixBytes a0 a1 a2 a3 a4 a5 a6 a7 a8 a9 a10 a11 a12 a13 xs m).length ≤ 1600 := by
  unfold sixBytes
  split
  · rename_i h
    obtain ⟨_, _, _, _, _, _, _, hl, hb, hn⟩ := h
    have l1 := addrBytes_len a4 a5 a6 a7 a8
    have l2 := addrBytes_len a9 a10 a11 a12 a13
    have l3 := extBytes_len a3 xs
    unfold sixBytesV
    simp only [List.length_append, List.length_cons, List.length_nil, b4, b2]
    omega
  · simp
theorem sixWord {a b : Int} (h0 : 0 ≤ a ∧ a ≤ 255) (h1 : 0 ≤ b ∧ b ≤ 1048575) : Go.bits .or .i64 (Go.bits .or .i64 1610612736 (wrap64 (a * 1048576))) b = 1610612736 + a * 1048576 + b := by
  rw [w64 (by omega) (by omega), bits_join .i64 63 (by decide) wraps_i64 28 1610612736 (a * 1048576) (by omega) (by omega) (by omega) (by omega) (by omega) (by omega), bits_join .i64 63 (by decide) wraps_i64 20 (1610612736 + a * 1048576) b (by omega) (by omega) (by omega) (by omega) (by omega) (by omega)]

theorem kdF (p : Int) (xs A R : List S102) {i : Int} (hx : A ++ R = xs) (hi : i = A.length) : impl_SixBytes_kd.f p xs i = some (sixNext p R) := by
  unfold impl_SixBytes_kd.f
  subst hx
  cases R with
  | nil =>
    rw [if_neg (by simp; omega)]
    rfl
  | cons y r =>
    rw [if_pos (by simp; omega), if_pos (by omega), rdi_at A r y hi]
    rfl
theorem implSB_l0 (p : Int) (m : List Int) (hm : m.length ≤ 1048576) (xs : List S102) (hxs : xs.length ≤ 3) (hb : ∀ x ∈ xs, x.f1.length ≤ 62) (R : List S102) : ∀ (A : List S102) (k : Nat) (out : List Int) (i : Int), A ++ R = xs → i = A.length → out.length + 64 * R.length ≤ 1048576 → R.length < k →
    impl_SixBytes.l0 k out i p xs m = some (out ++ (extBytes p R ++ m)) := by
  induction R with
  | nil =>
    intro A k out i hx hi ho hk
    obtain ⟨k, rfl⟩ : ∃ q, k = q + 1 := ⟨k - 1, by simp at hk; omega⟩
    simp only [impl_SixBytes.l0]
    rw [if_neg (by rw [← hx]; simp; omega), if_pos (by simp at ho; omega)]
    rfl
  | cons x R ih =>
    intro A k out i hx hi ho hk
    simp only [List.length_cons] at ho hk
    obtain ⟨k, rfl⟩ : ∃ q, k = q + 1 := ⟨k - 1, by omega⟩
    have hl : A.length + (R.length + 1) = xs.length := by rw [← hx]; simp
    have hr : rd_T102 xs i = x := by rw [← hx]; exact rdi_at A R x hi
    have hxl : x.f1.length ≤ 62 := hb x (by rw [← hx]; simp)
    simp only [impl_SixBytes.l0]
    rw [if_pos (by omega), if_pos (by omega), w64 (n := i + 1) (by omega) (by omega), kdF p xs (A ++ [x]) R (by rw [List.append_assoc]; exact hx) (by simp; omega), Option.bind_some, hr, extW hxl, Option.bind_some, if_pos (by simp only [List.length_cons, List.length_nil]; omega), Option.bind_some,
      if_pos (by simp only [List.length_append, List.length_cons, List.length_nil]; omega), ih (A ++ [x]) k _ (i + 1) (by rw [List.append_assoc]; exact hx) (by simp; omega) (by simp only [List.length_append, List.length_cons, List.length_nil]; omega) (by omega)]
    simp [extBytes]
theorem implSixBytes (a0 a1 a2 a3 a4 a5 a6 a7 a8 a9 a10 a11 a12 a13 : Int) (xs : List S102) (m : List Int) (hl : xs.length ≤ 1048576) (hm : m.length ≤ 1048576) {k : Nat} (hk : 3000000 ≤ k) :
    impl_SixBytes.f k a0 a1 a2 a3 a4 a5 a6 a7 a8 a9 a10 a11 a12 a13 xs m = some (sixBytes a0 a1 a2 a3 a4 a5 a6 a7 a8 a9 a10 a11 a12 a13 xs m) := by
  unfold impl_SixBytes.f sixBytes
  rw [implSixOk a0 a1 a2 a3 a4 a5 a6 a7 a8 a9 a10 a11 a12 a13 xs m hl hm hk, Option.bind_some]
  by_cases h : SixOK a0 a1 a2 a3 a4 a5 a6 a7 a8 a9 a10 a11 a12 a13 xs m.length
  · have h' := h
    rw [decide_eq_true h, if_pos rfl, if_pos h]
    obtain ⟨h0, h1, h2, h3, _, _, _, hl3, hb, hn⟩ := h'
    have he := extsN_le hb
    have l1 := addrBytes_len a4 a5 a6 a7 a8
    have l2 := addrBytes_len a9 a10 a11 a12 a13
    have e2 : ∀ n : Int, (b2 n).length = 2 := fun _ => rfl
    have e4 : ∀ n : Int, (b4 n).length = 4 := fun _ => rfl
    rw [extsSizeI xs (by omega) hb hk, Option.bind_some, sixWord h0 h1, implPut32 (by omega), Option.bind_some, w64 (n := extsN xs + (m.length : Int)) (by omega) (by omega), implPut16 (by omega), Option.bind_some, kdF a3 xs [] xs (i := 0) rfl rfl, Option.bind_some, implAddrBytes (by omega), Option.bind_some, implAddrBytes (by omega), Option.bind_some,
      concat (by simp) (by simp [e2, e4]; omega) (by simp; omega), Option.bind_some, implSB_l0 a3 m hm xs (by omega) (extB_len hb) xs [] k _ 0 rfl rfl (by simp [e2, e4]; omega) (by omega)]
    unfold sixBytesV
    simp
  · rw [decide_eq_false h, if_neg Bool.false_ne_true, if_neg h]

theorem specPair (k a b c d k' a' b' c' d' : Int) : spec_l07Pair.f k a b c d k' a' b' c' d' = some (pairB k a b c d k' a' b' c' d') := by
  unfold spec_l07Pair.f pairB
  rw [specAddrOk, specAddrOk]
  simp only [Option.bind_some]
  generalize decide (AddrOK k a b c d) = p
  generalize decide (AddrOK k' a' b' c' d') = q
  cases p <;> cases q <;> rfl

theorem areBoth (k a b c d k' a' b' c' d' : Int) : impl_areBoth.f k a b c d k' a' b' c' d' = some (pairB k a b c d k' a' b' c' d') := by
  unfold impl_areBoth.f pairB
  rw [implAddrOk, implAddrOk]
  simp only [Option.bind_some]
  generalize decide (AddrOK k a b c d) = p
  generalize decide (AddrOK k' a' b' c' d') = q
  cases p <;> cases q <;> rfl

theorem ones_w (xs : List Int) (hx : U8 xs) : 0 ≤ ones xs 0 ∧ ones xs 0 ≤ 65535 := ones_word xs.length xs 0 (Nat.le_refl _) hx (by omega) (by omega)
def pseudoBytes (k a b c d k' a' b' c' d' p n : Int) : List Int :=
  addrBytes k a b c d ++ (addrBytes k' a' b' c' d' ++ (if k = 6 then b4 n ++ [0, 0, 0, p % 256] else [0, p % 256] ++ b2 n))
theorem pseudo_u8 (k a b c d k' a' b' c' d' p n : Int) : U8 (pseudoBytes k a b c d k' a' b' c' d' p n) := by
  unfold pseudoBytes
  refine (addrBytes_u8 _ _ _ _ _).append ((addrBytes_u8 _ _ _ _ _).append ?_)
  split
  · exact (U8.b4 _).append (U8.cons (by omega) (by omega) (U8.cons (by omega) (by omega) (U8.cons (by omega) (by omega) (U8.cons (by omega) (by omega) U8.nil))))
  · exact U8.append (U8.cons (by omega) (by omega) (U8.cons (by omega) (by omega) U8.nil)) (U8.b2 _)
theorem pseudo_len (k a b c d k' a' b' c' d' p n : Int) : (pseudoBytes k a b c d k' a' b' c' d' p n).length ≤ 40 := by
  have h1 := addrBytes_len k a b c d
  have h2 := addrBytes_len k' a' b' c' d'
  unfold pseudoBytes
  simp only [List.length_append]
  split
  · simp [b4]; omega
  · simp [b2]; omega
theorem pair_kind {k a b c d k' a' b' c' d' : Int} (h : pairB k a b c d k' a' b' c' d' = true) : k = 4 ∨ k = 6 := by
  unfold pairB at h
  simp only [Bool.and_eq_true, decide_eq_true_eq] at h
  have h1 := h.1
  unfold AddrOK at h1
  omega
def psum (k a b c d k' a' b' c' d' p n : Int) : Int := ones (pseudoBytes k a b c d k' a' b' c' d' p n) 0
theorem psum_w (k a b c d k' a' b' c' d' p n : Int) : 0 ≤ psum k a b c d k' a' b' c' d' p n ∧ psum k a b c d k' a' b' c' d' p n ≤ 65535 := ones_w _ (pseudo_u8 _ _ _ _ _ _ _ _ _ _ _ _)
theorem specPseudo {m : Nat} (hm : 100 ≤ m) {k a b c d k' a' b' c' d' p n : Int} (hp : pairB k a b c d k' a' b' c' d' = true) (h1 : 0 ≤ p ∧ p ≤ 255) (h2 : 0 ≤ n ∧ n ≤ 1500) : spec_PseudoSum.f m k a b c d k' a' b' c' d' p n = some (psum k a b c d k' a' b' c' d' p n) := by
  unfold spec_PseudoSum.f psum
  rw [specPair, specIn, specIn]
  simp only [Option.bind_some]
  have hl := pseudo_len k a b c d k' a' b' c' d' p n
  have hu := pseudo_u8 k a b c d k' a' b' c' d' p n
  have l1 := addrBytes_len k a b c d
  have l2 := addrBytes_len k' a' b' c' d'
  have hk := pair_kind hp
  rw [if_pos hp, decide_eq_true h1, if_pos rfl, decide_eq_true h2, if_pos rfl, specAddrBytes, specAddrBytes]
  simp only [Option.bind_some]
  rw [if_pos (by omega)]
  unfold pseudoBytes at hl hu ⊢
  by_cases h4 : k = 4
  · rw [if_neg (show ¬ k = 6 by omega)] at hl hu ⊢
    rw [if_pos h4, if_pos (by simp; omega), specPut16 (by omega)]
    simp only [Option.bind_some]
    rw [if_pos (by simp; omega)]
    rw [show addrBytes k a b c d ++ addrBytes k' a' b' c' d' ++ [0, p % 256] ++ [n / 256 % 256, n % 256] = addrBytes k a b c d ++ (addrBytes k' a' b' c' d' ++ ([0, p % 256] ++ b2 n)) by simp [b2]]
    rw [specOnesSum hu (by omega), if_neg (by omega)]
    rfl
  · rw [if_pos (show k = 6 by omega)] at hl hu ⊢
    rw [if_neg h4, specPut32 (by omega)]
    simp only [Option.bind_some]
    rw [if_pos (by simp; omega), if_pos (by simp; omega)]
    rw [show addrBytes k a b c d ++ addrBytes k' a' b' c' d' ++ [n / 16777216 % 256, n / 65536 % 256, n / 256 % 256, n % 256] ++ [0, 0, 0, p % 256] = addrBytes k a b c d ++ (addrBytes k' a' b' c' d' ++ (b4 n ++ [0, 0, 0, p % 256])) by simp [b4]]
    rw [specOnesSum hu (by omega), if_neg (by omega)]
    rfl
theorem flat3 (A B C D : List Int) : [A, B, [C, D].flatten].flatten = A ++ (B ++ (C ++ D)) := by simp
theorem pseudoBytes_6 {k : Int} (h : k = 6) (a b c d k' a' b' c' d' p n : Int) : pseudoBytes k a b c d k' a' b' c' d' p n = addrBytes k a b c d ++ (addrBytes k' a' b' c' d' ++ (b4 n ++ [0, 0, 0, p % 256])) := by
  unfold pseudoBytes
  rw [if_pos h]
theorem pseudoBytes_4 {k : Int} (h : ¬ k = 6) (a b c d k' a' b' c' d' p n : Int) : pseudoBytes k a b c d k' a' b' c' d' p n = addrBytes k a b c d ++ (addrBytes k' a' b' c' d' ++ ([0, p % 256] ++ b2 n)) := by
  unfold pseudoBytes
  rw [if_neg h]
theorem concat2 {m : Nat} (hm : 50 ≤ m) (A B : List Int) (hA : A.length ≤ 100) (hB : B.length ≤ 100) : slices_Concat_byte_byte.f m [A, B] = some [A, B].flatten :=
  concat (by simp) (by simp; omega) (by simp; omega)
theorem concat3 {m : Nat} (hm : 50 ≤ m) (A B C : List Int) (hA : A.length ≤ 100) (hB : B.length ≤ 100) (hC : C.length ≤ 100) : slices_Concat_byte_byte.f m [A, B, C] = some [A, B, C].flatten :=
  concat (by simp) (by simp; omega) (by simp; omega)
theorem implPseudo {m : Nat} (hm : 100 ≤ m) (k a b c d k' a' b' c' d' p n : Int) : impl_pseudoSum.f m k a b c d k' a' b' c' d' p n = some (psum k a b c d k' a' b' c' d' p n) := by
  have hu := pseudo_u8 k a b c d k' a' b' c' d' p n
  have hl := pseudo_len k a b c d k' a' b' c' d' p n
  have l1 := addrBytes_len k a b c d
  have l2 := addrBytes_len k' a' b' c' d'
  have e2 : (b2 n).length = 2 := rfl
  have e4 : (b4 n).length = 4 := rfl
  unfold impl_pseudoSum.f psum
  rw [implPut16 (by omega), Option.bind_some, concat2 (by omega) _ _ (by simp) (by omega), Option.bind_some]
  by_cases h6 : k = 6
  · rw [pseudoBytes_6 h6] at hu hl ⊢
    rw [if_pos h6, implPut32 (by omega), Option.bind_some, concat2 (by omega) _ _ (by omega) (by simp), Option.bind_some, implAddrBytes (by omega), Option.bind_some, implAddrBytes (by omega), Option.bind_some, concat3 (by omega) _ _ _ (by omega) (by omega) (by simp; omega), Option.bind_some, flat3, implOnes hu (by omega) (by omega), Option.bind_some]
  · rw [pseudoBytes_4 h6] at hu hl ⊢
    rw [if_neg h6, implAddrBytes (by omega), Option.bind_some, implAddrBytes (by omega), Option.bind_some, concat3 (by omega) _ _ _ (by omega) (by omega) (by simp; omega), Option.bind_some, flat3, implOnes hu (by omega) (by omega), Option.bind_some]

def upBytes (a0 a1 a2 a3 a4 a5 a6 a7 a8 a9 a10 : Int) (l m : List Int) (s : Int) : List Int :=
  if a0 = 1 then b2 a1 ++ (b2 a2 ++ (b4 a3 ++ (b4 a4 ++ (b2 (4096 * (5 + (l.length : Int) / 4) + a5) ++ (b2 a6 ++ (b2 s ++ (b2 a7 ++ (l ++ m))))))))
  else if a0 = 2 then b2 a1 ++ (b2 a2 ++ (b2 (8 + (m.length : Int)) ++ (b2 s ++ m)))
  else if a0 = 3 then [a8 % 256, a9 % 256] ++ (b2 s ++ (b4 a10 ++ m))
  else m
/-- What a right upper packet's numbers are. -/
theorem upV_facts {a0 a1 a2 a3 a4 a5 a6 a7 a8 a9 a10 : Int} {a11 : Bool} {l : List Int} {b k : Int} (h : upV a0 a1 a2 a3 a4 a5 a6 a7 a8 a9 a10 a11 l b k = true) :
    (0 ≤ usize a0 l.length b ∧ usize a0 l.length b ≤ 1500) ∧ (a0 = 0 ∨ a0 = 1 ∨ a0 = 2 ∨ a0 = 3) ∧ (a0 = 1 → ((0 ≤ a1 ∧ a1 ≤ 65535) ∧ (0 ≤ a2 ∧ a2 ≤ 65535)) ∧ (0 ≤ a3 ∧ a3 ≤ 4294967295) ∧ (0 ≤ a4 ∧ a4 ≤ 4294967295) ∧ (0 ≤ a5 ∧ a5 ≤ 4095) ∧ (0 ≤ a6 ∧ a6 ≤ 65535) ∧ (0 ≤ a7 ∧ a7 ≤ 65535) ∧ (l.length : Int) ≤ 40 ∧ (l.length : Int) % 4 = 0)
      ∧ (a0 = 2 → (0 ≤ a1 ∧ a1 ≤ 65535) ∧ (0 ≤ a2 ∧ a2 ≤ 65535)) ∧ (a0 = 3 → (0 ≤ a8 ∧ a8 ≤ 255) ∧ (0 ≤ a9 ∧ a9 ≤ 255) ∧ (0 ≤ a10 ∧ a10 ≤ 4294967295)) := by
  unfold upV at h
  simp only [Bool.and_eq_true] at h
  obtain ⟨⟨_, hs⟩, hr⟩ := h
  have hz : 0 ≤ usize a0 l.length b ∧ usize a0 l.length b ≤ 1500 := by
    unfold upSz at hs
    exact of_decide_eq_true hs
  refine ⟨hz, ?_, fun h1 => ?_, fun h2 => ?_, fun h3 => ?_⟩
  · unfold usize at hz
    by_cases h0 : a0 = 0
    · exact .inl h0
    · by_cases h1 : a0 = 1
      · exact .inr (.inl h1)
      · by_cases h2 : a0 = 2
        · exact .inr (.inr (.inl h2))
        · by_cases h3 : a0 = 3
          · exact .inr (.inr (.inr h3))
          · rw [if_neg h0, if_neg h1, if_neg h2, if_neg h3] at hz
            omega
  · rw [if_pos h1] at hr
    simp only [Bool.and_eq_true] at hr
    have p := hr.1.1.1
    have t := hr.1.1.2
    unfold upPorts at p
    unfold upTcp at t
    exact ⟨of_decide_eq_true p, of_decide_eq_true t⟩
  · rw [if_neg (by omega), if_pos h2] at hr
    simp only [Bool.and_eq_true] at hr
    have p := hr.1.1.1
    unfold upPorts at p
    exact of_decide_eq_true p
  · rw [if_neg (by omega), if_neg (by omega), if_pos h3] at hr
    simp only [Bool.and_eq_true] at hr
    have p := hr.1.2
    unfold upIc at p
    exact of_decide_eq_true p
theorem upBytes_len {a0 a1 a2 a3 a4 a5 a6 a7 a8 a9 a10 : Int} {a11 : Bool} {l m : List Int} {k : Int} (s : Int) (h : upV a0 a1 a2 a3 a4 a5 a6 a7 a8 a9 a10 a11 l m.length k = true) : (upBytes a0 a1 a2 a3 a4 a5 a6 a7 a8 a9 a10 l m s).length ≤ 1500 := by
  have hf := upV_facts h
  obtain ⟨hz, hk, -⟩ := hf
  unfold usize at hz
  unfold upBytes
  rcases hk with rfl | rfl | rfl | rfl
  · simp at hz ⊢; omega
  · simp [b2, b4] at hz ⊢; omega
  · simp [b2] at hz ⊢; omega
  · simp [b2, b4] at hz ⊢; omega
theorem upBytes_u8 (a0 a1 a2 a3 a4 a5 a6 a7 a8 a9 a10 : Int) {l m : List Int} (hl : U8 l) (hm : U8 m) (s : Int) : U8 (upBytes a0 a1 a2 a3 a4 a5 a6 a7 a8 a9 a10 l m s) := by
  unfold upBytes
  split
  · exact (U8.b2 _).append ((U8.b2 _).append ((U8.b4 _).append ((U8.b4 _).append ((U8.b2 _).append ((U8.b2 _).append ((U8.b2 _).append ((U8.b2 _).append (hl.append hm))))))))
  · split
    · exact (U8.b2 _).append ((U8.b2 _).append ((U8.b2 _).append ((U8.b2 _).append hm)))
    · split
      · exact (U8.cons (by omega) (by omega) (U8.cons (by omega) (by omega) U8.nil)).append ((U8.b2 _).append ((U8.b4 _).append hm))
      · exact hm
theorem optWord {n a5 : Int} (h0 : 0 ≤ n) (h1 : n ≤ 40) (h2 : 0 ≤ a5) (h3 : a5 ≤ 4095) : wrap64 (wrap64 (4096 * wrap64 (5 + wrap64 (n / 4))) + a5) = 4096 * (5 + n / 4) + a5 := by
  rw [w64 (n := n / 4) (by omega) (by omega), w64 (n := 5 + n / 4) (by omega) (by omega), w64 (n := 4096 * (5 + n / 4)) (by omega) (by omega), w64 (by omega) (by omega)]
theorem specUp {a0 a1 a2 a3 a4 a5 a6 a7 a8 a9 a10 : Int} {a11 : Bool} {l m : List Int} {k : Int} (hn : l.length + m.length ≤ 1048576) (h : upV a0 a1 a2 a3 a4 a5 a6 a7 a8 a9 a10 a11 l m.length k = true) {s : Int} (hs : 0 ≤ s ∧ s ≤ 65535) :
    spec_l07Bytes.f a0 a1 a2 a3 a4 a5 a6 a7 a8 a9 a10 a11 l m s = some (upBytes a0 a1 a2 a3 a4 a5 a6 a7 a8 a9 a10 l m s) := by
  obtain ⟨hz, hk, h1, h2, h3⟩ := upV_facts h
  clear h
  unfold spec_l07Bytes.f upBytes
  rw [Option.bind_some]
  rcases hk with rfl | rfl | rfl | rfl
  · simp only [show ¬ ((0 : Int) = 1) by decide, show ¬ ((0 : Int) = 2) by decide, show ¬ ((0 : Int) = 3) by decide, if_false]
    rw [if_pos (by simp; omega), List.nil_append]
  · obtain ⟨⟨p1, p2⟩, p3, p4, p5, p6, p7, p8, p9⟩ := h1 rfl
    simp only [if_true]
    rw [optWord (by omega) p8 p5.1 p5.2, specPut16 (a := a1) (by omega), specPut16 (a := a2) (by omega), specPut32 (a := a3) (by omega), specPut32 (a := a4) (by omega), specPut16 (a := 4096 * (5 + (l.length : Int) / 4) + a5) (by omega), specPut16 (a := a6) (by omega), specPut16 (a := s) (by omega), specPut16 (a := a7) (by omega)]
    simp only [Option.bind_some]
    iterate 9 rw [if_pos (by simp only [List.length_append, List.length_cons, List.length_nil]; omega)]
    simp [b2, b4]
  · obtain ⟨p1, p2⟩ := h2 rfl
    simp only [show ¬ ((2 : Int) = 1) by decide, if_true, if_false]
    rw [specUpperSize _ _ _ _ _ _ _ _ _ _ _ _ l m hn, specPut16 (a := a1) (by omega), specPut16 (a := a2) (by omega), specPut16 (a := s) (by omega)]
    have hu : usize 2 l.length m.length = 8 + (m.length : Int) := by simp [usize]
    rw [hu]
    simp only [Option.bind_some, specPut16 (a := 8 + (m.length : Int)) (by omega)]
    iterate 4 rw [if_pos (by simp only [List.length_append, List.length_cons, List.length_nil]; omega)]
    simp [b2]
  · obtain ⟨p8, p9, p10⟩ := h3 rfl
    simp only [show ¬ ((3 : Int) = 1) by decide, show ¬ ((3 : Int) = 2) by decide, if_true, if_false]
    rw [specPut16 (a := s) (by omega), specPut32 (a := a10) (by omega)]
    simp only [Option.bind_some]
    iterate 4 rw [if_pos (by simp only [List.length_append, List.length_cons, List.length_nil]; omega)]
    simp [b2, b4]
theorem implUp {q : Nat} (hq : 60 ≤ q) {a0 a1 a2 a3 a4 a5 a6 a7 a8 a9 a10 : Int} {a11 : Bool} {l m : List Int} {k : Int} (hn : l.length + m.length ≤ 1048576) (h : upV a0 a1 a2 a3 a4 a5 a6 a7 a8 a9 a10 a11 l m.length k = true) (s : Int) :
    impl_Upper_encoded.f q a0 a1 a2 a3 a4 a5 a6 a7 a8 a9 a10 a11 l m s = some (upBytes a0 a1 a2 a3 a4 a5 a6 a7 a8 a9 a10 l m s) := by
  obtain ⟨hz, hk, h1, h2, h3⟩ := upV_facts h
  clear h
  have e2 : ∀ n : Int, (b2 n).length = 2 := fun _ => rfl
  have e4 : ∀ n : Int, (b4 n).length = 4 := fun _ => rfl
  have hp : slices_Concat_byte_byte.f q [b2 a1, b2 a2] = some (b2 a1 ++ b2 a2) := by
    rw [concat2 (by omega) _ _ (by rw [e2]; omega) (by rw [e2]; omega)]
    simp
  unfold impl_Upper_encoded.f upBytes
  rw [implPut16 (by omega), Option.bind_some, implPut16 (by omega), Option.bind_some, hp, Option.bind_some]
  rcases hk with rfl | rfl | rfl | rfl
  · simp only [show ¬ ((0 : Int) = 1) by decide, show ¬ ((0 : Int) = 2) by decide, show ¬ ((0 : Int) = 3) by decide, if_false]
    unfold slices_Clone_byte_byte.f
    rw [if_pos (by omega)]
    rfl
  · obtain ⟨_, p3, p4, p5, p6, p7, p8, p9⟩ := h1 rfl
    simp only [if_true]
    rw [optWord (by omega) p8 p5.1 p5.2, implPut16 (by omega), Option.bind_some, implPut32 (by omega), Option.bind_some, implPut32 (by omega), Option.bind_some, implPut16 (by omega), Option.bind_some, implPut16 (by omega), Option.bind_some, implPut16 (by omega), Option.bind_some,
      concat (by simp) (by simp [b2, b4]; omega) (by simp; omega), Option.bind_some]
    simp
  · simp only [show ¬ ((2 : Int) = 1) by decide, if_true, if_false]
    have hu : usize 2 l.length m.length = 8 + (m.length : Int) := by simp [usize]
    rw [implUpperSize _ _ _ _ _ _ _ _ _ _ _ _ l m hn, Option.bind_some, hu, implPut16 (by omega), Option.bind_some, implPut16 (by omega), Option.bind_some, concat (by simp) (by simp [b2]; omega) (by simp; omega), Option.bind_some]
    simp
  · simp only [show ¬ ((3 : Int) = 1) by decide, show ¬ ((3 : Int) = 2) by decide, if_true, if_false]
    rw [implPut16 (by omega), Option.bind_some, implPut32 (by omega), Option.bind_some, concat (by simp) (by simp [b2, b4]; omega) (by simp; omega), Option.bind_some]
    simp
def upProto (a0 : Int) : Int := if a0 = 1 then 6 else if a0 = 2 then 17 else 58
def upTop (a0 o b k a1 b1 c1 d1 k' a' b' c' d' : Int) : Int := if a0 = 3 ∧ ¬ k = 6 then 0 else psum k a1 b1 c1 d1 k' a' b' c' d' (upProto a0) (usize a0 o b)
theorem upTop_w (a0 o b k a1 b1 c1 d1 k' a' b' c' d' : Int) : 0 ≤ upTop a0 o b k a1 b1 c1 d1 k' a' b' c' d' ∧ upTop a0 o b k a1 b1 c1 d1 k' a' b' c' d' ≤ 65535 := by
  unfold upTop
  split
  · omega
  · exact psum_w _ _ _ _ _ _ _ _ _ _ _ _
def upFin (a0 c : Int) : Int := if a0 = 2 ∧ c = 0 then 65535 else c
theorem upFin_w {a0 c : Int} (h : 0 ≤ c ∧ c ≤ 65535) : 0 ≤ upFin a0 c ∧ upFin a0 c ≤ 65535 := by
  unfold upFin
  split <;> omega
/-- The checksum of an upper packet between two addresses, -1 for none. -/
def upSum (a0 a1 a2 a3 a4 a5 a6 a7 a8 a9 a10 : Int) (a11 : Bool) (l m : List Int) (k a b c d k' a' b' c' d' : Int) : Int :=
  if pairB k a b c d k' a' b' c' d' = true ∧ upV a0 a1 a2 a3 a4 a5 a6 a7 a8 a9 a10 a11 l m.length k = true then
    (if a0 = 0 ∨ a11 = true then 0 else upFin a0 (65535 - osum (upTop a0 l.length m.length k a b c d k' a' b' c' d') (ones (upBytes a0 a1 a2 a3 a4 a5 a6 a7 a8 a9 a10 l m 0) 0))) else -1
theorem upSum_le (a0 a1 a2 a3 a4 a5 a6 a7 a8 a9 a10 : Int) (a11 : Bool) {l m : List Int} (hl : U8 l) (hm : U8 m) (k a b c d k' a' b' c' d' : Int) :
    upSum a0 a1 a2 a3 a4 a5 a6 a7 a8 a9 a10 a11 l m k a b c d k' a' b' c' d' ≤ 65535 ∧ (¬ upSum a0 a1 a2 a3 a4 a5 a6 a7 a8 a9 a10 a11 l m k a b c d k' a' b' c' d' < 0 → 0 ≤ upSum a0 a1 a2 a3 a4 a5 a6 a7 a8 a9 a10 a11 l m k a b c d k' a' b' c' d' ∧ upV a0 a1 a2 a3 a4 a5 a6 a7 a8 a9 a10 a11 l m.length k = true) := by
  unfold upSum
  split
  · rename_i h
    refine ⟨?_, fun hh => ⟨by omega, h.2⟩⟩
    split
    · omega
    · have h1 := upTop_w a0 l.length m.length k a b c d k' a' b' c' d'
      have h2 := ones_w _ (upBytes_u8 a0 a1 a2 a3 a4 a5 a6 a7 a8 a9 a10 hl hm 0)
      have h3 := osum_word h1.1 h1.2 h2.1 h2.2
      exact (upFin_w (by omega)).2
  · exact ⟨by omega, fun hh => absurd (by decide) hh⟩
theorem wrapDown {x : Int} (h : 0 ≤ x ∧ x ≤ 65535) : wrap64 (65535 - x) = 65535 - x := w64 (by omega) (by omega)
theorem specUpperSum {q : Nat} (hq : 1600 ≤ q) (a0 a1 a2 a3 a4 a5 a6 a7 a8 a9 a10 : Int) (a11 : Bool) {l m : List Int} (hl : U8 l) (hm : U8 m) (hn : l.length + m.length ≤ 1048576) (k a b c d k' a' b' c' d' : Int) :
    spec_UpperSum.f q a0 a1 a2 a3 a4 a5 a6 a7 a8 a9 a10 a11 l m k a b c d k' a' b' c' d' = some (upSum a0 a1 a2 a3 a4 a5 a6 a7 a8 a9 a10 a11 l m k a b c d k' a' b' c' d') := by
  unfold spec_UpperSum.f upSum
  rw [specPair, Option.bind_some]
  by_cases hp : pairB k a b c d k' a' b' c' d' = true
  rotate_left
  · rw [if_neg hp, if_neg (fun hh => hp hh.1)]
  rw [if_pos hp, specUpperOk _ _ _ _ _ _ _ _ _ _ _ _ l m _ hn, Option.bind_some]
  by_cases hv : upV a0 a1 a2 a3 a4 a5 a6 a7 a8 a9 a10 a11 l m.length k = true
  rotate_left
  · rw [if_neg hv, if_neg (fun hh => hv hh.2)]
  rw [if_pos hv, if_pos (And.intro hp hv)]
  by_cases h0 : a0 = 0
  · rw [if_pos h0, if_pos (Or.inl h0 : a0 = 0 ∨ a11 = true)]
  rw [if_neg h0]
  by_cases h11 : a11 = true
  · rw [if_pos h11, if_pos (Or.inr h11 : a0 = 0 ∨ a11 = true)]
  rw [if_neg h11, if_neg (fun hh : a0 = 0 ∨ a11 = true => hh.elim h0 h11)]
  obtain ⟨hz, hk, -⟩ := upV_facts hv
  have hu := upBytes_u8 a0 a1 a2 a3 a4 a5 a6 a7 a8 a9 a10 hl hm 0
  have hlen := upBytes_len 0 hv
  have ho : spec_OnesSum.f q (upBytes a0 a1 a2 a3 a4 a5 a6 a7 a8 a9 a10 l m 0) = some (ones (upBytes a0 a1 a2 a3 a4 a5 a6 a7 a8 a9 a10 l m 0) 0) := by
    rw [specOnesSum hu (by omega), if_neg (by omega)]
  have hb := specUp hn hv (s := 0) (by omega)
  have ow := ones_w _ hu
  have tw := upTop_w a0 l.length m.length k a b c d k' a' b' c' d'
  have hs : ∀ t, 0 ≤ t ∧ t ≤ 65535 → spec_SumAdd.f t (ones (upBytes a0 a1 a2 a3 a4 a5 a6 a7 a8 a9 a10 l m 0) 0) = some (osum t (ones (upBytes a0 a1 a2 a3 a4 a5 a6 a7 a8 a9 a10 l m 0) 0)) := fun t ht => by
    rw [specSumAdd (by omega), if_pos ⟨ht, ow⟩]
  have hw := osum_word tw.1 tw.2 ow.1 ow.2
  have hd := wrapDown hw
  rw [specUpperSize _ _ _ _ _ _ _ _ _ _ _ _ l m hn, hb]
  simp only [Option.bind_some, ho]
  generalize ones (upBytes a0 a1 a2 a3 a4 a5 a6 a7 a8 a9 a10 l m 0) 0 = o at *
  unfold upTop upProto at *
  rcases hk with rfl | rfl | rfl | rfl
  · exact absurd rfl h0
  · simp only [show ¬ ((1 : Int) = 3) by decide, show ¬ ((1 : Int) = 2) by decide, false_and, if_false, if_true] at *
    rw [specPseudo (by omega) hp (by omega) hz, Option.bind_some, hs _ tw, Option.bind_some, hd]
    unfold upFin
    simp
  · simp only [show ¬ ((2 : Int) = 3) by decide, show ¬ ((2 : Int) = 1) by decide, false_and, if_false, if_true] at *
    rw [specPseudo (by omega) hp (by omega) hz, Option.bind_some, hs _ tw, Option.bind_some, hd]
    unfold upFin
    simp only [true_and]
    split <;> rfl
  · simp only [show ¬ ((3 : Int) = 2) by decide, show ¬ ((3 : Int) = 1) by decide, true_and, if_false] at *
    by_cases h6 : k = 6
    · simp only [h6, not_true_eq_false, if_false, if_true] at *
      rw [specPseudo (by omega) hp (by omega) hz, Option.bind_some, hs _ tw, Option.bind_some, hd]
      unfold upFin
      simp
    · simp only [h6, not_false_eq_true, if_false, if_true] at *
      rw [hs _ tw, Option.bind_some, hd]
      unfold upFin
      simp
theorem implUpperSum {q : Nat} (hq : 1600 ≤ q) (a0 a1 a2 a3 a4 a5 a6 a7 a8 a9 a10 : Int) (a11 : Bool) {l m : List Int} (hl : U8 l) (hm : U8 m) (hn : l.length + m.length ≤ 1048576) (k a b c d k' a' b' c' d' : Int) :
    impl_UpperSum.f q a0 a1 a2 a3 a4 a5 a6 a7 a8 a9 a10 a11 l m k a b c d k' a' b' c' d' = some (upSum a0 a1 a2 a3 a4 a5 a6 a7 a8 a9 a10 a11 l m k a b c d k' a' b' c' d') := by
  unfold impl_UpperSum.f upSum
  rw [areBoth, Option.bind_some]
  by_cases hp : pairB k a b c d k' a' b' c' d' = true
  rotate_left
  · rw [if_neg hp, if_neg (fun hh => hp hh.1)]
  rw [if_pos hp, implUpperOk (by omega) _ _ _ _ _ _ _ _ _ _ _ _ l m _ hn, Option.bind_some]
  by_cases hv : upV a0 a1 a2 a3 a4 a5 a6 a7 a8 a9 a10 a11 l m.length k = true
  rotate_left
  · rw [if_neg hv, if_neg (fun hh => hv hh.2)]
  rw [if_pos hv, if_pos (And.intro hp hv)]
  by_cases h0 : a0 = 0
  · rw [if_pos h0, if_pos (Or.inl h0 : a0 = 0 ∨ a11 = true)]
  rw [if_neg h0]
  by_cases h11 : a11 = true
  · rw [if_pos h11, if_pos (Or.inr h11 : a0 = 0 ∨ a11 = true)]
  rw [if_neg h11, if_neg (fun hh : a0 = 0 ∨ a11 = true => hh.elim h0 h11)]
  obtain ⟨hz, hk, -⟩ := upV_facts hv
  have hu := upBytes_u8 a0 a1 a2 a3 a4 a5 a6 a7 a8 a9 a10 hl hm 0
  have hlen := upBytes_len 0 hv
  have ho : impl_onesSum.f q (upBytes a0 a1 a2 a3 a4 a5 a6 a7 a8 a9 a10 l m 0) = some (ones (upBytes a0 a1 a2 a3 a4 a5 a6 a7 a8 a9 a10 l m 0) 0) := implOnes hu (by omega) (by omega)
  have hb := implUp (q := q) (by omega) hn hv 0
  have ow := ones_w _ hu
  have tw := upTop_w a0 l.length m.length k a b c d k' a' b' c' d'
  have hs : ∀ t, 0 ≤ t ∧ t ≤ 65535 → impl_sum.f t (ones (upBytes a0 a1 a2 a3 a4 a5 a6 a7 a8 a9 a10 l m 0) 0) = some (osum t (ones (upBytes a0 a1 a2 a3 a4 a5 a6 a7 a8 a9 a10 l m 0) 0)) := fun t ht => implSum ht.1 ht.2 ow.1 ow.2
  have hw := osum_word tw.1 tw.2 ow.1 ow.2
  have hd := wrapDown hw
  simp only [implUpperSize _ _ _ _ _ _ _ _ _ _ _ _ l m hn, hb, ho, implPseudo (show 100 ≤ q by omega), Option.bind_some]
  generalize ones (upBytes a0 a1 a2 a3 a4 a5 a6 a7 a8 a9 a10 l m 0) 0 = o at *
  unfold upTop upProto at *
  rcases hk with rfl | rfl | rfl | rfl
  · exact absurd rfl h0
  · simp only [show ¬ ((1 : Int) = 3) by decide, show ¬ ((1 : Int) = 2) by decide, false_and, if_false, if_true, Option.bind_some] at *
    rw [hs _ tw, Option.bind_some, hd]
    unfold upFin
    simp
  · simp only [show ¬ ((2 : Int) = 3) by decide, show ¬ ((2 : Int) = 1) by decide, false_and, if_false, if_true, Option.bind_some] at *
    rw [hs _ tw, Option.bind_some, hd]
    unfold upFin
    simp only [true_and]
    split <;> rfl
  · simp only [show ¬ ((3 : Int) = 2) by decide, show ¬ ((3 : Int) = 1) by decide, true_and, if_false, if_true, Option.bind_some] at *
    by_cases h6 : k = 6
    · simp only [h6, not_true_eq_false, if_false, if_true] at *
      rw [hs _ tw, Option.bind_some, hd]
      unfold upFin
      simp
    · simp only [h6, not_false_eq_true, if_false, if_true] at *
      rw [hs _ tw, Option.bind_some, hd]
      unfold upFin
      simp

def upperBytes (a0 a1 a2 a3 a4 a5 a6 a7 a8 a9 a10 : Int) (a11 : Bool) (l m : List Int) (k a b c d k' a' b' c' d' : Int) : List Int :=
  if upSum a0 a1 a2 a3 a4 a5 a6 a7 a8 a9 a10 a11 l m k a b c d k' a' b' c' d' < 0 then [] else upBytes a0 a1 a2 a3 a4 a5 a6 a7 a8 a9 a10 l m (upSum a0 a1 a2 a3 a4 a5 a6 a7 a8 a9 a10 a11 l m k a b c d k' a' b' c' d')
theorem upperBytes_len (a0 a1 a2 a3 a4 a5 a6 a7 a8 a9 a10 : Int) (a11 : Bool) {l m : List Int} (hl : U8 l) (hm : U8 m) (k a b c d k' a' b' c' d' : Int) : (upperBytes a0 a1 a2 a3 a4 a5 a6 a7 a8 a9 a10 a11 l m k a b c d k' a' b' c' d').length ≤ 1500 := by
  unfold upperBytes
  split
  · simp
  · rename_i h
    exact upBytes_len _ ((upSum_le a0 a1 a2 a3 a4 a5 a6 a7 a8 a9 a10 a11 hl hm k a b c d k' a' b' c' d').2 h).2
theorem specUpperBytes {q : Nat} (hq : 1600 ≤ q) (a0 a1 a2 a3 a4 a5 a6 a7 a8 a9 a10 : Int) (a11 : Bool) {l m : List Int} (hl : U8 l) (hm : U8 m) (hn : l.length + m.length ≤ 1048576) (k a b c d k' a' b' c' d' : Int) :
    spec_UpperBytes.f q a0 a1 a2 a3 a4 a5 a6 a7 a8 a9 a10 a11 l m k a b c d k' a' b' c' d' = some (upperBytes a0 a1 a2 a3 a4 a5 a6 a7 a8 a9 a10 a11 l m k a b c d k' a' b' c' d') := by
  have hs := upSum_le a0 a1 a2 a3 a4 a5 a6 a7 a8 a9 a10 a11 hl hm k a b c d k' a' b' c' d'
  unfold spec_UpperBytes.f upperBytes
  rw [specUpperSum hq _ _ _ _ _ _ _ _ _ _ _ _ hl hm hn, Option.bind_some]
  by_cases h : upSum a0 a1 a2 a3 a4 a5 a6 a7 a8 a9 a10 a11 l m k a b c d k' a' b' c' d' < 0
  · rw [if_pos h, if_pos h]
  · rw [if_neg h, if_neg h, specUp hn (hs.2 h).2 ⟨(hs.2 h).1, hs.1⟩, Option.bind_some]
theorem implUpperBytes {q : Nat} (hq : 1600 ≤ q) (a0 a1 a2 a3 a4 a5 a6 a7 a8 a9 a10 : Int) (a11 : Bool) {l m : List Int} (hl : U8 l) (hm : U8 m) (hn : l.length + m.length ≤ 1048576) (k a b c d k' a' b' c' d' : Int) :
    impl_UpperBytes.f q a0 a1 a2 a3 a4 a5 a6 a7 a8 a9 a10 a11 l m k a b c d k' a' b' c' d' = some (upperBytes a0 a1 a2 a3 a4 a5 a6 a7 a8 a9 a10 a11 l m k a b c d k' a' b' c' d') := by
  have hs := upSum_le a0 a1 a2 a3 a4 a5 a6 a7 a8 a9 a10 a11 hl hm k a b c d k' a' b' c' d'
  unfold impl_UpperBytes.f upperBytes
  rw [implUpperSum hq _ _ _ _ _ _ _ _ _ _ _ _ hl hm hn, Option.bind_some]
  by_cases h : upSum a0 a1 a2 a3 a4 a5 a6 a7 a8 a9 a10 a11 l m k a b c d k' a' b' c' d' < 0
  · rw [if_pos h, if_pos h]
  · rw [if_neg h, if_neg h, implUp (by omega) hn (hs.2 h).2, Option.bind_some]
def ukind (a b : Int) : Int := (spec_UpperKind.f a b).getD 0
theorem specUKind (a b : Int) : spec_UpperKind.f a b = some (ukind a b) := by
  unfold ukind spec_UpperKind.f
  rw [specIn]
  simp only [Option.bind_some]
  repeat' split
  all_goals rfl
theorem implUKind (a b : Int) : impl_UpperKind.f a b = some (ukind a b) := by
  rw [← specUKind]
  unfold spec_UpperKind.f impl_UpperKind.f
  rw [specIn, isByte]
def fpiece (a0 a1 a2 a3 a4 a5 a6 a7 a8 a9 a10 a11 a12 a13 a14 a15 a16 ol bl : Int) : Bool := decide (FourOK a0 a1 a2 a3 a4 a5 a6 a7 a8 a9 a10 a11 a12 a13 a14 a15 a16 ol bl) && (if a4 = 0 then Int.tmod a3 2 == 1 else true)
theorem specPiece (a0 a1 a2 a3 a4 a5 a6 a7 a8 a9 a10 a11 a12 a13 a14 a15 a16 : Int) (l m : List Int) (hl : l.length + m.length ≤ 4000000) : spec_FourPiece.f a0 a1 a2 a3 a4 a5 a6 a7 a8 a9 a10 a11 a12 a13 a14 a15 a16 l m = some (fpiece a0 a1 a2 a3 a4 a5 a6 a7 a8 a9 a10 a11 a12 a13 a14 a15 a16 l.length m.length) := by
  unfold spec_FourPiece.f fpiece
  rw [specFourOk a0 a1 a2 a3 a4 a5 a6 a7 a8 a9 a10 a11 a12 a13 a14 a15 a16 l m hl, Option.bind_some]
  cases decide (FourOK a0 a1 a2 a3 a4 a5 a6 a7 a8 a9 a10 a11 a12 a13 a14 a15 a16 l.length m.length)
  · rfl
  · by_cases h : a4 = 0 <;> simp [h]
theorem implPiece (a0 a1 a2 a3 a4 a5 a6 a7 a8 a9 a10 a11 a12 a13 a14 a15 a16 : Int) (l m : List Int) (hl : l.length + m.length ≤ 4000000) : impl_FourPiece.f a0 a1 a2 a3 a4 a5 a6 a7 a8 a9 a10 a11 a12 a13 a14 a15 a16 l m = some (fpiece a0 a1 a2 a3 a4 a5 a6 a7 a8 a9 a10 a11 a12 a13 a14 a15 a16 l.length m.length) := by
  unfold impl_FourPiece.f fpiece
  rw [implFourOk a0 a1 a2 a3 a4 a5 a6 a7 a8 a9 a10 a11 a12 a13 a14 a15 a16 l m hl, Option.bind_some]
  cases decide (FourOK a0 a1 a2 a3 a4 a5 a6 a7 a8 a9 a10 a11 a12 a13 a14 a15 a16 l.length m.length)
  · rfl
  · by_cases h : a4 = 0 <;> simp [h]
def zFour (a0 a1 a2 a3 a4 a5 a6 a7 a8 a9 a10 a11 a12 a13 a14 a15 a16 ol bl : Int) : Bool := decide (a0 = 0 ∧ a1 = 0 ∧ a2 = 0 ∧ a3 = 0 ∧ a4 = 0 ∧ a5 = 0 ∧ a6 = 0 ∧ a7 = 0 ∧ a8 = 0 ∧ a9 = 0 ∧ a10 = 0 ∧ a11 = 0 ∧ a12 = 0 ∧ a13 = 0 ∧ a14 = 0 ∧ a15 = 0 ∧ a16 = 0 ∧ ol = 0 ∧ bl = 0)
def zSix (a0 a1 a2 a3 a4 a5 a6 a7 a8 a9 a10 a11 a12 a13 xl bl : Int) : Bool := decide (a0 = 0 ∧ a1 = 0 ∧ a2 = 0 ∧ a3 = 0 ∧ a4 = 0 ∧ a5 = 0 ∧ a6 = 0 ∧ a7 = 0 ∧ a8 = 0 ∧ a9 = 0 ∧ a10 = 0 ∧ a11 = 0 ∧ a12 = 0 ∧ a13 = 0 ∧ xl = 0 ∧ bl = 0)
theorem specZFour (a0 a1 a2 a3 a4 a5 a6 a7 a8 a9 a10 a11 a12 a13 a14 a15 a16 : Int) (l m : List Int) : spec_l08NoFour.f a0 a1 a2 a3 a4 a5 a6 a7 a8 a9 a10 a11 a12 a13 a14 a15 a16 l m = some (zFour a0 a1 a2 a3 a4 a5 a6 a7 a8 a9 a10 a11 a12 a13 a14 a15 a16 l.length m.length) := by
  unfold spec_l08NoFour.f zFour
  repeat' (with_reducible refine ite_goal (fun c_ => ?_) (fun c_ => ?_))
  all_goals refine some_decide ?_
  all_goals (simp only [Bool.and_eq_true, beq_iff_eq, Bool.false_eq_true, false_iff] at *; omega)
theorem specZSix (a0 a1 a2 a3 a4 a5 a6 a7 a8 a9 a10 a11 a12 a13 : Int) (l : List S102) (m : List Int) : spec_l08NoSix.f a0 a1 a2 a3 a4 a5 a6 a7 a8 a9 a10 a11 a12 a13 l m = some (zSix a0 a1 a2 a3 a4 a5 a6 a7 a8 a9 a10 a11 a12 a13 l.length m.length) := by
  unfold spec_l08NoSix.f zSix
  repeat' (with_reducible refine ite_goal (fun c_ => ?_) (fun c_ => ?_))
  all_goals refine some_decide ?_
  all_goals (simp only [Bool.and_eq_true, beq_iff_eq, Bool.false_eq_true, false_iff] at *; omega)
theorem implZFour (a0 a1 a2 a3 a4 a5 a6 a7 a8 a9 a10 a11 a12 a13 a14 a15 a16 : Int) (l m : List Int) : impl_isZeroFour.f a0 a1 a2 a3 a4 a5 a6 a7 a8 a9 a10 a11 a12 a13 a14 a15 a16 l m = some (zFour a0 a1 a2 a3 a4 a5 a6 a7 a8 a9 a10 a11 a12 a13 a14 a15 a16 l.length m.length) := by
  unfold impl_isZeroFour.f zFour
  rw [areZero (by simp), Option.bind_some]
  repeat' (with_reducible refine ite_goal (fun c_ => ?_) (fun c_ => ?_))
  all_goals refine some_decide ?_
  all_goals (simp only [List.any_cons, List.any_nil, Bool.or_false, Bool.not_eq_true', Bool.or_eq_false_iff, bne_eq_false_iff_eq, Bool.and_eq_true, beq_iff_eq, Bool.false_eq_true, false_iff] at *; omega)
theorem implZSix (a0 a1 a2 a3 a4 a5 a6 a7 a8 a9 a10 a11 a12 a13 : Int) (l : List S102) (m : List Int) : impl_isZeroSix.f a0 a1 a2 a3 a4 a5 a6 a7 a8 a9 a10 a11 a12 a13 l m = some (zSix a0 a1 a2 a3 a4 a5 a6 a7 a8 a9 a10 a11 a12 a13 l.length m.length) := by
  unfold impl_isZeroSix.f zSix
  rw [areZero (by simp), Option.bind_some]
  repeat' (with_reducible refine ite_goal (fun c_ => ?_) (fun c_ => ?_))
  all_goals refine some_decide ?_
  all_goals (simp only [List.any_cons, List.any_nil, Bool.or_false, Bool.not_eq_true', Bool.or_eq_false_iff, bne_eq_false_iff_eq, Bool.and_eq_true, beq_iff_eq, Bool.false_eq_true, false_iff] at *; omega)
theorem zeroL3 (a b c : Int) : impl_areZero.f [a, b, c] = some (decide (a = 0 ∧ b = 0 ∧ c = 0)) := by
  rw [areZero (by simp)]
  refine some_decide ?_
  simp
def Whole (a1 a2 a3 a4 : Int) (Q : Prop) (z : List Int) (x : Option (Int × Int × Int × Int × List Int × Bool)) : Prop := ∃ b t, x = some (a1, a2, a3, a4, b, t) ∧ (t = true ↔ Q) ∧ (t = true → b = z)
theorem whole_ite {a1 a2 a3 a4 : Int} {Q : Prop} {z : List Int} {c : Prop} [Decidable c] {x y : Option (Int × Int × Int × Int × List Int × Bool)} (h1 : c → Whole a1 a2 a3 a4 Q z x) (h2 : ¬ c → Whole a1 a2 a3 a4 Q z y) : Whole a1 a2 a3 a4 Q z (if c then x else y) := by
  by_cases h : c
  · rw [if_pos h]; exact h1 h
  · rw [if_neg h]; exact h2 h
def PK4 (a0 a1 a2 a3 a4 : Int) (l5 : List Int) (a6 a7 a8 a9 a10 a11 a12 a13 a14 a15 a16 a17 a18 a19 a20 a21 a22 : Int) (l23 l24 : List Int) (a25 a26 a27 a28 a29 a30 a31 a32 a33 a34 a35 a36 a37 a38 : Int) (l39 : List S102) (l40 : List Int) (a41 a42 a43 a44 a45 a46 a47 a48 a49 a50 a51 : Int) (a52 : Bool) (l53 l54 l55 : List Int) : Prop := l5.length = 0 ∧ l24.length = 0 ∧ l40.length = 0 ∧ ¬ upSum a41 a42 a43 a44 a45 a46 a47 a48 a49 a50 a51 a52 l53 l54 a13 a14 a15 a16 a17 a18 a19 a20 a21 a22 < 0 ∧ a4 = 2048 ∧ zSix a25 a26 a27 a28 a29 a30 a31 a32 a33 a34 a35 a36 a37 a38 l39.length l40.length = true ∧ FourOK a6 a7 a8 a9 a10 a11 a12 a13 a14 a15 a16 a17 a18 a19 a20 a21 a22 l23.length (upperBytes a41 a42 a43 a44 a45 a46 a47 a48 a49 a50 a51 a52 l53 l54 a13 a14 a15 a16 a17 a18 a19 a20 a21 a22).length ∧ a41 = (if fpiece a6 a7 a8 a9 a10 a11 a12 a13 a14 a15 a16 a17 a18 a19 a20 a21 a22 l23.length (upperBytes a41 a42 a43 a44 a45 a46 a47 a48 a49 a50 a51 a52 l53 l54 a13 a14 a15 a16 a17 a18 a19 a20 a21 a22).length = true then 0 else ukind a12 4) ∧ EtherOK a1 a2 a3 a4 ((fourBytes a6 a7 a8 a9 a10 a11 a12 a13 a14 a15 a16 a17 a18 a19 a20 a21 a22 l23 (upperBytes a41 a42 a43 a44 a45 a46 a47 a48 a49 a50 a51 a52 l53 l54 a13 a14 a15 a16 a17 a18 a19 a20 a21 a22)) ++ l55).length
theorem specWhole4 (a0 a1 a2 a3 a4 : Int) (l5 : List Int) (a6 a7 a8 a9 a10 a11 a12 a13 a14 a15 a16 a17 a18 a19 a20 a21 a22 : Int) (l23 l24 : List Int) (a25 a26 a27 a28 a29 a30 a31 a32 a33 a34 a35 a36 a37 a38 : Int) (l39 : List S102) (l40 : List Int) (a41 a42 a43 a44 a45 a46 a47 a48 a49 a50 a51 : Int) (a52 : Bool) (l53 l54 l55 : List Int) (h0 : a0 = 4) (h5 : l5.length ≤ 1048576) (h24 : l23.length + l24.length ≤ 1048576) (h39 : l39.length ≤ 1048576) (h40 : l40.length ≤ 1048576) (h54 : l53.length + l54.length ≤ 1048576) (h55 : l55.length ≤ 1048576) (u23 : U8 l23) (u53 : U8 l53) (u54 : U8 l54) {k : Nat} (hk : 3000000 ≤ k) : Whole a1 a2 a3 a4 (PK4 a0 a1 a2 a3 a4 l5 a6 a7 a8 a9 a10 a11 a12 a13 a14 a15 a16 a17 a18 a19 a20 a21 a22 l23 l24 a25 a26 a27 a28 a29 a30 a31 a32 a33 a34 a35 a36 a37 a38 l39 l40 a41 a42 a43 a44 a45 a46 a47 a48 a49 a50 a51 a52 l53 l54 l55) ((fourBytes a6 a7 a8 a9 a10 a11 a12 a13 a14 a15 a16 a17 a18 a19 a20 a21 a22 l23 (upperBytes a41 a42 a43 a44 a45 a46 a47 a48 a49 a50 a51 a52 l53 l54 a13 a14 a15 a16 a17 a18 a19 a20 a21 a22)) ++ l55) (spec_l08Whole.f k a0 a1 a2 a3 a4 l5 a6 a7 a8 a9 a10 a11 a12 a13 a14 a15 a16 a17 a18 a19 a20 a21 a22 l23 l24 a25 a26 a27 a28 a29 a30 a31 a32 a33 a34 a35 a36 a37 a38 l39 l40 a41 a42 a43 a44 a45 a46 a47 a48 a49 a50 a51 a52 l53 l54 l55) := by
  have hB := upperBytes_len a41 a42 a43 a44 a45 a46 a47 a48 a49 a50 a51 a52 u53 u54 a13 a14 a15 a16 a17 a18 a19 a20 a21 a22
  have hF := fourBytes_len a6 a7 a8 a9 a10 a11 a12 a13 a14 a15 a16 a17 a18 a19 a20 a21 a22 l23 (upperBytes a41 a42 a43 a44 a45 a46 a47 a48 a49 a50 a51 a52 l53 l54 a13 a14 a15 a16 a17 a18 a19 a20 a21 a22)
  unfold spec_l08Whole.f
  simp only [spec_l08Src.f, spec_l08Dst.f, if_pos h0, Option.bind_some, specUpperSum (show 1600 ≤ k by omega) a41 a42 a43 a44 a45 a46 a47 a48 a49 a50 a51 a52 u53 u54 h54, specUpperBytes (show 1600 ≤ k by omega) a41 a42 a43 a44 a45 a46 a47 a48 a49 a50 a51 a52 u53 u54 h54, specUKind, specEtherOk, specPiece a6 a7 a8 a9 a10 a11 a12 a13 a14 a15 a16 a17 a18 a19 a20 a21 a22 l23 (upperBytes a41 a42 a43 a44 a45 a46 a47 a48 a49 a50 a51 a52 l53 l54 a13 a14 a15 a16 a17 a18 a19 a20 a21 a22) (by omega), specZSix, specFourOk a6 a7 a8 a9 a10 a11 a12 a13 a14 a15 a16 a17 a18 a19 a20 a21 a22 l23 (upperBytes a41 a42 a43 a44 a45 a46 a47 a48 a49 a50 a51 a52 l53 l54 a13 a14 a15 a16 a17 a18 a19 a20 a21 a22) (by omega), specFourBytes (show 300 ≤ k by omega) a6 a7 a8 a9 a10 a11 a12 a13 a14 a15 a16 a17 a18 a19 a20 a21 a22 l23 (upperBytes a41 a42 a43 a44 a45 a46 a47 a48 a49 a50 a51 a52 l53 l54 a13 a14 a15 a16 a17 a18 a19 a20 a21 a22) (by omega) u23, decide_eq_true_eq]
  repeat' (with_reducible refine whole_ite (fun c_ => ?_) (fun c_ => ?_))
  all_goals first
    | (exfalso; omega)
    | (unfold PK4; refine ⟨_, _, rfl, ?_, ?_⟩ <;> first | (intro h_; first | exact absurd h_ Bool.false_ne_true | rfl) | (simp only [decide_eq_true_eq, Bool.false_eq_true, false_iff]; grind))
def PK6 (a0 a1 a2 a3 a4 : Int) (l5 : List Int) (a6 a7 a8 a9 a10 a11 a12 a13 a14 a15 a16 a17 a18 a19 a20 a21 a22 : Int) (l23 l24 : List Int) (a25 a26 a27 a28 a29 a30 a31 a32 a33 a34 a35 a36 a37 a38 : Int) (l39 : List S102) (l40 : List Int) (a41 a42 a43 a44 a45 a46 a47 a48 a49 a50 a51 : Int) (a52 : Bool) (l53 l54 l55 : List Int) : Prop := l5.length = 0 ∧ l24.length = 0 ∧ l40.length = 0 ∧ ¬ upSum a41 a42 a43 a44 a45 a46 a47 a48 a49 a50 a51 a52 l53 l54 a29 a30 a31 a32 a33 a34 a35 a36 a37 a38 < 0 ∧ a4 = 34525 ∧ zFour a6 a7 a8 a9 a10 a11 a12 a13 a14 a15 a16 a17 a18 a19 a20 a21 a22 l23.length l24.length = true ∧ SixOK a25 a26 a27 a28 a29 a30 a31 a32 a33 a34 a35 a36 a37 a38 l39 (upperBytes a41 a42 a43 a44 a45 a46 a47 a48 a49 a50 a51 a52 l53 l54 a29 a30 a31 a32 a33 a34 a35 a36 a37 a38).length ∧ a41 = ukind a28 6 ∧ EtherOK a1 a2 a3 a4 ((sixBytes a25 a26 a27 a28 a29 a30 a31 a32 a33 a34 a35 a36 a37 a38 l39 (upperBytes a41 a42 a43 a44 a45 a46 a47 a48 a49 a50 a51 a52 l53 l54 a29 a30 a31 a32 a33 a34 a35 a36 a37 a38)) ++ l55).length
theorem specWhole6 (a0 a1 a2 a3 a4 : Int) (l5 : List Int) (a6 a7 a8 a9 a10 a11 a12 a13 a14 a15 a16 a17 a18 a19 a20 a21 a22 : Int) (l23 l24 : List Int) (a25 a26 a27 a28 a29 a30 a31 a32 a33 a34 a35 a36 a37 a38 : Int) (l39 : List S102) (l40 : List Int) (a41 a42 a43 a44 a45 a46 a47 a48 a49 a50 a51 : Int) (a52 : Bool) (l53 l54 l55 : List Int) (h0 : a0 = 6) (h5 : l5.length ≤ 1048576) (h24 : l23.length + l24.length ≤ 1048576) (h39 : l39.length ≤ 1048576) (h40 : l40.length ≤ 1048576) (h54 : l53.length + l54.length ≤ 1048576) (h55 : l55.length ≤ 1048576) (u23 : U8 l23) (u53 : U8 l53) (u54 : U8 l54) {k : Nat} (hk : 3000000 ≤ k) : Whole a1 a2 a3 a4 (PK6 a0 a1 a2 a3 a4 l5 a6 a7 a8 a9 a10 a11 a12 a13 a14 a15 a16 a17 a18 a19 a20 a21 a22 l23 l24 a25 a26 a27 a28 a29 a30 a31 a32 a33 a34 a35 a36 a37 a38 l39 l40 a41 a42 a43 a44 a45 a46 a47 a48 a49 a50 a51 a52 l53 l54 l55) ((sixBytes a25 a26 a27 a28 a29 a30 a31 a32 a33 a34 a35 a36 a37 a38 l39 (upperBytes a41 a42 a43 a44 a45 a46 a47 a48 a49 a50 a51 a52 l53 l54 a29 a30 a31 a32 a33 a34 a35 a36 a37 a38)) ++ l55) (spec_l08Whole.f k a0 a1 a2 a3 a4 l5 a6 a7 a8 a9 a10 a11 a12 a13 a14 a15 a16 a17 a18 a19 a20 a21 a22 l23 l24 a25 a26 a27 a28 a29 a30 a31 a32 a33 a34 a35 a36 a37 a38 l39 l40 a41 a42 a43 a44 a45 a46 a47 a48 a49 a50 a51 a52 l53 l54 l55) := by
  have hB := upperBytes_len a41 a42 a43 a44 a45 a46 a47 a48 a49 a50 a51 a52 u53 u54 a29 a30 a31 a32 a33 a34 a35 a36 a37 a38
  have hF := sixBytes_len a25 a26 a27 a28 a29 a30 a31 a32 a33 a34 a35 a36 a37 a38 l39 (upperBytes a41 a42 a43 a44 a45 a46 a47 a48 a49 a50 a51 a52 l53 l54 a29 a30 a31 a32 a33 a34 a35 a36 a37 a38)
  have n0 : ¬ a0 = 4 := by omega
  unfold spec_l08Whole.f
  simp only [spec_l08Src.f, spec_l08Dst.f, if_neg n0, if_pos h0, Option.bind_some, specUpperSum (show 1600 ≤ k by omega) a41 a42 a43 a44 a45 a46 a47 a48 a49 a50 a51 a52 u53 u54 h54, specUpperBytes (show 1600 ≤ k by omega) a41 a42 a43 a44 a45 a46 a47 a48 a49 a50 a51 a52 u53 u54 h54, specUKind, specEtherOk, specZFour, specSixOk a25 a26 a27 a28 a29 a30 a31 a32 a33 a34 a35 a36 a37 a38 l39 (upperBytes a41 a42 a43 a44 a45 a46 a47 a48 a49 a50 a51 a52 l53 l54 a29 a30 a31 a32 a33 a34 a35 a36 a37 a38) (by omega) hk, specSixBytes a25 a26 a27 a28 a29 a30 a31 a32 a33 a34 a35 a36 a37 a38 l39 (upperBytes a41 a42 a43 a44 a45 a46 a47 a48 a49 a50 a51 a52 l53 l54 a29 a30 a31 a32 a33 a34 a35 a36 a37 a38) (by omega) hk, decide_eq_true_eq]
  repeat' (with_reducible refine whole_ite (fun c_ => ?_) (fun c_ => ?_))
  all_goals first
    | (exfalso; omega)
    | (unfold PK6; refine ⟨_, _, rfl, ?_, ?_⟩ <;> first | (intro h_; first | exact absurd h_ Bool.false_ne_true | rfl) | (simp only [decide_eq_true_eq, Bool.false_eq_true, false_iff]; grind))
def Inner (Q : Prop) (z : List Int) (x : Option (List Int × Bool)) : Prop := ∃ b t, x = some (b, t) ∧ (t = true ↔ Q) ∧ (t = true → b = z) ∧ b.length ≤ 2000000
theorem inner_ite {Q : Prop} {z : List Int} {c : Prop} [Decidable c] {x y : Option (List Int × Bool)} (h1 : c → Inner Q z x) (h2 : ¬ c → Inner Q z y) : Inner Q z (if c then x else y) := by
  by_cases h : c
  · rw [if_pos h]; exact h1 h
  · rw [if_neg h]; exact h2 h
def IN4 (a0 a1 a2 a3 a4 : Int) (l5 : List Int) (a6 a7 a8 a9 a10 a11 a12 a13 a14 a15 a16 a17 a18 a19 a20 a21 a22 : Int) (l23 l24 : List Int) (a25 a26 a27 a28 a29 a30 a31 a32 a33 a34 a35 a36 a37 a38 : Int) (l39 : List S102) (l40 : List Int) (a41 a42 a43 a44 a45 a46 a47 a48 a49 a50 a51 : Int) (a52 : Bool) (l53 l54 l55 : List Int) : Prop := ¬ upSum a41 a42 a43 a44 a45 a46 a47 a48 a49 a50 a51 a52 l53 l54 a13 a14 a15 a16 a17 a18 a19 a20 a21 a22 < 0 ∧ FourOK a6 a7 a8 a9 a10 a11 a12 a13 a14 a15 a16 a17 a18 a19 a20 a21 a22 l23.length (upperBytes a41 a42 a43 a44 a45 a46 a47 a48 a49 a50 a51 a52 l53 l54 a13 a14 a15 a16 a17 a18 a19 a20 a21 a22).length ∧ a41 = (if fpiece a6 a7 a8 a9 a10 a11 a12 a13 a14 a15 a16 a17 a18 a19 a20 a21 a22 l23.length (upperBytes a41 a42 a43 a44 a45 a46 a47 a48 a49 a50 a51 a52 l53 l54 a13 a14 a15 a16 a17 a18 a19 a20 a21 a22).length = true then 0 else ukind a12 4)
theorem implInner4 (a0 a1 a2 a3 a4 : Int) (l5 : List Int) (a6 a7 a8 a9 a10 a11 a12 a13 a14 a15 a16 a17 a18 a19 a20 a21 a22 : Int) (l23 l24 : List Int) (a25 a26 a27 a28 a29 a30 a31 a32 a33 a34 a35 a36 a37 a38 : Int) (l39 : List S102) (l40 : List Int) (a41 a42 a43 a44 a45 a46 a47 a48 a49 a50 a51 : Int) (a52 : Bool) (l53 l54 l55 : List Int) (h0 : a0 = 4) (h5 : l5.length ≤ 1048576) (h24 : l23.length + l24.length ≤ 1048576) (h39 : l39.length ≤ 1048576) (h40 : l40.length ≤ 1048576) (h54 : l53.length + l54.length ≤ 1048576) (h55 : l55.length ≤ 1048576) (u23 : U8 l23) (u53 : U8 l53) (u54 : U8 l54) {k : Nat} (hk : 3000000 ≤ k) : Inner (IN4 a0 a1 a2 a3 a4 l5 a6 a7 a8 a9 a10 a11 a12 a13 a14 a15 a16 a17 a18 a19 a20 a21 a22 l23 l24 a25 a26 a27 a28 a29 a30 a31 a32 a33 a34 a35 a36 a37 a38 l39 l40 a41 a42 a43 a44 a45 a46 a47 a48 a49 a50 a51 a52 l53 l54 l55) (fourBytes a6 a7 a8 a9 a10 a11 a12 a13 a14 a15 a16 a17 a18 a19 a20 a21 a22 l23 (upperBytes a41 a42 a43 a44 a45 a46 a47 a48 a49 a50 a51 a52 l53 l54 a13 a14 a15 a16 a17 a18 a19 a20 a21 a22)) (impl_Packet_inner.f k a0 a1 a2 a3 a4 l5 a6 a7 a8 a9 a10 a11 a12 a13 a14 a15 a16 a17 a18 a19 a20 a21 a22 l23 l24 a25 a26 a27 a28 a29 a30 a31 a32 a33 a34 a35 a36 a37 a38 l39 l40 a41 a42 a43 a44 a45 a46 a47 a48 a49 a50 a51 a52 l53 l54 l55) := by
  have hB := upperBytes_len a41 a42 a43 a44 a45 a46 a47 a48 a49 a50 a51 a52 u53 u54 a13 a14 a15 a16 a17 a18 a19 a20 a21 a22
  have hF := fourBytes_len a6 a7 a8 a9 a10 a11 a12 a13 a14 a15 a16 a17 a18 a19 a20 a21 a22 l23 (upperBytes a41 a42 a43 a44 a45 a46 a47 a48 a49 a50 a51 a52 l53 l54 a13 a14 a15 a16 a17 a18 a19 a20 a21 a22)
  unfold impl_Packet_inner.f
  simp only [impl_Packet_ends.f, if_pos h0, Option.bind_some, implUpperSum (show 1600 ≤ k by omega) a41 a42 a43 a44 a45 a46 a47 a48 a49 a50 a51 a52 u53 u54 h54, implUpperBytes (show 1600 ≤ k by omega) a41 a42 a43 a44 a45 a46 a47 a48 a49 a50 a51 a52 u53 u54 h54, implUKind, implPiece a6 a7 a8 a9 a10 a11 a12 a13 a14 a15 a16 a17 a18 a19 a20 a21 a22 l23 (upperBytes a41 a42 a43 a44 a45 a46 a47 a48 a49 a50 a51 a52 l53 l54 a13 a14 a15 a16 a17 a18 a19 a20 a21 a22) (by omega), implFourOk a6 a7 a8 a9 a10 a11 a12 a13 a14 a15 a16 a17 a18 a19 a20 a21 a22 l23 (upperBytes a41 a42 a43 a44 a45 a46 a47 a48 a49 a50 a51 a52 l53 l54 a13 a14 a15 a16 a17 a18 a19 a20 a21 a22) (by omega), implFourBytes (show 300 ≤ k by omega) a6 a7 a8 a9 a10 a11 a12 a13 a14 a15 a16 a17 a18 a19 a20 a21 a22 l23 (upperBytes a41 a42 a43 a44 a45 a46 a47 a48 a49 a50 a51 a52 l53 l54 a13 a14 a15 a16 a17 a18 a19 a20 a21 a22) (by omega) u23, decide_eq_true_eq]
  repeat' (with_reducible refine inner_ite (fun c_ => ?_) (fun c_ => ?_))
  all_goals (unfold IN4; refine ⟨_, _, rfl, ?_, ?_, ?_⟩ <;> first | (intro h_; first | exact absurd h_ Bool.false_ne_true | rfl) | omega | (simp only [List.length_nil]; omega) | (simp only [beq_iff_eq, Bool.false_eq_true, false_iff]; grind) | grind)
def IN6 (a0 a1 a2 a3 a4 : Int) (l5 : List Int) (a6 a7 a8 a9 a10 a11 a12 a13 a14 a15 a16 a17 a18 a19 a20 a21 a22 : Int) (l23 l24 : List Int) (a25 a26 a27 a28 a29 a30 a31 a32 a33 a34 a35 a36 a37 a38 : Int) (l39 : List S102) (l40 : List Int) (a41 a42 a43 a44 a45 a46 a47 a48 a49 a50 a51 : Int) (a52 : Bool) (l53 l54 l55 : List Int) : Prop := ¬ upSum a41 a42 a43 a44 a45 a46 a47 a48 a49 a50 a51 a52 l53 l54 a29 a30 a31 a32 a33 a34 a35 a36 a37 a38 < 0 ∧ SixOK a25 a26 a27 a28 a29 a30 a31 a32 a33 a34 a35 a36 a37 a38 l39 (upperBytes a41 a42 a43 a44 a45 a46 a47 a48 a49 a50 a51 a52 l53 l54 a29 a30 a31 a32 a33 a34 a35 a36 a37 a38).length ∧ a41 = ukind a28 6
theorem implInner6 (a0 a1 a2 a3 a4 : Int) (l5 : List Int) (a6 a7 a8 a9 a10 a11 a12 a13 a14 a15 a16 a17 a18 a19 a20 a21 a22 : Int) (l23 l24 : List Int) (a25 a26 a27 a28 a29 a30 a31 a32 a33 a34 a35 a36 a37 a38 : Int) (l39 : List S102) (l40 : List Int) (a41 a42 a43 a44 a45 a46 a47 a48 a49 a50 a51 : Int) (a52 : Bool) (l53 l54 l55 : List Int) (h0 : a0 = 6) (h5 : l5.length ≤ 1048576) (h24 : l23.length + l24.length ≤ 1048576) (h39 : l39.length ≤ 1048576) (h40 : l40.length ≤ 1048576) (h54 : l53.length + l54.length ≤ 1048576) (h55 : l55.length ≤ 1048576) (u23 : U8 l23) (u53 : U8 l53) (u54 : U8 l54) {k : Nat} (hk : 3000000 ≤ k) : Inner (IN6 a0 a1 a2 a3 a4 l5 a6 a7 a8 a9 a10 a11 a12 a13 a14 a15 a16 a17 a18 a19 a20 a21 a22 l23 l24 a25 a26 a27 a28 a29 a30 a31 a32 a33 a34 a35 a36 a37 a38 l39 l40 a41 a42 a43 a44 a45 a46 a47 a48 a49 a50 a51 a52 l53 l54 l55) (sixBytes a25 a26 a27 a28 a29 a30 a31 a32 a33 a34 a35 a36 a37 a38 l39 (upperBytes a41 a42 a43 a44 a45 a46 a47 a48 a49 a50 a51 a52 l53 l54 a29 a30 a31 a32 a33 a34 a35 a36 a37 a38)) (impl_Packet_inner.f k a0 a1 a2 a3 a4 l5 a6 a7 a8 a9 a10 a11 a12 a13 a14 a15 a16 a17 a18 a19 a20 a21 a22 l23 l24 a25 a26 a27 a28 a29 a30 a31 a32 a33 a34 a35 a36 a37 a38 l39 l40 a41 a42 a43 a44 a45 a46 a47 a48 a49 a50 a51 a52 l53 l54 l55) := by
  have hB := upperBytes_len a41 a42 a43 a44 a45 a46 a47 a48 a49 a50 a51 a52 u53 u54 a29 a30 a31 a32 a33 a34 a35 a36 a37 a38
  have hF := sixBytes_len a25 a26 a27 a28 a29 a30 a31 a32 a33 a34 a35 a36 a37 a38 l39 (upperBytes a41 a42 a43 a44 a45 a46 a47 a48 a49 a50 a51 a52 l53 l54 a29 a30 a31 a32 a33 a34 a35 a36 a37 a38)
  have n0 : ¬ a0 = 4 := by omega
  unfold impl_Packet_inner.f
  simp only [impl_Packet_ends.f, if_neg n0, Option.bind_some, implUpperSum (show 1600 ≤ k by omega) a41 a42 a43 a44 a45 a46 a47 a48 a49 a50 a51 a52 u53 u54 h54, implUpperBytes (show 1600 ≤ k by omega) a41 a42 a43 a44 a45 a46 a47 a48 a49 a50 a51 a52 u53 u54 h54, implUKind, implSixOk a25 a26 a27 a28 a29 a30 a31 a32 a33 a34 a35 a36 a37 a38 l39 (upperBytes a41 a42 a43 a44 a45 a46 a47 a48 a49 a50 a51 a52 l53 l54 a29 a30 a31 a32 a33 a34 a35 a36 a37 a38) h39 (by omega) hk, implSixBytes a25 a26 a27 a28 a29 a30 a31 a32 a33 a34 a35 a36 a37 a38 l39 (upperBytes a41 a42 a43 a44 a45 a46 a47 a48 a49 a50 a51 a52 l53 l54 a29 a30 a31 a32 a33 a34 a35 a36 a37 a38) h39 (by omega) hk, decide_eq_true_eq]
  repeat' (with_reducible refine inner_ite (fun c_ => ?_) (fun c_ => ?_))
  all_goals (unfold IN6; refine ⟨_, _, rfl, ?_, ?_, ?_⟩ <;> first | (intro h_; first | exact absurd h_ Bool.false_ne_true | rfl) | omega | (simp only [List.length_nil]; omega) | (simp only [beq_iff_eq, Bool.false_eq_true, false_iff]; grind) | grind)
def WholeI (a1 a2 a3 a4 : Int) (Q : Prop) (z : List Int) (x : Option (Int × Int × Int × Int × List Int × Bool)) : Prop := ∃ e1 e2 e3 e4 b t, x = some (e1, e2, e3, e4, b, t) ∧ (t = true ↔ Q) ∧ (t = true → e1 = a1 ∧ e2 = a2 ∧ e3 = a3 ∧ e4 = a4 ∧ b = z)
theorem wholeI_ite {a1 a2 a3 a4 : Int} {Q : Prop} {z : List Int} {c : Prop} [Decidable c] {x y : Option (Int × Int × Int × Int × List Int × Bool)} (h1 : c → WholeI a1 a2 a3 a4 Q z x) (h2 : ¬ c → WholeI a1 a2 a3 a4 Q z y) : WholeI a1 a2 a3 a4 Q z (if c then x else y) := by
  by_cases h : c
  · rw [if_pos h]; exact h1 h
  · rw [if_neg h]; exact h2 h
theorem implFrame4 (a0 a1 a2 a3 a4 : Int) (l5 : List Int) (a6 a7 a8 a9 a10 a11 a12 a13 a14 a15 a16 a17 a18 a19 a20 a21 a22 : Int) (l23 l24 : List Int) (a25 a26 a27 a28 a29 a30 a31 a32 a33 a34 a35 a36 a37 a38 : Int) (l39 : List S102) (l40 : List Int) (a41 a42 a43 a44 a45 a46 a47 a48 a49 a50 a51 : Int) (a52 : Bool) (l53 l54 l55 : List Int) (h0 : a0 = 4) (h5 : l5.length ≤ 1048576) (h24 : l23.length + l24.length ≤ 1048576) (h39 : l39.length ≤ 1048576) (h40 : l40.length ≤ 1048576) (h54 : l53.length + l54.length ≤ 1048576) (h55 : l55.length ≤ 1048576) (u23 : U8 l23) (u53 : U8 l53) (u54 : U8 l54) {k : Nat} (hk : 3000000 ≤ k) : WholeI a1 a2 a3 a4 (PK4 a0 a1 a2 a3 a4 l5 a6 a7 a8 a9 a10 a11 a12 a13 a14 a15 a16 a17 a18 a19 a20 a21 a22 l23 l24 a25 a26 a27 a28 a29 a30 a31 a32 a33 a34 a35 a36 a37 a38 l39 l40 a41 a42 a43 a44 a45 a46 a47 a48 a49 a50 a51 a52 l53 l54 l55) ((fourBytes a6 a7 a8 a9 a10 a11 a12 a13 a14 a15 a16 a17 a18 a19 a20 a21 a22 l23 (upperBytes a41 a42 a43 a44 a45 a46 a47 a48 a49 a50 a51 a52 l53 l54 a13 a14 a15 a16 a17 a18 a19 a20 a21 a22)) ++ l55) (impl_Packet_frame.f k a0 a1 a2 a3 a4 l5 a6 a7 a8 a9 a10 a11 a12 a13 a14 a15 a16 a17 a18 a19 a20 a21 a22 l23 l24 a25 a26 a27 a28 a29 a30 a31 a32 a33 a34 a35 a36 a37 a38 l39 l40 a41 a42 a43 a44 a45 a46 a47 a48 a49 a50 a51 a52 l53 l54 l55) := by
  obtain ⟨b, t, e, ht, hb, hl⟩ := implInner4 a0 a1 a2 a3 a4 l5 a6 a7 a8 a9 a10 a11 a12 a13 a14 a15 a16 a17 a18 a19 a20 a21 a22 l23 l24 a25 a26 a27 a28 a29 a30 a31 a32 a33 a34 a35 a36 a37 a38 l39 l40 a41 a42 a43 a44 a45 a46 a47 a48 a49 a50 a51 a52 l53 l54 l55 h0 h5 h24 h39 h40 h54 h55 u23 u53 u54 hk
  have hc : slices_Concat_byte_byte.f k [b, l55] = some (b ++ l55) := by
    rw [concat (by simp) (by simp; omega) (by simp; omega)]
    simp
  have n0 : ¬ a0 = 6 := by omega
  unfold impl_Packet_frame.f
  simp only [if_pos h0, if_neg n0, implZSix, zeroL3, e, hc, Option.bind_some, implEtherOk _ _ _ _ (b ++ l55) (show (b ++ l55).length ≤ 4000000 by simp only [List.length_append]; omega), decide_eq_true_eq]
  repeat' (with_reducible refine wholeI_ite (fun c_ => ?_) (fun c_ => ?_))
  all_goals (unfold PK4; unfold IN4 at ht; refine ⟨_, _, _, _, _, _, rfl, ?_, ?_⟩ <;> first | (intro h_; exact absurd h_ Bool.false_ne_true) | grind)
theorem implFrame6 (a0 a1 a2 a3 a4 : Int) (l5 : List Int) (a6 a7 a8 a9 a10 a11 a12 a13 a14 a15 a16 a17 a18 a19 a20 a21 a22 : Int) (l23 l24 : List Int) (a25 a26 a27 a28 a29 a30 a31 a32 a33 a34 a35 a36 a37 a38 : Int) (l39 : List S102) (l40 : List Int) (a41 a42 a43 a44 a45 a46 a47 a48 a49 a50 a51 : Int) (a52 : Bool) (l53 l54 l55 : List Int) (h0 : a0 = 6) (h5 : l5.length ≤ 1048576) (h24 : l23.length + l24.length ≤ 1048576) (h39 : l39.length ≤ 1048576) (h40 : l40.length ≤ 1048576) (h54 : l53.length + l54.length ≤ 1048576) (h55 : l55.length ≤ 1048576) (u23 : U8 l23) (u53 : U8 l53) (u54 : U8 l54) {k : Nat} (hk : 3000000 ≤ k) : WholeI a1 a2 a3 a4 (PK6 a0 a1 a2 a3 a4 l5 a6 a7 a8 a9 a10 a11 a12 a13 a14 a15 a16 a17 a18 a19 a20 a21 a22 l23 l24 a25 a26 a27 a28 a29 a30 a31 a32 a33 a34 a35 a36 a37 a38 l39 l40 a41 a42 a43 a44 a45 a46 a47 a48 a49 a50 a51 a52 l53 l54 l55) ((sixBytes a25 a26 a27 a28 a29 a30 a31 a32 a33 a34 a35 a36 a37 a38 l39 (upperBytes a41 a42 a43 a44 a45 a46 a47 a48 a49 a50 a51 a52 l53 l54 a29 a30 a31 a32 a33 a34 a35 a36 a37 a38)) ++ l55) (impl_Packet_frame.f k a0 a1 a2 a3 a4 l5 a6 a7 a8 a9 a10 a11 a12 a13 a14 a15 a16 a17 a18 a19 a20 a21 a22 l23 l24 a25 a26 a27 a28 a29 a30 a31 a32 a33 a34 a35 a36 a37 a38 l39 l40 a41 a42 a43 a44 a45 a46 a47 a48 a49 a50 a51 a52 l53 l54 l55) := by
  obtain ⟨b, t, e, ht, hb, hl⟩ := implInner6 a0 a1 a2 a3 a4 l5 a6 a7 a8 a9 a10 a11 a12 a13 a14 a15 a16 a17 a18 a19 a20 a21 a22 l23 l24 a25 a26 a27 a28 a29 a30 a31 a32 a33 a34 a35 a36 a37 a38 l39 l40 a41 a42 a43 a44 a45 a46 a47 a48 a49 a50 a51 a52 l53 l54 l55 h0 h5 h24 h39 h40 h54 h55 u23 u53 u54 hk
  have hc : slices_Concat_byte_byte.f k [b, l55] = some (b ++ l55) := by
    rw [concat (by simp) (by simp; omega) (by simp; omega)]
    simp
  have n0 : ¬ a0 = 4 := by omega
  unfold impl_Packet_frame.f
  simp only [if_neg n0, if_pos h0, implZFour, zeroL3, e, hc, Option.bind_some, implEtherOk _ _ _ _ (b ++ l55) (show (b ++ l55).length ≤ 4000000 by simp only [List.length_append]; omega), decide_eq_true_eq]
  repeat' (with_reducible refine wholeI_ite (fun c_ => ?_) (fun c_ => ?_))
  all_goals (unfold PK6; unfold IN6 at ht; refine ⟨_, _, _, _, _, _, rfl, ?_, ?_⟩ <;> first | (intro h_; exact absurd h_ Bool.false_ne_true) | grind)
theorem specMac {n : Int} (h0 : 0 ≤ n) (h1 : n ≤ 281474976710655) : spec_l04Mac.f n = some (b6 n) := by
  unfold spec_l04Mac.f
  rw [tdiv_pos h0, tmod_pos h0, w64 (by omega) (by omega), specPut16 (by omega), specPut32 (by omega)]
  simp only [Option.bind_some]
  rw [if_pos (by simp)]
  congr 1
  unfold b6
  rw [show n / 4294967296 / 256 % 256 = n / 1099511627776 % 256 by omega, show n % 4294967296 / 16777216 % 256 = n / 16777216 % 256 by omega, show n % 4294967296 / 65536 % 256 = n / 65536 % 256 by omega, show n % 4294967296 / 256 % 256 = n / 256 % 256 by omega, show n % 4294967296 % 256 = n % 256 by omega]
  rfl
def etherBytes (d s t k : Int) (l : List Int) : List Int :=
  if EtherOK d s t k l.length then b6 d ++ (b6 s ++ ((if t ≥ 0 then b2 33024 ++ b2 t else []) ++ (b2 k ++ l))) else []
theorem specEtherBytes (d s t k : Int) (l : List Int) : spec_EtherBytes.f d s t k l = some (etherBytes d s t k l) := by
  unfold spec_EtherBytes.f etherBytes
  rw [specEtherOk]
  simp only [Option.bind_some]
  by_cases h : EtherOK d s t k l.length
  · rw [decide_eq_true h, if_pos rfl, if_pos h]
    have h' := h
    unfold EtherOK at h'
    rw [specMac (by omega) (by omega), specMac (by omega) (by omega)]
    simp only [Option.bind_some]
    rw [if_pos (by simp [b6])]
    by_cases ht : t ≥ 0
    · have hl : (l.length : Int) ≤ 1582 := h'.2.2.2.2.1 ht
      rw [if_pos ht, if_pos ht, specPut16 (a := 33024) (by omega), specPut16 (a := t) (by omega), specPut16 (a := k) (by omega)]
      simp only [Option.bind_some]
      rw [if_pos (by simp [b6]), if_pos (by simp [b6]), if_pos (by simp [b6]), if_pos (by simp [b6]; omega)]
      simp only [b2, List.append_assoc]
    · have hl : (l.length : Int) ≤ 1586 := h'.2.2.2.2.2 (by omega)
      rw [if_neg ht, if_neg ht, specPut16 (a := k) (by omega)]
      simp only [Option.bind_some]
      rw [if_pos (by simp [b6]), if_pos (by simp [b6]; omega)]
      simp only [b2, List.append_assoc, List.nil_append]
  · rw [decide_eq_false h, if_neg Bool.false_ne_true, if_neg h]

theorem etherBytes_len {d s t k : Int} {l : List Int} (h : EtherOK d s t k l.length) : ((etherBytes d s t k l).length : Int) = (if t ≥ 0 then 18 else 14) + l.length := by
  unfold etherBytes
  rw [if_pos h]
  by_cases ht : t ≥ 0
  · rw [if_pos ht, if_pos ht]
    simp [b6, b2]
    omega
  · rw [if_neg ht, if_neg ht]
    simp [b6, b2]
    omega
theorem headLen (d s t k : Int) (l : List Int) (h : EtherOK d s t k l.length) : (impl_headOf.f d s t k l).bind (fun n => some (wrap64 (n + (l.length : Int)))) = some ((if t ≥ 0 then 18 else 14) + (l.length : Int)) := by
  unfold impl_headOf.f
  unfold EtherOK at h
  by_cases ht : t ≥ 0
  · rw [if_pos ht, if_pos ht, Option.bind_some, w64 (by omega) (by omega)]
  · rw [if_neg ht, if_neg ht, Option.bind_some, w64 (by omega) (by omega)]
theorem sizes_of {a1 a2 a3 a4 : Int} {Q : Prop} {z : List Int} {x y : Option (Int × Int × Int × Int × List Int × Bool)} (hw : Whole a1 a2 a3 a4 Q z x) (hi : WholeI a1 a2 a3 a4 Q z y) (hq : Q → EtherOK a1 a2 a3 a4 z.length) :
    ∃ s, ((x.bind fun b => some b.2.2.2.2.2).bind fun t => if t = true then ((x.bind fun b => if b.2.2.2.2.2 = true then ((spec_EtherBytes.f b.1 b.2.1 b.2.2.1 b.2.2.2.1 b.2.2.2.2.1).bind fun t => some t) else some ([] : List Int)).bind fun t => some (t.length : Int)) else some (-1)) = some s ∧
      (y.bind fun b => if b.2.2.2.2.2 = true then ((impl_headOf.f b.1 b.2.1 b.2.2.1 b.2.2.2.1 b.2.2.2.2.1).bind fun t => some (wrap64 (t + (b.2.2.2.2.1.length : Int)))) else some (-1)) = some s := by
  obtain ⟨b, t, e, ht, hb⟩ := hw
  obtain ⟨e1, e2, e3, e4, b2, t2, eI, ht2, hI⟩ := hi
  rw [e, eI]
  simp only [Option.bind_some]
  by_cases h : t = true
  · have hQ := ht.1 h
    have h2 := ht2.2 hQ
    obtain ⟨rfl, rfl, rfl, rfl, rfl⟩ := hI h2
    obtain rfl := hb h
    rw [if_pos h, if_pos h, if_pos h2, specEtherBytes, headLen _ _ _ _ _ (hq hQ)]
    refine ⟨_, rfl, ?_⟩
    rw [etherBytes_len (hq hQ)]
  · have h2 : ¬ t2 = true := fun h2 => h (ht.2 (ht2.1 h2))
    rw [if_neg h, if_neg h2]
    exact ⟨_, rfl, rfl⟩
theorem packetSizes (a0 a1 a2 a3 a4 : Int) (l5 : List Int) (a6 a7 a8 a9 a10 a11 a12 a13 a14 a15 a16 a17 a18 a19 a20 a21 a22 : Int) (l23 l24 : List Int) (a25 a26 a27 a28 a29 a30 a31 a32 a33 a34 a35 a36 a37 a38 : Int) (l39 : List S102) (l40 : List Int) (a41 a42 a43 a44 a45 a46 a47 a48 a49 a50 a51 : Int) (a52 : Bool) (l53 l54 l55 : List Int) (h5 : l5.length ≤ 1048576) (h24 : l23.length + l24.length ≤ 1048576) (h39 : l39.length ≤ 1048576) (h40 : l40.length ≤ 1048576) (h54 : l53.length + l54.length ≤ 1048576) (h55 : l55.length ≤ 1048576) (u23 : U8 l23) (u53 : U8 l53) (u54 : U8 l54) {k : Nat} (hk : 3000000 ≤ k) : ∃ s, spec_PacketSize.f k a0 a1 a2 a3 a4 l5 a6 a7 a8 a9 a10 a11 a12 a13 a14 a15 a16 a17 a18 a19 a20 a21 a22 l23 l24 a25 a26 a27 a28 a29 a30 a31 a32 a33 a34 a35 a36 a37 a38 l39 l40 a41 a42 a43 a44 a45 a46 a47 a48 a49 a50 a51 a52 l53 l54 l55 = some s ∧ impl_PacketSize.f k a0 a1 a2 a3 a4 l5 a6 a7 a8 a9 a10 a11 a12 a13 a14 a15 a16 a17 a18 a19 a20 a21 a22 l23 l24 a25 a26 a27 a28 a29 a30 a31 a32 a33 a34 a35 a36 a37 a38 l39 l40 a41 a42 a43 a44 a45 a46 a47 a48 a49 a50 a51 a52 l53 l54 l55 = some s := by
  unfold spec_PacketSize.f spec_PacketOk.f spec_PacketBytes.f impl_PacketSize.f
  by_cases h4_ : a0 = 4
  · exact sizes_of (specWhole4 a0 a1 a2 a3 a4 l5 a6 a7 a8 a9 a10 a11 a12 a13 a14 a15 a16 a17 a18 a19 a20 a21 a22 l23 l24 a25 a26 a27 a28 a29 a30 a31 a32 a33 a34 a35 a36 a37 a38 l39 l40 a41 a42 a43 a44 a45 a46 a47 a48 a49 a50 a51 a52 l53 l54 l55 h4_ h5 h24 h39 h40 h54 h55 u23 u53 u54 hk) (implFrame4 a0 a1 a2 a3 a4 l5 a6 a7 a8 a9 a10 a11 a12 a13 a14 a15 a16 a17 a18 a19 a20 a21 a22 l23 l24 a25 a26 a27 a28 a29 a30 a31 a32 a33 a34 a35 a36 a37 a38 l39 l40 a41 a42 a43 a44 a45 a46 a47 a48 a49 a50 a51 a52 l53 l54 l55 h4_ h5 h24 h39 h40 h54 h55 u23 u53 u54 hk) (fun h_ => by unfold PK4 at h_; exact h_.2.2.2.2.2.2.2.2)
  by_cases h6_ : a0 = 6
  · exact sizes_of (specWhole6 a0 a1 a2 a3 a4 l5 a6 a7 a8 a9 a10 a11 a12 a13 a14 a15 a16 a17 a18 a19 a20 a21 a22 l23 l24 a25 a26 a27 a28 a29 a30 a31 a32 a33 a34 a35 a36 a37 a38 l39 l40 a41 a42 a43 a44 a45 a46 a47 a48 a49 a50 a51 a52 l53 l54 l55 h6_ h5 h24 h39 h40 h54 h55 u23 u53 u54 hk) (implFrame6 a0 a1 a2 a3 a4 l5 a6 a7 a8 a9 a10 a11 a12 a13 a14 a15 a16 a17 a18 a19 a20 a21 a22 l23 l24 a25 a26 a27 a28 a29 a30 a31 a32 a33 a34 a35 a36 a37 a38 l39 l40 a41 a42 a43 a44 a45 a46 a47 a48 a49 a50 a51 a52 l53 l54 l55 h6_ h5 h24 h39 h40 h54 h55 u23 u53 u54 hk) (fun h_ => by unfold PK6 at h_; exact h_.2.2.2.2.2.2.2.2)
  unfold spec_l08Whole.f impl_Packet_frame.f
  rw [if_neg h4_, if_neg h6_, if_neg h4_, if_neg h6_]
  exact ⟨-1, rfl, rfl⟩

end ExactPacketSize
open ExactPacketSize

theorem FnExactPacketSize : laws_FnExactPacketSize.Pure := by
  intro a0 a1 a2 a3 a4 l5 a6 a7 a8 a9 a10 a11 a12 a13 a14 a15 a16 a17 a18 a19 a20 a21 a22 l23 l24 a25 a26 a27 a28 a29 a30 a31 a32 a33 a34 a35 a36 a37 a38 l39 l40 a41 a42 a43 a44 a45 a46 a47 a48 a49 a50 a51 a52 l53 l54 l55 _ _ _ _ _ m5 _ _ _ _ _ _ _ _ _ _ _ _ _ _ _ _ _ _ m23 v23 m24 _ _ _ _ _ _ _ _ _ _ _ _ _ _ _ m39 mx m40 _ _ _ _ _ _ _ _ _ _ _ _ m53 v53 m54 v54 m55 _
  refine ⟨3000000, ?_⟩
  have hk := Nat.le_refl 3000000
  have mx' := fun n hn => (mx n hn).2.1
  obtain ⟨r, hr, hc⟩ := szPacket a0 a1 a2 a3 a4 l5 a6 a7 a8 a9 a10 a11 a12 a13 a14 a15 a16 a17 a18 a19 a20 a21 a22 l23 l24 a25 a26 a27 a28 a29 a30 a31 a32 a33 a34 a35 a36 a37 a38 l39 l40 a41 a42 a43 a44 a45 a46 a47 a48 a49 a50 a51 a52 l53 l54 l55 m5 m23 m24 m39 mx' m40 m53 m54 m55 hk
  unfold laws_FnExactPacketSize.f
  rw [hr]
  simp only [Option.bind_some]
  by_cases h : r < 0
  · rw [if_pos h]
  obtain ⟨h5, h24, h39, h40, hx, h54, h55⟩ := hc h
  rw [if_neg h]
  have h39' : (l39.map ext).length ≤ 1048576 := by simpa using h39
  have e1 := toPacket a0 a1 a2 a3 a4 l5 a6 a7 a8 a9 a10 a11 a12 a13 a14 a15 a16 a17 a18 a19 a20 a21 a22 l23 l24 a25 a26 a27 a28 a29 a30 a31 a32 a33 a34 a35 a36 a37 a38 l39 l40 a41 a42 a43 a44 a45 a46 a47 a48 a49 a50 a51 a52 l53 l54 l55 h5 h24 h39 h40 h54 h55 hx hk
  have e2 := eqPacket a0 a1 a2 a3 a4 l5 a6 a7 a8 a9 a10 a11 a12 a13 a14 a15 a16 a17 a18 a19 a20 a21 a22 l23 l24 a25 a26 a27 a28 a29 a30 a31 a32 a33 a34 a35 a36 a37 a38 (l39.map ext) l40 a41 a42 a43 a44 a45 a46 a47 a48 a49 a50 a51 a52 l53 l54 l55 h5 h24 h39' h40 h54 h55 (ext_len hx) hk
  obtain ⟨t, e3, e4⟩ := packetSizes a0 a1 a2 a3 a4 l5 a6 a7 a8 a9 a10 a11 a12 a13 a14 a15 a16 a17 a18 a19 a20 a21 a22 l23 l24 a25 a26 a27 a28 a29 a30 a31 a32 a33 a34 a35 a36 a37 a38 (l39.map ext) l40 a41 a42 a43 a44 a45 a46 a47 a48 a49 a50 a51 a52 l53 l54 l55 h5 h24 h39' h40 h54 h55 (U8.of_wf v23) (U8.of_wf v53) (U8.of_wf v54) hk
  simp only [e1, e2, e3, e4, Option.bind_some, bne_self_eq_false, Bool.false_eq_true, if_false, if_true]

end Go.Proofs.YtffkgndghbdgnaaGreat.Pure
