/- The program's ExtsSize returns what the reference's returns, for all arguments. No condition. -/
import Derived.Test.YthkocmpilkoibaaSFnExactExtsSize
import Derived.Test.YthkocmpilkoibaaBase
namespace Go.Proofs.Ythkocmpilkoibaa.Pure
open Go.RowKit Go.Proofs.Ythkocmpilkoibaa.FFnExactExtsSize Go.Proofs.YthkocmpilkoibaaW.PrintWords Go.Proofs.YthkocmpilkoibaaW.PrintLast Go.Proofs.YthkocmpilkoibaaW.PrintMore Go.Proofs.Ythkocmpilkoibaa.Base

set_option linter.unusedVariables false
set_option linter.unusedSimpArgs false
namespace ExactExtsSize
theorem toAddr (k a b c d : Int) : laws_toAddr.f k a b c d = some (k, a, b, c, d) := rfl

theorem eqAddr (k a b c d : Int) : laws_eqAddr.f k a b c d k a b c d = some true := by
  unfold laws_eqAddr.f
  simp only [if_true]

theorem toByteS_l (xs : List Int) (hn : xs.length ≤ 140737488355328) (d : Nat) : ∀ (k : Nat) (ys : List Int) (i : Int), 0 ≤ i → i + d = xs.length → d < k → ys.length = xs.length → (∀ j : Nat, (j : Int) < i → ys[j]? = xs[j]?) → laws_toByteS.l0 k xs ys i = some xs := by
  induction d with
  | zero =>
    intro k ys i h0 hi hk hl hj
    obtain ⟨k, rfl⟩ := pos_k hk
    simp only [laws_toByteS.l0]
    rw [if_neg (by omega)]
    congr 1
    apply List.ext_getElem?
    intro j
    by_cases h : (j : Int) < i
    · exact hj j h
    · rw [List.getElem?_eq_none (by omega), List.getElem?_eq_none (by omega)]
  | succ d ih =>
    intro k ys i h0 hi hk hl hj
    obtain ⟨k, rfl⟩ := pos_k hk
    simp only [laws_toByteS.l0]
    rw [if_pos (by omega), if_pos (by omega), if_pos (by omega), w64 (by omega) (by omega)]
    refine ih k _ (i + 1) (by omega) (by omega) (by omega) (by rw [List.length_set]; omega) ?_
    intro j hj'
    by_cases h : (j : Int) = i
    · have e : i.toNat = j := by omega
      rw [e, List.getElem?_set_self (by omega), ← h, ← rd_get? (by omega) (by omega)]
      rfl
    · rw [List.getElem?_set_ne (by omega)]
      exact hj j (by omega)
theorem toByteS {xs : List Int} (hn : xs.length ≤ 140737488355328) {k : Nat} (hk : xs.length < k) : laws_toByteS.f k xs = some xs := by
  unfold laws_toByteS.f
  rw [if_pos (by omega), if_pos (by omega)]
  exact toByteS_l xs hn xs.length k _ 0 (by omega) (by omega) hk (by simp) (fun j hj => by omega)

theorem eqByteS_l (xs : List Int) (hn : xs.length ≤ 140737488355328) (d : Nat) : ∀ (k : Nat) (i : Int), 0 ≤ i → i + d = xs.length → d < k → laws_eqByteS.l0 k xs xs i = some true := by
  induction d with
  | zero =>
    intro k i h0 hi hk
    obtain ⟨k, rfl⟩ := pos_k hk
    simp only [laws_eqByteS.l0]
    rw [if_neg (by omega)]
  | succ d ih =>
    intro k i h0 hi hk
    obtain ⟨k, rfl⟩ := pos_k hk
    simp only [laws_eqByteS.l0]
    rw [if_pos (by omega), if_pos (by omega), if_pos (by omega), if_pos (by first | rfl | trivial), w64 (by omega) (by omega)]
    exact ih k (i + 1) (by omega) (by omega) (by omega)
theorem eqByteS {xs : List Int} (hn : xs.length ≤ 140737488355328) {k : Nat} (hk : xs.length < k) : laws_eqByteS.f k xs xs = some true := by
  unfold laws_eqByteS.f
  rw [if_pos rfl]
  exact eqByteS_l xs hn xs.length k 0 (by omega) (by omega) hk

theorem szByteS (l : List Int) (a : Int) (h0 : 0 ≤ a) (h1 : a ≤ 1048576) (hl : l.length ≤ maxLen) : laws_szByteS.f l a = some (if a - l.length < 0 then -1 else a - l.length) := by
  unfold maxLen at hl
  unfold laws_szByteS.f
  rw [w64 (by omega) (by omega)]
  by_cases h : a - l.length < 0
  · rw [if_pos h, if_pos h]
  · rw [if_neg h, if_neg h]

theorem rdl_get? {xs : List S120} {i : Int} (h0 : 0 ≤ i) (h : i < xs.length) : xs[i.toNat]? = some (rd_T120 xs i) := by
  unfold rd_T120
  rw [List.getD_eq_getElem?_getD, List.getElem?_eq_getElem (by omega)]
  rfl
theorem rdl_mem {xs : List S120} {i : Int} (h0 : 0 ≤ i) (h : i < xs.length) : rd_T120 xs i ∈ xs := List.mem_of_getElem? (rdl_get? h0 h)
theorem rdi_get? {xs : List S105} {i : Int} (h0 : 0 ≤ i) (h : i < xs.length) : xs[i.toNat]? = some (rd_T105 xs i) := by
  unfold rd_T105
  rw [List.getD_eq_getElem?_getD, List.getElem?_eq_getElem (by omega)]
  rfl
theorem rdi_mem {xs : List S105} {i : Int} (h0 : 0 ≤ i) (h : i < xs.length) : rd_T105 xs i ∈ xs := List.mem_of_getElem? (rdi_get? h0 h)
theorem rdi_at (A R : List S105) (x : S105) {i : Int} (hi : i = A.length) : rd_T105 (A ++ x :: R) i = x := by
  unfold rd_T105
  rw [List.getD_eq_getElem?_getD, List.getElem?_append_right (by omega), show i.toNat - A.length = 0 by omega]
  rfl
def ext (x : S120) : S105 := ⟨x.f0, x.f1⟩
theorem szExtS_l (xs : List S120) (hx : ∀ n ∈ xs, n.f1.length ≤ maxLen) (hn : xs.length ≤ 1048576) (d : Nat) : ∀ (k : Nat) (left i : Int), 0 ≤ i → i + d = xs.length → d < k → 0 ≤ left → left ≤ 1048576 →
    ∃ r, laws_szExtS.l0 k xs left i = some r ∧ (¬ r < 0 → r ≤ 1048576 ∧ ∀ j : Int, i ≤ j → j < xs.length → ((rd_T120 xs j).f1.length : Int) ≤ 1048576) := by
  induction d with
  | zero =>
    intro k left i h0 hi hk hl hl2
    obtain ⟨k, rfl⟩ := pos_k hk
    simp only [laws_szExtS.l0]
    rw [if_neg (by omega)]
    exact ⟨left, rfl, fun _ => ⟨hl2, fun j h1 h2 => by omega⟩⟩
  | succ d ih =>
    intro k left i h0 hi hk hl hl2
    obtain ⟨k, rfl⟩ := pos_k hk
    have hm := hx _ (rdl_mem h0 (show i < xs.length by omega))
    simp only [laws_szExtS.l0]
    rw [if_pos (by omega), if_pos h0]
    unfold laws_szExt.f
    rw [szByteS _ _ hl hl2 hm]
    simp only [Option.bind_some]
    by_cases h : left - ((rd_T120 xs i).f1.length : Int) < 0
    · rw [if_pos h, if_pos (by decide)]
      simp only [Option.bind_some]
      rw [if_pos (by decide)]
      exact ⟨-1, rfl, fun hh => absurd (by decide) hh⟩
    · rw [if_neg h, if_neg h]
      simp only [Option.bind_some]
      rw [if_neg h, w64 (n := i + 1) (by omega) (by omega)]
      obtain ⟨r, hr, hc⟩ := ih k (left - ((rd_T120 xs i).f1.length : Int)) (i + 1) (by omega) (by omega) (by omega) (by omega) (by omega)
      refine ⟨r, hr, fun hh => ⟨(hc hh).1, fun j h1 h2 => ?_⟩⟩
      by_cases e : j = i
      · subst e
        omega
      · exact (hc hh).2 j (by omega) h2
theorem szSix (a0 a1 a2 a3 a4 a5 a6 a7 a8 a9 a10 a11 a12 a13 : Int) (l : List S120) (m : List Int) (hl : l.length ≤ maxLen) (hx : ∀ n ∈ l, n.f1.length ≤ maxLen) (hm : m.length ≤ maxLen) {k : Nat} (hk : 3000000 ≤ k) :
    ∃ r, laws_szSix.f k a0 a1 a2 a3 a4 a5 a6 a7 a8 a9 a10 a11 a12 a13 l m 1048576 = some r ∧ (¬ r < 0 → l.length ≤ 1048576 ∧ m.length ≤ 1048576 ∧ ∀ n ∈ l, n.f1.length ≤ 1048576) := by
  have hl' := hl
  unfold maxLen at hl'
  unfold laws_szSix.f laws_szExtS.f
  rw [w64 (n := 1048576 - (l.length : Int)) (by omega) (by omega)]
  by_cases h : (1048576 : Int) - l.length < 0
  · rw [if_pos h]
    simp only [Option.bind_some]
    rw [if_pos (by decide)]
    exact ⟨-1, rfl, fun hh => absurd (by decide) hh⟩
  · rw [if_neg h]
    obtain ⟨r, hr, hc⟩ := szExtS_l l hx (by omega) l.length k (1048576 - l.length) 0 (by omega) (by omega) (by omega) (by omega) (by omega)
    rw [hr]
    simp only [Option.bind_some]
    by_cases h1 : r < 0
    · rw [if_pos h1]
      exact ⟨-1, rfl, fun hh => absurd (by decide) hh⟩
    · rw [if_neg h1, szByteS m r (by omega) (hc h1).1 hm]
      simp only [Option.bind_some]
      by_cases h2 : r - m.length < 0
      · rw [if_pos h2, if_pos (by decide)]
        exact ⟨-1, rfl, fun hh => absurd (by decide) hh⟩
      · rw [if_neg h2, if_neg h2]
        have h3 := (hc h1).1
        refine ⟨_, rfl, fun _ => ⟨by omega, by omega, fun n hn => ?_⟩⟩
        obtain ⟨j, hj, e⟩ := List.getElem_of_mem hn
        have h4 := (hc h1).2 (j : Int) (by omega) (by omega)
        have h5 := rdl_get? (xs := l) (i := (j : Int)) (by omega) (by omega)
        rw [Int.toNat_natCast, List.getElem?_eq_getElem hj, e] at h5
        rw [← Option.some.inj h5] at h4
        omega
theorem toExtS_l (xs : List S120) (hn : xs.length ≤ 1048576) (hx : ∀ n ∈ xs, n.f1.length ≤ 1048576) (d : Nat) : ∀ (k : Nat) (ys : List S105) (i : Int), 0 ≤ i → i + d = xs.length → d + 1048577 < k → ys.length = xs.length → (∀ j : Nat, (j : Int) < i → ys[j]? = (xs.map ext)[j]?) → laws_toExtS.l0 k xs ys i = some (xs.map ext) := by
  induction d with
  | zero =>
    intro k ys i h0 hi hk hl hj
    obtain ⟨k, rfl⟩ := pos_k hk
    simp only [laws_toExtS.l0]
    rw [if_neg (by omega)]
    congr 1
    apply List.ext_getElem?
    intro j
    by_cases h : (j : Int) < i
    · exact hj j h
    · rw [List.getElem?_eq_none (by omega), List.getElem?_eq_none (by simp; omega)]
  | succ d ih =>
    intro k ys i h0 hi hk hl hj
    obtain ⟨k, rfl⟩ := pos_k hk
    have hm := hx _ (rdl_mem h0 (show i < xs.length by omega))
    simp only [laws_toExtS.l0]
    rw [if_pos (by omega), if_pos h0]
    unfold laws_toExt.f
    rw [toByteS (by omega) (by omega)]
    simp only [Option.bind_some]
    rw [if_pos (by omega), w64 (by omega) (by omega)]
    refine ih k _ (i + 1) (by omega) (by omega) (by omega) (by rw [List.length_set]; omega) ?_
    intro j hj'
    by_cases h : (j : Int) = i
    · have e : i.toNat = j := by omega
      rw [e, List.getElem?_set_self (by omega), List.getElem?_map, ← e, rdl_get? h0 (by omega)]
      rfl
    · rw [List.getElem?_set_ne (by omega)]
      exact hj j (by omega)
theorem toSix (a0 a1 a2 a3 a4 a5 a6 a7 a8 a9 a10 a11 a12 a13 : Int) (l : List S120) (m : List Int) (hl : l.length ≤ 1048576) (hx : ∀ n ∈ l, n.f1.length ≤ 1048576) (hm : m.length ≤ 1048576) {k : Nat} (hk : 3000000 ≤ k) :
    laws_toSix.f k a0 a1 a2 a3 a4 a5 a6 a7 a8 a9 a10 a11 a12 a13 l m = some (a0, a1, a2, a3, a4, a5, a6, a7, a8, a9, a10, a11, a12, a13, l.map ext, m) := by
  unfold laws_toSix.f
  rw [toAddr, toAddr]
  simp only [Option.bind_some]
  unfold laws_toExtS.f
  rw [if_pos (by omega), if_pos (by omega), toExtS_l l hl hx l.length k _ 0 (by omega) (by omega) (by omega) (by simp) (fun j hj => by omega)]
  simp only [Option.bind_some]
  rw [toByteS (by omega) (by omega)]
  rfl
theorem eqExtS_l (xs : List S105) (hn : xs.length ≤ 1048576) (hx : ∀ n ∈ xs, n.f1.length ≤ 1048576) (d : Nat) : ∀ (k : Nat) (i : Int), 0 ≤ i → i + d = xs.length → d + 1048577 < k → laws_eqExtS.l0 k xs xs i = some true := by
  induction d with
  | zero =>
    intro k i h0 hi hk
    obtain ⟨k, rfl⟩ := pos_k hk
    simp only [laws_eqExtS.l0]
    rw [if_neg (by omega)]
  | succ d ih =>
    intro k i h0 hi hk
    obtain ⟨k, rfl⟩ := pos_k hk
    have hm := hx _ (rdi_mem h0 (show i < xs.length by omega))
    simp only [laws_eqExtS.l0]
    rw [if_pos (by omega), if_pos (by omega), if_pos (by omega)]
    unfold laws_eqExt.f
    rw [if_pos rfl, eqByteS (by omega) (by omega)]
    simp only [Option.bind_some, if_true]
    rw [w64 (by omega) (by omega)]
    exact ih k (i + 1) (by omega) (by omega) (by omega)
theorem eqSix (a0 a1 a2 a3 a4 a5 a6 a7 a8 a9 a10 a11 a12 a13 : Int) (l : List S105) (m : List Int) (hl : l.length ≤ 1048576) (hx : ∀ n ∈ l, n.f1.length ≤ 1048576) (hm : m.length ≤ 1048576) {k : Nat} (hk : 3000000 ≤ k) :
    laws_eqSix.f k a0 a1 a2 a3 a4 a5 a6 a7 a8 a9 a10 a11 a12 a13 l m a0 a1 a2 a3 a4 a5 a6 a7 a8 a9 a10 a11 a12 a13 l m = some true := by
  have h1 : laws_eqExtS.f k l l = some true := by
    unfold laws_eqExtS.f
    rw [if_pos rfl]
    exact eqExtS_l l hl hx l.length k 0 (by omega) (by omega) (by omega)
  unfold laws_eqSix.f
  simp only [if_true, eqAddr, h1, eqByteS (xs := m) (by omega) (k := k) (by omega), Option.bind_some]
theorem ext_len {l : List S120} (hx : ∀ n ∈ l, n.f1.length ≤ 1048576) : ∀ n ∈ l.map ext, n.f1.length ≤ 1048576 := by
  intro n hn
  obtain ⟨q, hq, rfl⟩ := List.mem_map.1 hn
  exact hx q hq

theorem specHalf (n : Int) : spec_l03Half.f n = some (decide (Half n)) := by
  unfold spec_l03Half.f Half
  by_cases h : n ≥ 0
  · rw [if_pos h]
    simp [h]
  · rw [if_neg h]
    simp [h]
theorem specAddrOk (k a b c d : Int) : spec_AddrOk.f k a b c d = some (decide (AddrOK k a b c d)) := by
  unfold spec_AddrOk.f
  simp only [specHalf, Option.bind_some]
  unfold AddrOK
  by_cases h4 : k = 4
  · subst h4
    by_cases ha : a = 0 <;> by_cases hb : b = 0 <;> by_cases hc : c = 0 <;> simp [ha, hb, hc]
  · by_cases h6 : k = 6
    · subst h6
      by_cases ha : Half a <;> by_cases hb : Half b <;> by_cases hc : Half c <;> simp [ha, hb, hc]
    · simp [h4, h6]

theorem isLong (n : Int) : impl_isLong.f n = some (decide (Half n)) := by
  unfold impl_isLong.f impl_within.f Half
  by_cases h : n ≥ 0
  · rw [if_pos h]
    simp [h]
  · rw [if_neg h]
    simp [h]
theorem implAddrOk (k a b c d : Int) : impl_AddrOk.f k a b c d = some (decide (AddrOK k a b c d)) := by
  unfold impl_AddrOk.f
  simp only [isLong, Option.bind_some]
  unfold AddrOK
  by_cases h4 : k = 4
  · subst h4
    by_cases ha : a = 0 <;> by_cases hb : b = 0 <;> by_cases hc : c = 0 <;> simp [ha, hb, hc]
  · by_cases h6 : k = 6
    · subst h6
      by_cases ha : Half a <;> by_cases hb : Half b <;> by_cases hc : Half c <;> simp [ha, hb, hc]
    · simp [h4, h6]

theorem isByte (n : Int) : impl_isByte.f n = some (decide (0 ≤ n ∧ n ≤ 255)) := by
  unfold impl_isByte.f impl_within.f
  by_cases h : n ≥ 0
  · rw [if_pos h]
    simp [h]
  · rw [if_neg h]
    simp [h]

theorem specIn (n m : Int) : spec_l05In.f n m = some (decide (0 ≤ n ∧ n ≤ m)) := by
  unfold spec_l05In.f
  by_cases h : n ≥ 0
  · rw [if_pos h]
    simp [h]
  · rw [if_neg h]
    simp [h]

theorem within (n lo hi : Int) : impl_within.f n lo hi = some (decide (lo ≤ n ∧ n ≤ hi)) := by
  unfold impl_within.f
  by_cases h : n ≥ lo
  · rw [if_pos h]
    simp [h]
  · rw [if_neg h]
    simp [h]

theorem isAddrOf (k a b c d n : Int) : impl_isAddrOf.f k a b c d n = some (decide (AddrOK k a b c d ∧ k = n)) := by
  unfold impl_isAddrOf.f
  rw [implAddrOk]
  simp only [Option.bind_some]
  by_cases h : AddrOK k a b c d
  · rw [decide_eq_true h, if_pos rfl]
    refine some_decide ?_
    simp [h]
  · rw [decide_eq_false h, if_neg Bool.false_ne_true]
    refine some_decide ?_
    simp [h]

def kindB (n : Int) : Bool := n == 0 || (n == 43 || n == 60)
theorem specInner (n : Int) : spec_l06Inner.f n = some (kindB n) := by
  unfold spec_l06Inner.f kindB
  by_cases h : n = 0
  · rw [if_pos h, h]; rfl
  · rw [if_neg h]
    by_cases h1 : n = 43
    · rw [if_pos h1, h1]; rfl
    · rw [if_neg h1, beq_eq_false_iff_ne.mpr h, beq_eq_false_iff_ne.mpr h1, Bool.false_or, Bool.false_or]
theorem implKind (n : Int) : impl_isExtKind.f n = some (kindB n) := by
  unfold impl_isExtKind.f kindB
  by_cases h : n = 0
  · rw [if_pos h, h]; rfl
  · rw [if_neg h]
    by_cases h1 : n = 43
    · rw [if_pos h1, h1]; rfl
    · rw [if_neg h1, beq_eq_false_iff_ne.mpr h, beq_eq_false_iff_ne.mpr h1, Bool.false_or, Bool.false_or]
def extB (i : Int) (x : S105) : Bool := kindB x.f0 && (decide (i > 0 → x.f0 ≠ 0) && (decide ((x.f1.length : Int) % 8 = 6) && decide ((x.f1.length : Int) ≤ 62)))
def extsB : Int → List S105 → Bool
  | _, [] => true
  | i, x :: r => extB i x && extsB (i + 1) r
def extsN : List S105 → Int
  | [] => 0
  | x :: r => 2 + (x.f1.length : Int) + extsN r
theorem extsN_le {r : List S105} {i : Int} (h : extsB i r = true) : 0 ≤ extsN r ∧ extsN r ≤ 64 * r.length := by
  induction r generalizing i with
  | nil => simp [extsN]
  | cons x r ih =>
    simp only [extsB, extB, Bool.and_eq_true, decide_eq_true_eq] at h
    have := ih h.2
    have h2 := h.1.2.2.2
    simp only [extsN, List.length_cons]
    omega
theorem spec_six_l0 (a0 a1 a2 a3 a4 a5 a6 a7 a8 a9 a10 a11 a12 a13 : Int) (m : List Int) (hm : m.length ≤ 1048576) (R : List S105) : ∀ (A : List S105) (k : Nat) (room i : Int), A.length + R.length ≤ 3 → i = A.length → room ≤ 1460 → 1460 - 64 * i ≤ room → R.length < k →
    spec_SixOk.l0 k room i a0 a1 a2 a3 a4 a5 a6 a7 a8 a9 a10 a11 a12 a13 (A ++ R) m = some (extsB i R && decide (extsN R + (m.length : Int) ≤ room)) := by
  induction R with
  | nil =>
    intro A k room i hA hi h1 h2 hk
    obtain ⟨k, rfl⟩ := pos_k hk
    simp only [spec_SixOk.l0]
    rw [List.append_nil, if_neg (by omega)]
    simp only [extsB, extsN, Bool.true_and, Int.zero_add]
  | cons x R ih =>
    intro A k room i hA hi h1 h2 hk
    obtain ⟨k, rfl⟩ := pos_k hk
    rw [List.length_cons] at hA hk
    have hlt : i < ((A ++ x :: R).length : Int) := by rw [List.length_append, List.length_cons]; omega
    have h0 : 0 ≤ i := by omega
    simp only [spec_SixOk.l0, rdi_at A R x hi, specInner, Option.bind_some]
    rw [if_pos hlt, if_pos h0]
    by_cases hl : (x.f1.length : Int) > 62
    · have he : extB i x = false := by
        unfold extB
        rw [decide_eq_false (show ¬ (x.f1.length : Int) ≤ 62 by omega)]
        simp
      rw [extsB, he, Bool.false_and, Bool.false_and]
      simp only [hl, if_true]
      repeat' (with_reducible refine ite_goal (fun c_ => ?_) (fun c_ => ?_))
      all_goals rfl
    · have ih' := ih (A ++ [x]) k (room - x.f1.length - 2) (i + 1) (by simp; omega) (by simp; omega) (by omega) (by omega) (by omega)
      rw [List.append_assoc, List.singleton_append] at ih'
      rw [w64 (n := room - (x.f1.length : Int)) (by omega) (by omega), w64 (n := room - (x.f1.length : Int) - 2) (by omega) (by omega), w64 (n := i + 1) (by omega) (by omega), ih']
      clear ih ih'
      simp only [hl, if_false]
      rw [extsB, extsN]
      generalize extsB (i + 1) R = b
      generalize extsN R = s
      have e : decide (2 + (x.f1.length : Int) + s + (m.length : Int) ≤ room) = decide (s + (m.length : Int) ≤ room - x.f1.length - 2) := decide_eq_decide.mpr (by omega)
      rw [e]
      generalize decide (s + (m.length : Int) ≤ room - x.f1.length - 2) = q
      unfold extB
      rw [decide_eq_true (show (x.f1.length : Int) ≤ 62 by omega), Bool.and_true]
      repeat' (with_reducible refine ite_goal (fun c_ => ?_) (fun c_ => ?_))
      all_goals simp_all
theorem areExts_l0 (xs : List S105) (hxs : xs.length ≤ 1048576) (R : List S105) : ∀ (A : List S105) (k : Nat) (i : Int), A ++ R = xs → i = A.length → R.length < k →
    impl_areExts.l0 k xs xs (xs.length : Int) i = some (extsB i R && decide ((xs.length : Int) ≤ 3)) := by
  induction R with
  | nil =>
    intro A k i hA hi hk
    obtain ⟨k, rfl⟩ := pos_k hk
    rw [List.append_nil] at hA
    subst hA
    simp only [impl_areExts.l0]
    rw [if_neg (by omega)]
    simp only [extsB, Bool.true_and]
  | cons x R ih =>
    intro A k i hA hi hk
    obtain ⟨k, rfl⟩ := pos_k hk
    rw [List.length_cons] at hk
    have hL : (xs.length : Int) = A.length + (R.length + 1) := by rw [← hA, List.length_append, List.length_cons]; omega
    have ih' := ih (A ++ [x]) k (i + 1) (by rw [List.append_assoc, List.singleton_append, hA]) (by simp; omega) (by omega)
    have hr : rd_T105 xs i = x := by rw [← hA, rdi_at A R x hi]
    simp only [impl_areExts.l0, hr, implKind, Option.bind_some]
    rw [if_pos (by omega), if_pos (by omega), if_pos (by omega), w64 (n := i + 1) (by omega) (by omega), ih']
    clear ih ih' hr
    rw [extsB]
    generalize extsB (i + 1) R = b
    generalize decide ((xs.length : Int) ≤ 3) = q
    unfold extB
    by_cases hl : (x.f1.length : Int) > 62
    · rw [decide_eq_false (show ¬ (x.f1.length : Int) ≤ 62 by omega)]
      simp only [hl, if_true]
      repeat' (with_reducible refine ite_goal (fun c_ => ?_) (fun c_ => ?_))
      all_goals simp_all
    · rw [decide_eq_true (show (x.f1.length : Int) ≤ 62 by omega)]
      simp only [hl, if_false]
      repeat' (with_reducible refine ite_goal (fun c_ => ?_) (fun c_ => ?_))
      all_goals simp_all
theorem areExts (xs : List S105) (hxs : xs.length ≤ 1048576) {k : Nat} (hk : 3000000 ≤ k) : impl_areExts.f k xs = some (extsB 0 xs && decide ((xs.length : Int) ≤ 3)) := by
  unfold impl_areExts.f
  exact areExts_l0 xs hxs xs [] k 0 rfl rfl (by omega)
theorem extsSize_l0 (xs : List S105) (hxs : xs.length ≤ 3) (R : List S105) : ∀ (A : List S105) (k : Nat) (s i : Int), A ++ R = xs → i = A.length → extsB i R = true → 0 ≤ s → s ≤ 64 * i → R.length < k →
    impl_extsSize.l0 k s xs (xs.length : Int) i = some (s + extsN R) := by
  induction R with
  | nil =>
    intro A k s i hA hi hb h1 h2 hk
    obtain ⟨k, rfl⟩ := pos_k hk
    rw [List.append_nil] at hA
    subst hA
    simp only [impl_extsSize.l0]
    rw [if_neg (by omega)]
    simp only [extsN, Int.add_zero]
  | cons x R ih =>
    intro A k s i hA hi hb h1 h2 hk
    obtain ⟨k, rfl⟩ := pos_k hk
    rw [List.length_cons] at hk
    have hL : (xs.length : Int) = A.length + (R.length + 1) := by rw [← hA, List.length_append, List.length_cons]; omega
    simp only [extsB, extB, Bool.and_eq_true, decide_eq_true_eq] at hb
    have hlen := hb.1.2.2.2
    have ih' := ih (A ++ [x]) k (s + (2 + x.f1.length)) (i + 1) (by rw [List.append_assoc, List.singleton_append, hA]) (by simp; omega) hb.2 (by omega) (by omega) (by omega)
    have hr : rd_T105 xs i = x := by rw [← hA, rdi_at A R x hi]
    simp only [impl_extsSize.l0, hr]
    rw [if_pos (by omega), if_pos (by omega), if_pos (by omega), w64 (n := i + 1) (by omega) (by omega), w64 (n := 2 + (x.f1.length : Int)) (by omega) (by omega), w64 (n := s + (2 + (x.f1.length : Int))) (by omega) (by omega), ih', extsN]
    congr 1
    omega
theorem extsSizeI (xs : List S105) (hxs : xs.length ≤ 3) (hb : extsB 0 xs = true) {k : Nat} (hk : 3000000 ≤ k) : impl_extsSize.f k xs = some (extsN xs) := by
  unfold impl_extsSize.f
  rw [extsSize_l0 xs hxs xs [] k 0 0 rfl rfl hb (by omega) (by omega) (by omega), Int.zero_add]
def SixOK (a0 a1 a2 a3 a4 a5 a6 a7 a8 a9 a10 a11 a12 a13 : Int) (xs : List S105) (ml : Int) : Prop :=
  (0 ≤ a0 ∧ a0 ≤ 255) ∧ (0 ≤ a1 ∧ a1 ≤ 1048575) ∧ (0 ≤ a2 ∧ a2 ≤ 255) ∧ (0 ≤ a3 ∧ a3 ≤ 255) ∧ ¬ kindB a3 = true ∧ (AddrOK a4 a5 a6 a7 a8 ∧ a4 = 6) ∧ (AddrOK a9 a10 a11 a12 a13 ∧ a9 = 6) ∧ (xs.length : Int) ≤ 3 ∧ extsB 0 xs = true ∧ 40 + extsN xs + ml ≤ 1500
instance (a0 a1 a2 a3 a4 a5 a6 a7 a8 a9 a10 a11 a12 a13 : Int) (xs : List S105) (ml : Int) : Decidable (SixOK a0 a1 a2 a3 a4 a5 a6 a7 a8 a9 a10 a11 a12 a13 xs ml) := by unfold SixOK; infer_instance
theorem specSixOk (a0 a1 a2 a3 a4 a5 a6 a7 a8 a9 a10 a11 a12 a13 : Int) (xs : List S105) (m : List Int) (hm : m.length ≤ 1048576) {k : Nat} (hk : 3000000 ≤ k) :
    spec_SixOk.f k a0 a1 a2 a3 a4 a5 a6 a7 a8 a9 a10 a11 a12 a13 xs m = some (decide (SixOK a0 a1 a2 a3 a4 a5 a6 a7 a8 a9 a10 a11 a12 a13 xs m.length)) := by
  unfold spec_SixOk.f
  simp only [specIn, Option.bind_some, specAddrOk, specInner, decide_eq_true_eq]
  repeat' (with_reducible refine ite_goal (fun c_ => ?_) (fun c_ => ?_))
  all_goals first
    | (have h3 : xs.length ≤ 3 := by omega
       have key := spec_six_l0 a0 a1 a2 a3 a4 a5 a6 a7 a8 a9 a10 a11 a12 a13 m hm xs [] k 1460 0 (by simpa using h3) rfl (by omega) (by omega) (by omega)
       rw [List.nil_append] at key
       rw [key]
       refine congrArg some ?_
       rw [Bool.eq_iff_iff, Bool.and_eq_true, decide_eq_true_eq, decide_eq_true_eq]
       unfold SixOK
       grind)
    | (refine some_decide ?_
       unfold SixOK
       simp only [Bool.false_eq_true, false_iff]
       grind)
theorem implSixOk (a0 a1 a2 a3 a4 a5 a6 a7 a8 a9 a10 a11 a12 a13 : Int) (xs : List S105) (m : List Int) (hl : xs.length ≤ 1048576) (hm : m.length ≤ 1048576) {k : Nat} (hk : 3000000 ≤ k) :
    impl_SixOk.f k a0 a1 a2 a3 a4 a5 a6 a7 a8 a9 a10 a11 a12 a13 xs m = some (decide (SixOK a0 a1 a2 a3 a4 a5 a6 a7 a8 a9 a10 a11 a12 a13 xs m.length)) := by
  unfold impl_SixOk.f
  simp only [within, isByte, isAddrOf, implKind, areExts xs hl hk, Option.bind_some, decide_eq_true_eq]
  repeat' (with_reducible refine ite_goal (fun c_ => ?_) (fun c_ => ?_))
  all_goals first
    | (have h4 : extsB 0 xs = true ∧ (xs.length : Int) ≤ 3 := by simpa only [Bool.and_eq_true, decide_eq_true_eq] using c_
       have h5 := extsN_le h4.1
       rw [extsSizeI xs (by omega) h4.1 hk, Option.bind_some, w64 (n := 40 + extsN xs) (by omega) (by omega), w64 (n := 40 + extsN xs + (m.length : Int)) (by omega) (by omega)]
       refine congrArg some (decide_eq_decide.mpr ?_)
       unfold SixOK
       grind)
    | (refine some_decide ?_
       unfold SixOK
       simp only [Bool.false_eq_true, false_iff]
       grind)

theorem specExts_l0 (a0 a1 a2 a3 a4 a5 a6 a7 a8 a9 a10 a11 a12 a13 : Int) (m : List Int) (xs : List S105) (hxs : xs.length ≤ 3) (R : List S105) : ∀ (A : List S105) (k : Nat) (s i : Int), A ++ R = xs → i = A.length → extsB i R = true → 0 ≤ s → s ≤ 64 * i → R.length < k →
    spec_ExtsSize.l0 k s i a0 a1 a2 a3 a4 a5 a6 a7 a8 a9 a10 a11 a12 a13 xs m = some (s + extsN R) := by
  induction R with
  | nil =>
    intro A k s i hA hi hb h1 h2 hk
    obtain ⟨k, rfl⟩ := pos_k hk
    rw [List.append_nil] at hA
    subst hA
    simp only [spec_ExtsSize.l0]
    rw [if_neg (by omega)]
    simp only [extsN, Int.add_zero]
  | cons x R ih =>
    intro A k s i hA hi hb h1 h2 hk
    obtain ⟨k, rfl⟩ := pos_k hk
    rw [List.length_cons] at hk
    have hL : (xs.length : Int) = A.length + (R.length + 1) := by rw [← hA, List.length_append, List.length_cons]; omega
    simp only [extsB, extB, Bool.and_eq_true, decide_eq_true_eq] at hb
    have hlen := hb.1.2.2.2
    have ih' := ih (A ++ [x]) k (s + 2 + x.f1.length) (i + 1) (by rw [List.append_assoc, List.singleton_append, hA]) (by simp; omega) hb.2 (by omega) (by omega) (by omega)
    have hr : rd_T105 xs i = x := by rw [← hA, rdi_at A R x hi]
    simp only [spec_ExtsSize.l0, hr]
    rw [if_pos (by omega), if_pos (by omega), w64 (n := i + 1) (by omega) (by omega), w64 (n := s + 2) (by omega) (by omega), w64 (n := s + 2 + (x.f1.length : Int)) (by omega) (by omega), ih', extsN]
    congr 1
    omega
theorem specExtsSize (a0 a1 a2 a3 a4 a5 a6 a7 a8 a9 a10 a11 a12 a13 : Int) (xs : List S105) (m : List Int) (hm : m.length ≤ 1048576) {k : Nat} (hk : 3000000 ≤ k) :
    spec_ExtsSize.f k a0 a1 a2 a3 a4 a5 a6 a7 a8 a9 a10 a11 a12 a13 xs m = some (if SixOK a0 a1 a2 a3 a4 a5 a6 a7 a8 a9 a10 a11 a12 a13 xs m.length then extsN xs else -1) := by
  unfold spec_ExtsSize.f
  rw [specSixOk a0 a1 a2 a3 a4 a5 a6 a7 a8 a9 a10 a11 a12 a13 xs m hm hk, Option.bind_some]
  by_cases h : SixOK a0 a1 a2 a3 a4 a5 a6 a7 a8 a9 a10 a11 a12 a13 xs m.length
  · rw [decide_eq_true h, if_pos rfl, if_pos h]
    obtain ⟨_, _, _, _, _, _, _, h3, hb, _⟩ := h
    rw [specExts_l0 a0 a1 a2 a3 a4 a5 a6 a7 a8 a9 a10 a11 a12 a13 m xs (by omega) xs [] k 0 0 rfl rfl hb (by omega) (by omega) (by omega), Int.zero_add]
  · rw [decide_eq_false h, if_neg Bool.false_ne_true, if_neg h]
theorem implExtsSize (a0 a1 a2 a3 a4 a5 a6 a7 a8 a9 a10 a11 a12 a13 : Int) (xs : List S105) (m : List Int) (hl : xs.length ≤ 1048576) (hm : m.length ≤ 1048576) {k : Nat} (hk : 3000000 ≤ k) :
    impl_ExtsSize.f k a0 a1 a2 a3 a4 a5 a6 a7 a8 a9 a10 a11 a12 a13 xs m = some (if SixOK a0 a1 a2 a3 a4 a5 a6 a7 a8 a9 a10 a11 a12 a13 xs m.length then extsN xs else -1) := by
  unfold impl_ExtsSize.f
  rw [implSixOk a0 a1 a2 a3 a4 a5 a6 a7 a8 a9 a10 a11 a12 a13 xs m hl hm hk, Option.bind_some]
  by_cases h : SixOK a0 a1 a2 a3 a4 a5 a6 a7 a8 a9 a10 a11 a12 a13 xs m.length
  · rw [decide_eq_true h, if_pos rfl, if_pos h]
    obtain ⟨_, _, _, _, _, _, _, h3, hb, _⟩ := h
    rw [extsSizeI xs (by omega) hb hk, Option.bind_some]
  · rw [decide_eq_false h, if_neg Bool.false_ne_true, if_neg h]

end ExactExtsSize
open ExactExtsSize

theorem FnExactExtsSize : laws_FnExactExtsSize.Pure := by
  intro a0 a1 a2 a3 a4 a5 a6 a7 a8 a9 a10 a11 a12 a13 l m _ _ _ _ _ _ _ _ _ _ _ _ _ _ hl hx hm _
  refine ⟨3000000, ?_⟩
  have hk := Nat.le_refl 3000000
  obtain ⟨r, hr, hc⟩ := szSix a0 a1 a2 a3 a4 a5 a6 a7 a8 a9 a10 a11 a12 a13 l m hl (fun n hn => (hx n hn).2.1) hm hk
  unfold laws_FnExactExtsSize.f
  rw [hr]
  simp only [Option.bind_some]
  by_cases h : r < 0
  · rw [if_pos h]
  · obtain ⟨h1, h2, h3⟩ := hc h
    rw [if_neg h]
    have e1 := toSix a0 a1 a2 a3 a4 a5 a6 a7 a8 a9 a10 a11 a12 a13 l m h1 h3 h2 hk
    have e2 := eqSix a0 a1 a2 a3 a4 a5 a6 a7 a8 a9 a10 a11 a12 a13 (l.map ext) m (by simpa using h1) (ext_len h3) h2 hk
    have e3 := specExtsSize a0 a1 a2 a3 a4 a5 a6 a7 a8 a9 a10 a11 a12 a13 (l.map ext) m h2 hk
    have e4 := implExtsSize a0 a1 a2 a3 a4 a5 a6 a7 a8 a9 a10 a11 a12 a13 (l.map ext) m (by simpa using h1) h2 hk
    simp only [e1, e2, e3, e4, Option.bind_some, bne_self_eq_false, Bool.false_eq_true, if_false, if_true]

end Go.Proofs.Ythkocmpilkoibaa.Pure
