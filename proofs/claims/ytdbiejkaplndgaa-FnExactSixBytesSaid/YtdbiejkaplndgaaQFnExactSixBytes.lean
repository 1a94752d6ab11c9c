/- The program's SixBytes returns what the reference's returns, for all arguments. No condition. -/
import Derived.Test.YtdbiejkaplndgaaTFnExactSixBytes
import Derived.Test.YtdbiejkaplndgaaZBaseFnExactSixBytes
namespace Go.Proofs.Ytdbiejkaplndgaa.Pure
open Go.RowKit Go.Proofs.Ytdbiejkaplndgaa.FFnExactSixBytes Go.Proofs.YtdbiejkaplndgaaW.PrintWords Go.Proofs.YtdbiejkaplndgaaW.PrintLast Go.Proofs.YtdbiejkaplndgaaW.PrintMore Go.Proofs.Ytdbiejkaplndgaa.Base

set_option linter.unusedVariables false
set_option linter.unusedSimpArgs false
namespace ExactSixBytes
theorem toAddr (k a b c d : Int) : laws_toAddr.f k a b c d = some (k, a, b, c, d) := rfl

theorem eqAddr (k a b c d : Int) : laws_eqAddr.f k a b c d k a b c d = some true := by
  unfold laws_eqAddr.f
  simp only [if_true]

theorem toByteS_l (xs : List Int) (hn : xs.length ≤ 140737488355328) (d : Nat) : ∀ (k : Nat) (ys : List Int) (i : Int), 0 ≤ i → i + d = xs.length → d < k → ys.length = xs.length → (∀ j : Nat, (j : Int) < i → ys[j]? = xs[j]?) → laws_toByteS.l0 k xs ys i = some xs := by
  induction d with
  | zero =>
    intro k ys i h0 hi hk hl hj
    obtain ⟨k, rfl⟩ := pos_k hk
    simp only [laws_toByteS.l0]
    rw [if_neg (by omega)]
    congr 1
    apply List.ext_getElem?
    intro j
    by_cases h : (j : Int) < i
    · exact hj j h
    · rw [List.getElem?_eq_none (by omega), List.getElem?_eq_none (by omega)]
  | succ d ih =>
    intro k ys i h0 hi hk hl hj
    obtain ⟨k, rfl⟩ := pos_k hk
    simp only [laws_toByteS.l0]
    rw [if_pos (by omega), if_pos (by omega), if_pos (by omega), w64 (by omega) (by omega)]
    refine ih k _ (i + 1) (by omega) (by omega) (by omega) (by rw [List.length_set]; omega) ?_
    intro j hj'
    by_cases h : (j : Int) = i
    · have e : i.toNat = j := by omega
      rw [e, List.getElem?_set_self (by omega), ← h, ← rd_get? (by omega) (by omega)]
      rfl
    · rw [List.getElem?_set_ne (by omega)]
      exact hj j (by omega)
theorem toByteS {xs : List Int} (hn : xs.length ≤ 140737488355328) {k : Nat} (hk : xs.length < k) : laws_toByteS.f k xs = some xs := by
  unfold laws_toByteS.f
  rw [if_pos (by omega), if_pos (by omega)]
  exact toByteS_l xs hn xs.length k _ 0 (by omega) (by omega) hk (by simp) (fun j hj => by omega)

theorem eqByteS_l (xs : List Int) (hn : xs.length ≤ 140737488355328) (d : Nat) : ∀ (k : Nat) (i : Int), 0 ≤ i → i + d = xs.length → d < k → laws_eqByteS.l0 k xs xs i = some true := by
  induction d with
  | zero =>
    intro k i h0 hi hk
    obtain ⟨k, rfl⟩ := pos_k hk
    simp only [laws_eqByteS.l0]
    rw [if_neg (by omega)]
  | succ d ih =>
    intro k i h0 hi hk
    obtain ⟨k, rfl⟩ := pos_k hk
    simp only [laws_eqByteS.l0]
    rw [if_pos (by omega), if_pos (by omega), if_pos (by omega), if_pos (by first | rfl | trivial), w64 (by omega) (by omega)]
    exact ih k (i + 1) (by omega) (by omega) (by omega)
theorem eqByteS {xs : List Int} (hn : xs.length ≤ 140737488355328) {k : Nat} (hk : xs.length < k) : laws_eqByteS.f k xs xs = some true := by
  unfold laws_eqByteS.f
  rw [if_pos rfl]
  exact eqByteS_l xs hn xs.length k 0 (by omega) (by omega) hk

theorem szByteS (l : List Int) (a : Int) (h0 : 0 ≤ a) (h1 : a ≤ 1048576) (hl : l.length ≤ maxLen) : laws_szByteS.f l a = some (if a - l.length < 0 then -1 else a - l.length) := by
  unfold maxLen at hl
  unfold laws_szByteS.f
  rw [w64 (by omega) (by omega)]
  by_cases h : a - l.length < 0
  · rw [if_pos h, if_pos h]
  · rw [if_neg h, if_neg h]

theorem rdl_get? {xs : List S97} {i : Int} (h0 : 0 ≤ i) (h : i < xs.length) : xs[i.toNat]? = some (rd_T97 xs i) := by
  unfold rd_T97
  rw [List.getD_eq_getElem?_getD, List.getElem?_eq_getElem (by omega)]
  rfl
theorem rdl_mem {xs : List S97} {i : Int} (h0 : 0 ≤ i) (h : i < xs.length) : rd_T97 xs i ∈ xs := List.mem_of_getElem? (rdl_get? h0 h)
theorem rdi_get? {xs : List S69} {i : Int} (h0 : 0 ≤ i) (h : i < xs.length) : xs[i.toNat]? = some (rd_T69 xs i) := by
  unfold rd_T69
  rw [List.getD_eq_getElem?_getD, List.getElem?_eq_getElem (by omega)]
  rfl
theorem rdi_mem {xs : List S69} {i : Int} (h0 : 0 ≤ i) (h : i < xs.length) : rd_T69 xs i ∈ xs := List.mem_of_getElem? (rdi_get? h0 h)
theorem rdi_at (A R : List S69) (x : S69) {i : Int} (hi : i = A.length) : rd_T69 (A ++ x :: R) i = x := by
  unfold rd_T69
  rw [List.getD_eq_getElem?_getD, List.getElem?_append_right (by omega), show i.toNat - A.length = 0 by omega]
  rfl
def ext (x : S97) : S69 := ⟨x.f0, x.f1⟩
theorem szExtS_l (xs : List S97) (hx : ∀ n ∈ xs, n.f1.length ≤ maxLen) (hn : xs.length ≤ 1048576) (d : Nat) : ∀ (k : Nat) (left i : Int), 0 ≤ i → i + d = xs.length → d < k → 0 ≤ left → left ≤ 1048576 →
    ∃ r, laws_szExtS.l0 k xs left i = some r ∧ (¬ r < 0 → r ≤ 1048576 ∧ ∀ j : Int, i ≤ j → j < xs.length → ((rd_T97 xs j).f1.length : Int) ≤ 1048576) := by
  induction d with
  | zero =>
    intro k left i h0 hi hk hl hl2
    obtain ⟨k, rfl⟩ := pos_k hk
    simp only [laws_szExtS.l0]
    rw [if_neg (by omega)]
    exact ⟨left, rfl, fun _ => ⟨hl2, fun j h1 h2 => by omega⟩⟩
  | succ d ih =>
    intro k left i h0 hi hk hl hl2
    obtain ⟨k, rfl⟩ := pos_k hk
    have hm := hx _ (rdl_mem h0 (show i < xs.length by omega))
    simp only [laws_szExtS.l0]
    rw [if_pos (by omega), if_pos h0]
    unfold laws_szExt.f
    rw [szByteS _ _ hl hl2 hm]
    simp only [Option.bind_some]
    by_cases h : left - ((rd_T97 xs i).f1.length : Int) < 0
    · rw [if_pos h, if_pos (by decide)]
      simp only [Option.bind_some]
      rw [if_pos (by decide)]
      exact ⟨-1, rfl, fun hh => absurd (by decide) hh⟩
    · rw [if_neg h, if_neg h]
      simp only [Option.bind_some]
      rw [if_neg h, w64 (n := i + 1) (by omega) (by omega)]
      obtain ⟨r, hr, hc⟩ := ih k (left - ((rd_T97 xs i).f1.length : Int)) (i + 1) (by omega) (by omega) (by omega) (by omega) (by omega)
      refine ⟨r, hr, fun hh => ⟨(hc hh).1, fun j h1 h2 => ?_⟩⟩
      by_cases e : j = i
      · subst e
        omega
      · exact (hc hh).2 j (by omega) h2
theorem szSix (a0 a1 a2 a3 a4 a5 a6 a7 a8 a9 a10 a11 a12 a13 : Int) (l : List S97) (m : List Int) (hl : l.length ≤ maxLen) (hx : ∀ n ∈ l, n.f1.length ≤ maxLen) (hm : m.length ≤ maxLen) {k : Nat} (hk : 3000000 ≤ k) :
    ∃ r, laws_szSix.f k a0 a1 a2 a3 a4 a5 a6 a7 a8 a9 a10 a11 a12 a13 l m 1048576 = some r ∧ (¬ r < 0 → l.length ≤ 1048576 ∧ m.length ≤ 1048576 ∧ ∀ n ∈ l, n.f1.length ≤ 1048576) := by
  have hl' := hl
  unfold maxLen at hl'
  unfold laws_szSix.f laws_szExtS.f
  rw [w64 (n := 1048576 - (l.length : Int)) (by omega) (by omega)]
  by_cases h : (1048576 : Int) - l.length < 0
  · rw [if_pos h]
    simp only [Option.bind_some]
    rw [if_pos (by decide)]
    exact ⟨-1, rfl, fun hh => absurd (by decide) hh⟩
  · rw [if_neg h]
    obtain ⟨r, hr, hc⟩ := szExtS_l l hx (by omega) l.length k (1048576 - l.length) 0 (by omega) (by omega) (by omega) (by omega) (by omega)
    rw [hr]
    simp only [Option.bind_some]
    by_cases h1 : r < 0
    · rw [if_pos h1]
      exact ⟨-1, rfl, fun hh => absurd (by decide) hh⟩
    · rw [if_neg h1, szByteS m r (by omega) (hc h1).1 hm]
      simp only [Option.bind_some]
      by_cases h2 : r - m.length < 0
      · rw [if_pos h2, if_pos (by decide)]
        exact ⟨-1, rfl, fun hh => absurd (by decide) hh⟩
      · rw [if_neg h2, if_neg h2]
        have h3 := (hc h1).1
        refine ⟨_, rfl, fun _ => ⟨by omega, by omega, fun n hn => ?_⟩⟩
        obtain ⟨j, hj, e⟩ := List.getElem_of_mem hn
        have h4 := (hc h1).2 (j : Int) (by omega) (by omega)
        have h5 := rdl_get? (xs := l) (i := (j : Int)) (by omega) (by omega)
        rw [Int.toNat_natCast, List.getElem?_eq_getElem hj, e] at h5
        rw [← Option.some.inj h5] at h4
        omega
theorem toExtS_l (xs : List S97) (hn : xs.length ≤ 1048576) (hx : ∀ n ∈ xs, n.f1.length ≤ 1048576) (d : Nat) : ∀ (k : Nat) (ys : List S69) (i : Int), 0 ≤ i → i + d = xs.length → d + 1048577 < k → ys.length = xs.length → (∀ j : Nat, (j : Int) < i → ys[j]? = (xs.map ext)[j]?) → laws_toExtS.l0 k xs ys i = some (xs.map ext) := by
  induction d with
  | zero =>
    intro k ys i h0 hi hk hl hj
    obtain ⟨k, rfl⟩ := pos_k hk
    simp only [laws_toExtS.l0]
    rw [if_neg (by omega)]
    congr 1
    apply List.ext_getElem?
    intro j
    by_cases h : (j : Int) < i
    · exact hj j h
    · rw [List.getElem?_eq_none (by omega), List.getElem?_eq_none (by simp; omega)]
  | succ d ih =>
    intro k ys i h0 hi hk hl hj
    obtain ⟨k, rfl⟩ := pos_k hk
    have hm := hx _ (rdl_mem h0 (show i < xs.length by omega))
    simp only [laws_toExtS.l0]
    rw [if_pos (by omega), if_pos h0]
    unfold laws_toExt.f
    rw [toByteS (by omega) (by omega)]
    simp only [Option.bind_some]
    rw [if_pos (by omega), w64 (by omega) (by omega)]
    refine ih k _ (i + 1) (by omega) (by omega) (by omega) (by rw [List.length_set]; omega) ?_
    intro j hj'
    by_cases h : (j : Int) = i
    · have e : i.toNat = j := by omega
      rw [e, List.getElem?_set_self (by omega), List.getElem?_map, ← e, rdl_get? h0 (by omega)]
      rfl
    · rw [List.getElem?_set_ne (by omega)]
      exact hj j (by omega)
theorem toSix (a0 a1 a2 a3 a4 a5 a6 a7 a8 a9 a10 a11 a12 a13 : Int) (l : List S97) (m : List Int) (hl : l.length ≤ 1048576) (hx : ∀ n ∈ l, n.f1.length ≤ 1048576) (hm : m.length ≤ 1048576) {k : Nat} (hk : 3000000 ≤ k) :
    laws_toSix.f k a0 a1 a2 a3 a4 a5 a6 a7 a8 a9 a10 a11 a12 a13 l m = some (a0, a1, a2, a3, a4, a5, a6, a7, a8, a9, a10, a11, a12, a13, l.map ext, m) := by
  unfold laws_toSix.f
  rw [toAddr, toAddr]
  simp only [Option.bind_some]
  unfold laws_toExtS.f
  rw [if_pos (by omega), if_pos (by omega), toExtS_l l hl hx l.length k _ 0 (by omega) (by omega) (by omega) (by simp) (fun j hj => by omega)]
  simp only [Option.bind_some]
  rw [toByteS (by omega) (by omega)]
  rfl
theorem eqExtS_l (xs : List S69) (hn : xs.length ≤ 1048576) (hx : ∀ n ∈ xs, n.f1.length ≤ 1048576) (d : Nat) : ∀ (k : Nat) (i : Int), 0 ≤ i → i + d = xs.length → d + 1048577 < k → laws_eqExtS.l0 k xs xs i = some true := by
  induction d with
  | zero =>
    intro k i h0 hi hk
    obtain ⟨k, rfl⟩ := pos_k hk
    simp only [laws_eqExtS.l0]
    rw [if_neg (by omega)]
  | succ d ih =>
    intro k i h0 hi hk
    obtain ⟨k, rfl⟩ := pos_k hk
    have hm := hx _ (rdi_mem h0 (show i < xs.length by omega))
    simp only [laws_eqExtS.l0]
    rw [if_pos (by omega), if_pos (by omega), if_pos (by omega)]
    unfold laws_eqExt.f
    rw [if_pos rfl, eqByteS (by omega) (by omega)]
    simp only [Option.bind_some, if_true]
    rw [w64 (by omega) (by omega)]
    exact ih k (i + 1) (by omega) (by omega) (by omega)
theorem eqSix (a0 a1 a2 a3 a4 a5 a6 a7 a8 a9 a10 a11 a12 a13 : Int) (l : List S69) (m : List Int) (hl : l.length ≤ 1048576) (hx : ∀ n ∈ l, n.f1.length ≤ 1048576) (hm : m.length ≤ 1048576) {k : Nat} (hk : 3000000 ≤ k) :
    laws_eqSix.f k a0 a1 a2 a3 a4 a5 a6 a7 a8 a9 a10 a11 a12 a13 l m a0 a1 a2 a3 a4 a5 a6 a7 a8 a9 a10 a11 a12 a13 l m = some true := by
  have h1 : laws_eqExtS.f k l l = some true := by
    unfold laws_eqExtS.f
    rw [if_pos rfl]
    exact eqExtS_l l hl hx l.length k 0 (by omega) (by omega) (by omega)
  unfold laws_eqSix.f
  simp only [if_true, eqAddr, h1, eqByteS (xs := m) (by omega) (k := k) (by omega), Option.bind_some]
theorem ext_len {l : List S97} (hx : ∀ n ∈ l, n.f1.length ≤ 1048576) : ∀ n ∈ l.map ext, n.f1.length ≤ 1048576 := by
  intro n hn
  obtain ⟨q, hq, rfl⟩ := List.mem_map.1 hn
  exact hx q hq

theorem specHalf (n : Int) : spec_l03Half.f n = some (decide (Half n)) := by
  unfold spec_l03Half.f Half
  by_cases h : n ≥ 0
  · rw [if_pos h]
    simp [h]
  · rw [if_neg h]
    simp [h]
theorem specAddrOk (k a b c d : Int) : spec_AddrOk.f k a b c d = some (decide (AddrOK k a b c d)) := by
  unfold spec_AddrOk.f
  simp only [specHalf, Option.bind_some]
  unfold AddrOK
  by_cases h4 : k = 4
  · subst h4
    by_cases ha : a = 0 <;> by_cases hb : b = 0 <;> by_cases hc : c = 0 <;> simp [ha, hb, hc]
  · by_cases h6 : k = 6
    · subst h6
      by_cases ha : Half a <;> by_cases hb : Half b <;> by_cases hc : Half c <;> simp [ha, hb, hc]
    · simp [h4, h6]

theorem isLong (n : Int) : impl_isLong.f n = some (decide (Half n)) := by
  unfold impl_isLong.f impl_within.f Half
  by_cases h : n ≥ 0
  · rw [if_pos h]
    simp [h]
  · rw [if_neg h]
    simp [h]
theorem implAddrOk (k a b c d : Int) : impl_AddrOk.f k a b c d = some (decide (AddrOK k a b c d)) := by
  unfold impl_AddrOk.f
  simp only [isLong, Option.bind_some]
  unfold AddrOK
  by_cases h4 : k = 4
  · subst h4
    by_cases ha : a = 0 <;> by_cases hb : b = 0 <;> by_cases hc : c = 0 <;> simp [ha, hb, hc]
  · by_cases h6 : k = 6
    · subst h6
      by_cases ha : Half a <;> by_cases hb : Half b <;> by_cases hc : Half c <;> simp [ha, hb, hc]
    · simp [h4, h6]

theorem isByte (n : Int) : impl_isByte.f n = some (decide (0 ≤ n ∧ n ≤ 255)) := by
  unfold impl_isByte.f impl_within.f
  by_cases h : n ≥ 0
  · rw [if_pos h]
    simp [h]
  · rw [if_neg h]
    simp [h]

theorem specIn (n m : Int) : spec_l05In.f n m = some (decide (0 ≤ n ∧ n ≤ m)) := by
  unfold spec_l05In.f
  by_cases h : n ≥ 0
  · rw [if_pos h]
    simp [h]
  · rw [if_neg h]
    simp [h]

theorem within (n lo hi : Int) : impl_within.f n lo hi = some (decide (lo ≤ n ∧ n ≤ hi)) := by
  unfold impl_within.f
  by_cases h : n ≥ lo
  · rw [if_pos h]
    simp [h]
  · rw [if_neg h]
    simp [h]

theorem isAddrOf (k a b c d n : Int) : impl_isAddrOf.f k a b c d n = some (decide (AddrOK k a b c d ∧ k = n)) := by
  unfold impl_isAddrOf.f
  rw [implAddrOk]
  simp only [Option.bind_some]
  by_cases h : AddrOK k a b c d
  · rw [decide_eq_true h, if_pos rfl]
    refine some_decide ?_
    simp [h]
  · rw [decide_eq_false h, if_neg Bool.false_ne_true]
    refine some_decide ?_
    simp [h]

def kindB (n : Int) : Bool := n == 0 || (n == 43 || n == 60)
theorem specInner (n : Int) : spec_l06Inner.f n = some (kindB n) := by
  unfold spec_l06Inner.f kindB
  by_cases h : n = 0
  · rw [if_pos h, h]; rfl
  · rw [if_neg h]
    by_cases h1 : n = 43
    · rw [if_pos h1, h1]; rfl
    · rw [if_neg h1, beq_eq_false_iff_ne.mpr h, beq_eq_false_iff_ne.mpr h1, Bool.false_or, Bool.false_or]
theorem implKind (n : Int) : impl_isExtKind.f n = some (kindB n) := by
  unfold impl_isExtKind.f kindB
  by_cases h : n = 0
  · rw [if_pos h, h]; rfl
  · rw [if_neg h]
    by_cases h1 : n = 43
    · rw [if_pos h1, h1]; rfl
    · rw [if_neg h1, beq_eq_false_iff_ne.mpr h, beq_eq_false_iff_ne.mpr h1, Bool.false_or, Bool.false_or]
def extB (i : Int) (x : S69) : Bool := kindB x.f0 && (decide (i > 0 → x.f0 ≠ 0) && (decide ((x.f1.length : Int) % 8 = 6) && decide ((x.f1.length : Int) ≤ 62)))
def extsB : Int → List S69 → Bool
  | _, [] => true
  | i, x :: r => extB i x && extsB (i + 1) r
def extsN : List S69 → Int
  | [] => 0
  | x :: r => 2 + (x.f1.length : Int) + extsN r
theorem extsN_le {r : List S69} {i : Int} (h : extsB i r = true) : 0 ≤ extsN r ∧ extsN r ≤ 64 * r.length := by
  induction r generalizing i with
  | nil => simp [extsN]
  | cons x r ih =>
    simp only [extsB, extB, Bool.and_eq_true, decide_eq_true_eq] at h
    have := ih h.2
    have h2 := h.1.2.2.2
    simp only [extsN, List.length_cons]
    omega
theorem spec_six_l0 (a0 a1 a2 a3 a4 a5 a6 a7 a8 a9 a10 a11 a12 a13 : Int) (m : List Int) (hm : m.length ≤ 1048576) (R : List S69) : ∀ (A : List S69) (k : Nat) (room i : Int), A.length + R.length ≤ 3 → i = A.length → room ≤ 1460 → 1460 - 64 * i ≤ room → R.length < k →
    spec_SixOk.l0 k room i a0 a1 a2 a3 a4 a5 a6 a7 a8 a9 a10 a11 a12 a13 (A ++ R) m = some (extsB i R && decide (extsN R + (m.length : Int) ≤ room)) := by
  induction R with
  | nil =>
    intro A k room i hA hi h1 h2 hk
    obtain ⟨k, rfl⟩ := pos_k hk
    simp only [spec_SixOk.l0]
    rw [List.append_nil, if_neg (by omega)]
    simp only [extsB, extsN, Bool.true_and, Int.zero_add]
  | cons x R ih =>
    intro A k room i hA hi h1 h2 hk
    obtain ⟨k, rfl⟩ := pos_k hk
    rw [List.length_cons] at hA hk
    have hlt : i < ((A ++ x :: R).length : Int) := by rw [List.length_append, List.length_cons]; omega
    have h0 : 0 ≤ i := by omega
    simp only [spec_SixOk.l0, rdi_at A R x hi, specInner, Option.bind_some]
    rw [if_pos hlt, if_pos h0]
    by_cases hl : (x.f1.length : Int) > 62
    · have he : extB i x = false := by
        unfold extB
        rw [decide_eq_false (show ¬ (x.f1.length : Int) ≤ 62 by omega)]
        simp
      rw [extsB, he, Bool.false_and, Bool.false_and]
      simp only [hl, if_true]
      repeat' (with_reducible refine ite_goal (fun c_ => ?_) (fun c_ => ?_))
      all_goals rfl
    · have ih' := ih (A ++ [x]) k (room - x.f1.length - 2) (i + 1) (by simp; omega) (by simp; omega) (by omega) (by omega) (by omega)
      rw [List.append_assoc, List.singleton_append] at ih'
      rw [w64 (n := room - (x.f1.length : Int)) (by omega) (by omega), w64 (n := room - (x.f1.length : Int) - 2) (by omega) (by omega), w64 (n := i + 1) (by omega) (by omega), ih']
      clear ih ih'
      simp only [hl, if_false]
      rw [extsB, extsN]
      generalize extsB (i + 1) R = b
      generalize extsN R = s
      have e : decide (2 + (x.f1.length : Int) + s + (m.length : Int) ≤ room) = decide (s + (m.length : Int) ≤ room - x.f1.length - 2) := decide_eq_decide.mpr (by omega)
      rw [e]
      generalize decide (s + (m.length : Int) ≤ room - x.f1.length - 2) = q
      unfold extB
      rw [decide_eq_true (show (x.f1.length : Int) ≤ 62 by omega), Bool.and_true]
      repeat' (with_reducible refine ite_goal (fun c_ => ?_) (fun c_ => ?_))
      all_goals simp_all
theorem areExts_l0 (xs : List S69) (hxs : xs.length ≤ 1048576) (R : List S69) : ∀ (A : List S69) (k : Nat) (i : Int), A ++ R = xs → i = A.length → R.length < k →
    impl_areExts.l0 k xs xs (xs.length : Int) i = some (extsB i R && decide ((xs.length : Int) ≤ 3)) := by
  induction R with
  | nil =>
    intro A k i hA hi hk
    obtain ⟨k, rfl⟩ := pos_k hk
    rw [List.append_nil] at hA
    subst hA
    simp only [impl_areExts.l0]
    rw [if_neg (by omega)]
    simp only [extsB, Bool.true_and]
  | cons x R ih =>
    intro A k i hA hi hk
    obtain ⟨k, rfl⟩ := pos_k hk
    rw [List.length_cons] at hk
    have hL : (xs.length : Int) = A.length + (R.length + 1) := by rw [← hA, List.length_append, List.length_cons]; omega
    have ih' := ih (A ++ [x]) k (i + 1) (by rw [List.append_assoc, List.singleton_append, hA]) (by simp; omega) (by omega)
    have hr : rd_T69 xs i = x := by rw [← hA, rdi_at A R x hi]
    simp only [impl_areExts.l0, hr, implKind, Option.bind_some]
    rw [if_pos (by omega), if_pos (by omega), if_pos (by omega), w64 (n := i + 1) (by omega) (by omega), ih']
    clear ih ih' hr
    rw [extsB]
    generalize extsB (i + 1) R = b
    generalize decide ((xs.length : Int) ≤ 3) = q
    unfold extB
    by_cases hl : (x.f1.length : Int) > 62
    · rw [decide_eq_false (show ¬ (x.f1.length : Int) ≤ 62 by omega)]
      simp only [hl, if_true]
      repeat' (with_reducible refine ite_goal (fun c_ => ?_) (fun c_ => ?_))
      all_goals simp_all
    · rw [decide_eq_true (show (x.f1.length : Int) ≤ 62 by omega)]
      simp only [hl, if_false]
      repeat' (with_reducible refine ite_goal (fun c_ => ?_) (fun c_ => ?_))
      all_goals simp_all
theorem areExts (xs : List S69) (hxs : xs.length ≤ 1048576) {k : Nat} (hk : 3000000 ≤ k) : impl_areExts.f k xs = some (extsB 0 xs && decide ((xs.length : Int) ≤ 3)) := by
  unfold impl_areExts.f
  exact areExts_l0 xs hxs xs [] k 0 rfl rfl (by omega)
theorem extsSize_l0 (xs : List S69) (hxs : xs.length ≤ 3) (R : List S69) : ∀ (A : List S69) (k : Nat) (s i : Int), A ++ R = xs → i = A.length → extsB i R = true → 0 ≤ s → s ≤ 64 * i → R.length < k →
    impl_extsSize.l0 k s xs (xs.length : Int) i = some (s + extsN R) := by
  induction R with
  | nil =>
    intro A k s i hA hi hb h1 h2 hk
    obtain ⟨k, rfl⟩ := pos_k hk
    rw [List.append_nil] at hA
    subst hA
    simp only [impl_extsSize.l0]
    rw [if_neg (by omega)]
    simp only [extsN, Int.add_zero]
  | cons x R ih =>
    intro A k s i hA hi hb h1 h2 hk
    obtain ⟨k, rfl⟩ := pos_k hk
    rw [List.length_cons] at hk
    have hL : (xs.length : Int) = A.length + (R.length + 1) := by rw [← hA, List.length_append, List.length_cons]; omega
    simp only [extsB, extB, Bool.and_eq_true, decide_eq_true_eq] at hb
    have hlen := hb.1.2.2.2
    have ih' := ih (A ++ [x]) k (s + (2 + x.f1.length)) (i + 1) (by rw [List.append_assoc, List.singleton_append, hA]) (by simp; omega) hb.2 (by omega) (by omega) (by omega)
    have hr : rd_T69 xs i = x := by rw [← hA, rdi_at A R x hi]
    simp only [impl_extsSize.l0, hr]
    rw [if_pos (by omega), if_pos (by omega), if_pos (by omega), w64 (n := i + 1) (by omega) (by omega), w64 (n := 2 + (x.f1.length : Int)) (by omega) (by omega), w64 (n := s + (2 + (x.f1.length : Int))) (by omega) (by omega), ih', extsN]
    congr 1
    omega
theorem extsSizeI (xs : List S69) (hxs : xs.length ≤ 3) (hb : extsB 0 xs = true) {k : Nat} (hk : 3000000 ≤ k) : impl_extsSize.f k xs = some (extsN xs) := by
  unfold impl_extsSize.f
  rw [extsSize_l0 xs hxs xs [] k 0 0 rfl rfl hb (by omega) (by omega) (by omega), Int.zero_add]
def SixOK (a0 a1 a2 a3 a4 a5 a6 a7 a8 a9 a10 a11 a12 a13 : Int) (xs : List S69) (ml : Int) : Prop :=
  (0 ≤ a0 ∧ a0 ≤ 255) ∧ (0 ≤ a1 ∧ a1 ≤ 1048575) ∧ (0 ≤ a2 ∧ a2 ≤ 255) ∧ (0 ≤ a3 ∧ a3 ≤ 255) ∧ ¬ kindB a3 = true ∧ (AddrOK a4 a5 a6 a7 a8 ∧ a4 = 6) ∧ (AddrOK a9 a10 a11 a12 a13 ∧ a9 = 6) ∧ (xs.length : Int) ≤ 3 ∧ extsB 0 xs = true ∧ 40 + extsN xs + ml ≤ 1500
instance (a0 a1 a2 a3 a4 a5 a6 a7 a8 a9 a10 a11 a12 a13 : Int) (xs : List S69) (ml : Int) : Decidable (SixOK a0 a1 a2 a3 a4 a5 a6 a7 a8 a9 a10 a11 a12 a13 xs ml) := by unfold SixOK; infer_instance
theorem specSixOk (a0 a1 a2 a3 a4 a5 a6 a7 a8 a9 a10 a11 a12 a13 : Int) (xs : List S69) (m : List Int) (hm : m.length ≤ 1048576) {k : Nat} (hk : 3000000 ≤ k) :
    spec_SixOk.f k a0 a1 a2 a3 a4 a5 a6 a7 a8 a9 a10 a11 a12 a13 xs m = some (decide (SixOK a0 a1 a2 a3 a4 a5 a6 a7 a8 a9 a10 a11 a12 a13 xs m.length)) := by
  unfold spec_SixOk.f
  simp only [specIn, Option.bind_some, specAddrOk, specInner, decide_eq_true_eq]
  repeat' (with_reducible refine ite_goal (fun c_ => ?_) (fun c_ => ?_))
  all_goals first
    | (have h3 : xs.length ≤ 3 := by omega
       have key := spec_six_l0 a0 a1 a2 a3 a4 a5 a6 a7 a8 a9 a10 a11 a12 a13 m hm xs [] k 1460 0 (by simpa using h3) rfl (by omega) (by omega) (by omega)
       rw [List.nil_append] at key
       rw [key]
       refine congrArg some ?_
       rw [Bool.eq_iff_iff, Bool.and_eq_true, decide_eq_true_eq, decide_eq_true_eq]
       unfold SixOK
       grind)
    | (refine some_decide ?_
       unfold SixOK
       simp only [Bool.false_eq_true, false_iff]
       grind)
theorem implSixOk (a0 a1 a2 a3 a4 a5 a6 a7 a8 a9 a10 a11 a12 a13 : Int) (xs : List S69) (m : List Int) (hl : xs.length ≤ 1048576) (hm : m.length ≤ 1048576) {k : Nat} (hk : 3000000 ≤ k) :
    impl_SixOk.f k a0 a1 a2 a3 a4 a5 a6 a7 a8 a9 a10 a11 a12 a13 xs m = some (decide (SixOK a0 a1 a2 a3 a4 a5 a6 a7 a8 a9 a10 a11 a12 a13 xs m.length)) := by
  unfold impl_SixOk.f
  simp only [within, isByte, isAddrOf, implKind, areExts xs hl hk, Option.bind_some, decide_eq_true_eq]
  repeat' (with_reducible refine ite_goal (fun c_ => ?_) (fun c_ => ?_))
  all_goals first
    | (have h4 : extsB 0 xs = true ∧ (xs.length : Int) ≤ 3 := by simpa only [Bool.and_eq_true, decide_eq_true_eq] using c_
       have h5 := extsN_le h4.1
       rw [extsSizeI xs (by omega) h4.1 hk, Option.bind_some, w64 (n := 40 + extsN xs) (by omega) (by omega), w64 (n := 40 + extsN xs + (m.length : Int)) (by omega) (by omega)]
       refine congrArg some (decide_eq_decide.mpr ?_)
       unfold SixOK
       grind)
    | (refine some_decide ?_
       unfold SixOK
       simp only [Bool.false_eq_true, false_iff]
       grind)

theorem specExts_l0 (a0 a1 a2 a3 a4 a5 a6 a7 a8 a9 a10 a11 a12 a13 : Int) (m : List Int) (xs : List S69) (hxs : xs.length ≤ 3) (R : List S69) : ∀ (A : List S69) (k : Nat) (s i : Int), A ++ R = xs → i = A.length → extsB i R = true → 0 ≤ s → s ≤ 64 * i → R.length < k →
    spec_ExtsSize.l0 k s i a0 a1 a2 a3 a4 a5 a6 a7 a8 a9 a10 a11 a12 a13 xs m = some (s + extsN R) := by
  induction R with
  | nil =>
    intro A k s i hA hi hb h1 h2 hk
    obtain ⟨k, rfl⟩ := pos_k hk
    rw [List.append_nil] at hA
    subst hA
    simp only [spec_ExtsSize.l0]
    rw [if_neg (by omega)]
    simp only [extsN, Int.add_zero]
  | cons x R ih =>
    intro A k s i hA hi hb h1 h2 hk
    obtain ⟨k, rfl⟩ := pos_k hk
    rw [List.length_cons] at hk
    have hL : (xs.length : Int) = A.length + (R.length + 1) := by rw [← hA, List.length_append, List.length_cons]; omega
    simp only [extsB, extB, Bool.and_eq_true, decide_eq_true_eq] at hb
    have hlen := hb.1.2.2.2
    have ih' := ih (A ++ [x]) k (s + 2 + x.f1.length) (i + 1) (by rw [List.append_assoc, List.singleton_append, hA]) (by simp; omega) hb.2 (by omega) (by omega) (by omega)
    have hr : rd_T69 xs i = x := by rw [← hA, rdi_at A R x hi]
    simp only [spec_ExtsSize.l0, hr]
    rw [if_pos (by omega), if_pos (by omega), w64 (n := i + 1) (by omega) (by omega), w64 (n := s + 2) (by omega) (by omega), w64 (n := s + 2 + (x.f1.length : Int)) (by omega) (by omega), ih', extsN]
    congr 1
    omega
theorem specExtsSize (a0 a1 a2 a3 a4 a5 a6 a7 a8 a9 a10 a11 a12 a13 : Int) (xs : List S69) (m : List Int) (hm : m.length ≤ 1048576) {k : Nat} (hk : 3000000 ≤ k) :
    spec_ExtsSize.f k a0 a1 a2 a3 a4 a5 a6 a7 a8 a9 a10 a11 a12 a13 xs m = some (if SixOK a0 a1 a2 a3 a4 a5 a6 a7 a8 a9 a10 a11 a12 a13 xs m.length then extsN xs else -1) := by
  unfold spec_ExtsSize.f
  rw [specSixOk a0 a1 a2 a3 a4 a5 a6 a7 a8 a9 a10 a11 a12 a13 xs m hm hk, Option.bind_some]
  by_cases h : SixOK a0 a1 a2 a3 a4 a5 a6 a7 a8 a9 a10 a11 a12 a13 xs m.length
  · rw [decide_eq_true h, if_pos rfl, if_pos h]
    obtain ⟨_, _, _, _, _, _, _, h3, hb, _⟩ := h
    rw [specExts_l0 a0 a1 a2 a3 a4 a5 a6 a7 a8 a9 a10 a11 a12 a13 m xs (by omega) xs [] k 0 0 rfl rfl hb (by omega) (by omega) (by omega), Int.zero_add]
  · rw [decide_eq_false h, if_neg Bool.false_ne_true, if_neg h]

theorem shr_nat (x : Int) (n : Nat) (h : n ≤ 64) (y : Int) (hy : y = n) : shr .i64 x y = x / 2 ^ n := by
  subst hy
  unfold shr
  rw [Int.toNat_natCast, Nat.min_eq_left (by exact h)]
theorem put_step (k : Nat) (a n : Int) (ys : List Int) (L i : Int) (m : Nat) (hL : L = ys.length) (h0 : 0 ≤ i) (h : i < L) (hn : n = L) (hn1 : n ≤ 8) (hm : (m : Int) = 8 * (n - 1 - i)) :
    impl_put.l0 (k + 1) a n ys L i = impl_put.l0 k a n (ys.set i.toNat (a / 2 ^ m % 256)) L (i + 1) := by
  simp only [impl_put.l0]
  rw [if_pos h, w64 (n := n - 1) (by omega) (by omega), w64 (n := n - 1 - i) (by omega) (by omega), w64 (n := 8 * (n - 1 - i)) (by omega) (by omega), if_pos (by omega), if_pos h0, if_pos (by omega),
    shr_nat a m (by omega) _ hm.symm, w64 (by omega) (by omega)]
theorem put_end (k : Nat) (a n : Int) (ys : List Int) (L i : Int) (h : ¬ i < L) : impl_put.l0 (k + 1) a n ys L i = some ys := by
  simp only [impl_put.l0]
  rw [if_neg h]
theorem put2 {k : Nat} (hk : 10 ≤ k) {a : Int} : impl_put.f k a 2 = some [a / 256 % 256, a % 256] := by
  obtain ⟨k, rfl⟩ : ∃ m, k = m + 3 := ⟨k - 3, by omega⟩
  unfold impl_put.f
  rw [if_pos (by decide), if_pos (by decide)]
  simp only [Option.bind_some]
  rw [put_step _ _ _ _ _ _ 8 (by simp) (by decide) (by decide) (by decide) (by decide) (by decide)]
  rw [put_step _ _ _ _ _ _ 0 (by simp) (by decide) (by decide) (by decide) (by decide) (by decide)]
  rw [put_end _ _ _ _ _ _ (by decide)]
  congr 1
  simp [List.replicate, List.set]
theorem put4 {k : Nat} (hk : 10 ≤ k) {a : Int} : impl_put.f k a 4 = some [a / 16777216 % 256, a / 65536 % 256, a / 256 % 256, a % 256] := by
  obtain ⟨k, rfl⟩ : ∃ m, k = m + 5 := ⟨k - 5, by omega⟩
  unfold impl_put.f
  rw [if_pos (by decide), if_pos (by decide)]
  simp only [Option.bind_some]
  rw [put_step _ _ _ _ _ _ 24 (by simp) (by decide) (by decide) (by decide) (by decide) (by decide)]
  rw [put_step _ _ _ _ _ _ 16 (by simp) (by decide) (by decide) (by decide) (by decide) (by decide)]
  rw [put_step _ _ _ _ _ _ 8 (by simp) (by decide) (by decide) (by decide) (by decide) (by decide)]
  rw [put_step _ _ _ _ _ _ 0 (by simp) (by decide) (by decide) (by decide) (by decide) (by decide)]
  rw [put_end _ _ _ _ _ _ (by decide)]
  congr 1
  simp [List.replicate, List.set]
theorem put6 {k : Nat} (hk : 10 ≤ k) {a : Int} : impl_put.f k a 6 = some [a / 1099511627776 % 256, a / 4294967296 % 256, a / 16777216 % 256, a / 65536 % 256, a / 256 % 256, a % 256] := by
  obtain ⟨k, rfl⟩ : ∃ m, k = m + 7 := ⟨k - 7, by omega⟩
  unfold impl_put.f
  rw [if_pos (by decide), if_pos (by decide)]
  simp only [Option.bind_some]
  rw [put_step _ _ _ _ _ _ 40 (by simp) (by decide) (by decide) (by decide) (by decide) (by decide)]
  rw [put_step _ _ _ _ _ _ 32 (by simp) (by decide) (by decide) (by decide) (by decide) (by decide)]
  rw [put_step _ _ _ _ _ _ 24 (by simp) (by decide) (by decide) (by decide) (by decide) (by decide)]
  rw [put_step _ _ _ _ _ _ 16 (by simp) (by decide) (by decide) (by decide) (by decide) (by decide)]
  rw [put_step _ _ _ _ _ _ 8 (by simp) (by decide) (by decide) (by decide) (by decide) (by decide)]
  rw [put_step _ _ _ _ _ _ 0 (by simp) (by decide) (by decide) (by decide) (by decide) (by decide)]
  rw [put_end _ _ _ _ _ _ (by decide)]
  congr 1
  simp [List.replicate, List.set]

theorem implPut16 {k : Nat} (hk : 10 ≤ k) (a : Int) : impl_Put16.f k a = some (b2 a) := by
  unfold impl_Put16.f
  rw [put2 hk]
  rfl

theorem specLow {a m : Int} (_ha : -9223372036854775808 ≤ a ∧ a ≤ 9223372036854775807) (hm0 : 0 < m) (hm1 : m ≤ 4294967296) : spec_l01Low.f a m = some (a % m) := by
  unfold spec_l01Low.f
  have h1 := Int.emod_nonneg a (show m ≠ 0 by omega)
  have h2 := Int.emod_lt_of_pos a hm0
  have h3 := Int.tmod_eq_emod (a := a) (b := m)
  rw [if_neg (by omega)]
  by_cases h : 0 ≤ a
  · rw [tmod_pos h, if_neg (by omega)]
  · have e := Int.emod_def a m
    by_cases hz : m ∣ a
    · have h4 : Int.tmod a m = 0 := Int.tmod_eq_zero_of_dvd hz
      have h5 : a % m = 0 := Int.emod_eq_zero_of_dvd hz
      rw [h4, h5, if_neg (by omega)]
    · have h4 : Int.tmod a m = a % m - m := by
        rw [h3, if_neg (by intro hh; rcases hh with hh | hh; exact h hh; exact hz hh)]
        omega
      rw [h4, if_pos (by omega), w64 (by omega) (by omega)]
      congr 1
      omega

theorem specPut16 {a : Int} (hb : -9223372036854775808 ≤ a ∧ a ≤ 9223372036854775807) : spec_Put16.f a = some [a / 256 % 256, a % 256] := by
  unfold spec_Put16.f
  rw [specLow hb (by omega) (by omega)]
  simp only [Option.bind_some]
  rw [tdiv_pos (by omega), tmod_pos (by omega), w64 (by omega) (by omega), show a % 65536 / 256 % 256 = a / 256 % 256 by omega, show a % 65536 % 256 % 256 = a % 256 by omega]

theorem specPut32 {a : Int} (hb : -9223372036854775808 ≤ a ∧ a ≤ 9223372036854775807) : spec_Put32.f a = some [a / 16777216 % 256, a / 65536 % 256, a / 256 % 256, a % 256] := by
  unfold spec_Put32.f
  rw [specLow hb (by omega) (by omega)]
  simp only [Option.bind_some]
  rw [tdiv_pos (by omega), tmod_pos (by omega), w64 (by omega) (by omega), specPut16 (by omega), specPut16 (by omega)]
  simp only [Option.bind_some]
  rw [if_pos (by simp), show a % 4294967296 / 65536 / 256 % 256 = a / 16777216 % 256 by omega, show a % 4294967296 / 65536 % 256 = a / 65536 % 256 by omega, show a % 4294967296 % 65536 / 256 % 256 = a / 256 % 256 by omega, show a % 4294967296 % 65536 % 256 = a % 256 by omega]
  rfl

theorem grow {n : Int} (h0 : 0 ≤ n) (h1 : n ≤ 140737488355328) (l : List Int) : slices_Grow_byte_byte.f l n = some [] := by
  unfold slices_Grow_byte_byte.f
  rw [if_pos h0, if_pos h1]
theorem concat_l1 (ls : List (List Int)) (hn : ls.length ≤ 1000) (d : Nat) : ∀ (k : Nat) (acc : List Int) (i : Int), 0 ≤ i → i + d = ls.length → d < k → acc.length + ((ls.drop i.toNat).flatten).length < 140737488355328 → slices_Concat_byte_byte.l1 k acc ls ls.length i = some (acc ++ (ls.drop i.toNat).flatten) := by
  induction d with
  | zero =>
    intro k acc i h0 hi hk hl
    obtain ⟨k, rfl⟩ := pos_k hk
    simp only [slices_Concat_byte_byte.l1]
    rw [if_neg (by omega), List.drop_eq_nil_of_le (by omega)]
    simp
  | succ d ih =>
    intro k acc i h0 hi hk hl
    obtain ⟨k, rfl⟩ := pos_k hk
    have e : ls.drop i.toNat = rd_L2 ls i :: ls.drop (i + 1).toNat := dropG ([] : List Int) h0 (show i < ls.length by omega)
    rw [e, List.flatten_cons, List.length_append] at hl
    simp only [slices_Concat_byte_byte.l1]
    rw [if_pos (by omega), if_pos h0, if_pos (by omega), if_pos (by omega), w64 (by omega) (by omega), ih k _ (i + 1) (by omega) (by omega) (by omega) (by rw [List.length_append]; omega), e, List.flatten_cons, List.append_assoc]
theorem concat_l0 (ls : List (List Int)) (hn : ls.length ≤ 1000) (hb : ls.flatten.length < 140737488355328) (d : Nat) : ∀ (k : Nat) (s i : Int), 0 ≤ i → i + d = ls.length → d + ls.length + 10 < k → 0 ≤ s → s + ((ls.drop i.toNat).flatten).length < 140737488355328 → slices_Concat_byte_byte.l0 k ls s ls ls.length i = some ls.flatten := by
  induction d with
  | zero =>
    intro k s i h0 hi hk hs hl
    obtain ⟨k, rfl⟩ := pos_k hk
    simp only [slices_Concat_byte_byte.l0]
    rw [if_neg (by omega), grow hs (by omega)]
    simp only [Option.bind_some]
    rw [concat_l1 ls hn ls.length k [] 0 (by omega) (by omega) (by omega) (by simpa using hb)]
    simp
  | succ d ih =>
    intro k s i h0 hi hk hs hl
    obtain ⟨k, rfl⟩ := pos_k hk
    have e : ls.drop i.toNat = rd_L2 ls i :: ls.drop (i + 1).toNat := dropG ([] : List Int) h0 (show i < ls.length by omega)
    rw [e, List.flatten_cons, List.length_append] at hl
    simp only [slices_Concat_byte_byte.l0]
    rw [if_pos (by omega), if_pos h0, if_pos (by omega), w64 (n := s + ((rd_L2 ls i).length : Int)) (by omega) (by omega), if_neg (by omega), w64 (by omega) (by omega), ih k _ (i + 1) (by omega) (by omega) (by omega) (by omega) (by omega)]
theorem concat {ls : List (List Int)} (hn : ls.length ≤ 1000) (hb : ls.flatten.length < 140737488355328) {k : Nat} (hk : 2 * ls.length + 10 < k) : slices_Concat_byte_byte.f k ls = some ls.flatten := by
  unfold slices_Concat_byte_byte.f
  rw [concat_l0 ls hn hb ls.length k 0 0 (by omega) (by omega) (by omega) (by omega) (by show (0 : Int) + (ls.flatten.length : Int) < _; omega)]

theorem specAddrBytes (k a b c d : Int) : spec_AddrBytes.f k a b c d = some (addrBytes k a b c d) := by
  unfold spec_AddrBytes.f addrBytes
  rw [specAddrOk]
  simp only [Option.bind_some]
  by_cases h : AddrOK k a b c d
  · rw [decide_eq_true h, if_pos rfl, if_pos h]
    have h' := h
    unfold AddrOK Half at h'
    by_cases h4 : k = 4
    · rw [if_pos h4, if_pos h4, specPut32 (by omega)]
      rfl
    · rw [if_neg h4, if_neg h4, specPut32 (a := a) (by omega), specPut32 (a := b) (by omega), specPut32 (a := c) (by omega), specPut32 (a := d) (by omega)]
      simp only [Option.bind_some]
      rw [if_pos (by simp), if_pos (by simp), if_pos (by simp)]
      rfl
  · rw [decide_eq_false h, if_neg Bool.false_ne_true, if_neg h]
theorem implPut32 {k : Nat} (hk : 10 ≤ k) (a : Int) : impl_Put32.f k a = some (b4 a) := by
  unfold impl_Put32.f
  rw [put4 hk]
  rfl
theorem implAddrBytes {n : Nat} (hn : 30 ≤ n) (k a b c d : Int) : impl_AddrBytes.f n k a b c d = some (addrBytes k a b c d) := by
  unfold impl_AddrBytes.f addrBytes
  rw [implAddrOk]
  simp only [Option.bind_some]
  by_cases h : AddrOK k a b c d
  · rw [decide_eq_true h, if_pos rfl, if_pos h]
    by_cases h4 : k = 4
    · rw [if_pos h4, if_pos h4, implPut32 (by omega)]
      rfl
    · rw [if_neg h4, if_neg h4, implPut32 (by omega), implPut32 (by omega), implPut32 (by omega), implPut32 (by omega)]
      simp only [Option.bind_some]
      rw [concat (by simp) (by simp [b4]) (by simp; omega)]
      simp
  · rw [decide_eq_false h, if_neg Bool.false_ne_true, if_neg h]
theorem addrBytes_len (k a b c d : Int) : (addrBytes k a b c d).length ≤ 16 := by
  unfold addrBytes
  split
  · split <;> simp [b4]
  · simp
theorem addrBytes_u8 (k a b c d : Int) : U8 (addrBytes k a b c d) := by
  unfold addrBytes
  split
  · split
    · exact U8.b4 _
    · exact (U8.b4 _).append ((U8.b4 _).append ((U8.b4 _).append (U8.b4 _)))
  · exact U8.nil

def sixNext (p : Int) : List S69 → Int
  | [] => p % 256
  | y :: _ => y.f0 % 256
/-- The bytes of the extension headers, the kind of each behind it told in the one before. -/
def extBytes (p : Int) : List S69 → List Int
  | [] => []
  | x :: r => [sixNext p r, ((2 + (x.f1.length : Int)) / 8 - 1) % 256] ++ (x.f1 ++ extBytes p r)
def sixBytesV (a0 a1 a2 a3 a4 a5 a6 a7 a8 a9 a10 a11 a12 a13 : Int) (xs : List S69) (m : List Int) : List Int :=
  b4 (1610612736 + a0 * 1048576 + a1) ++ (b2 (extsN xs + (m.length : Int)) ++ ([sixNext a3 xs, a2 % 256] ++ (addrBytes a4 a5 a6 a7 a8 ++ (addrBytes a9 a10 a11 a12 a13 ++ (extBytes a3 xs ++ m)))))
def sixBytes (a0 a1 a2 a3 a4 a5 a6 a7 a8 a9 a10 a11 a12 a13 : Int) (xs : List S69) (m : List Int) : List Int :=
  if SixOK a0 a1 a2 a3 a4 a5 a6 a7 a8 a9 a10 a11 a12 a13 xs m.length then sixBytesV a0 a1 a2 a3 a4 a5 a6 a7 a8 a9 a10 a11 a12 a13 xs m else []
theorem extBytes_len (p : Int) (xs : List S69) : ((extBytes p xs).length : Int) = extsN xs := by
  induction xs with
  | nil => rfl
  | cons x r ih =>
    simp only [extBytes, extsN, List.length_append, List.length_cons, List.length_nil]
    omega
theorem nextF (a0 a1 a2 a3 a4 a5 a6 a7 a8 a9 a10 a11 a12 a13 : Int) (xs A R : List S69) (m : List Int) {i : Int} (hx : A ++ R = xs) (hi : i = A.length) : spec_l06Next.f a0 a1 a2 a3 a4 a5 a6 a7 a8 a9 a10 a11 a12 a13 xs m i = some (sixNext a3 R) := by
  unfold spec_l06Next.f
  subst hx
  cases R with
  | nil =>
    rw [if_neg (by simp; omega)]
    rfl
  | cons y r =>
    rw [if_pos (by simp; omega), if_pos (by omega), rdi_at A r y hi]
    rfl
theorem extB_len {xs : List S69} {i : Int} (h : extsB i xs = true) : ∀ x ∈ xs, x.f1.length ≤ 62 := by
  induction xs generalizing i with
  | nil => simp
  | cons y r ih =>
    simp only [extsB, extB, Bool.and_eq_true, decide_eq_true_eq] at h
    intro x hx
    rcases List.mem_cons.1 hx with rfl | hx
    · have := h.1.2.2.2; omega
    · exact ih h.2 x hx
theorem extW {n : Nat} (hn : n ≤ 62) : wrap64 ((wrap64 (Int.tdiv (wrap64 (2 + (n : Int))) 8)) - 1) % 256 = ((2 + (n : Int)) / 8 - 1) % 256 := by
  rw [w64 (n := 2 + (n : Int)) (by omega) (by omega), tdiv_pos (by omega), w64 (n := (2 + (n : Int)) / 8) (by omega) (by omega), w64 (by omega) (by omega)]
theorem specSB_l0 (a0 a1 a2 a3 a4 a5 a6 a7 a8 a9 a10 a11 a12 a13 : Int) (m : List Int) (hm : m.length ≤ 1048576) (xs : List S69) (hxs : xs.length ≤ 3) (hb : ∀ x ∈ xs, x.f1.length ≤ 62) (R : List S69) : ∀ (A : List S69) (k : Nat) (out : List Int) (i : Int), A ++ R = xs → i = A.length → out.length + 64 * R.length ≤ 1048576 → R.length < k →
    spec_SixBytes.l0 k out i a0 a1 a2 a3 a4 a5 a6 a7 a8 a9 a10 a11 a12 a13 xs m = some (out ++ (extBytes a3 R ++ m)) := by
  induction R with
  | nil =>
    intro A k out i hx hi ho hk
    obtain ⟨k, rfl⟩ : ∃ q, k = q + 1 := ⟨k - 1, by simp at hk; omega⟩
    simp only [spec_SixBytes.l0]
    rw [if_neg (by rw [← hx]; simp; omega), if_pos (by simp at ho; omega)]
    rfl
  | cons x R ih =>
    intro A k out i hx hi ho hk
    simp only [List.length_cons] at ho hk
    obtain ⟨k, rfl⟩ : ∃ q, k = q + 1 := ⟨k - 1, by omega⟩
    have hl : A.length + (R.length + 1) = xs.length := by rw [← hx]; simp
    have hr : rd_T69 xs i = x := by rw [← hx]; exact rdi_at A R x hi
    have hxl : x.f1.length ≤ 62 := hb x (by rw [← hx]; simp)
    simp only [spec_SixBytes.l0]
    rw [if_pos (by omega), w64 (n := i + 1) (by omega) (by omega), nextF a0 a1 a2 a3 a4 a5 a6 a7 a8 a9 a10 a11 a12 a13 xs (A ++ [x]) R m (by rw [List.append_assoc]; exact hx) (by simp; omega), Option.bind_some, if_pos (by omega), hr, extW hxl, Option.bind_some, if_pos (by simp only [List.length_cons, List.length_nil]; omega), Option.bind_some,
      if_pos (by simp only [List.length_append, List.length_cons, List.length_nil]; omega), ih (A ++ [x]) k _ (i + 1) (by rw [List.append_assoc]; exact hx) (by simp; omega) (by simp only [List.length_append, List.length_cons, List.length_nil]; omega) (by omega)]
    simp [extBytes]
theorem specSixBytes (a0 a1 a2 a3 a4 a5 a6 a7 a8 a9 a10 a11 a12 a13 : Int) (xs : List S69) (m : List Int) (hm : m.length ≤ 1048576) {k : Nat} (hk : 3000000 ≤ k) :
    spec_SixBytes.f k a0 a1 a2 a3 a4 a5 a6 a7 a8 a9 a10 a11 a12 a13 xs m = some (sixBytes a0 a1 a2 a3 a4 a5 a6 a7 a8 a9 a10 a11 a12 a13 xs m) := by
  unfold spec_SixBytes.f sixBytes
  rw [specSixOk a0 a1 a2 a3 a4 a5 a6 a7 a8 a9 a10 a11 a12 a13 xs m hm hk, Option.bind_some]
  by_cases h : SixOK a0 a1 a2 a3 a4 a5 a6 a7 a8 a9 a10 a11 a12 a13 xs m.length
  · have h' := h
    rw [decide_eq_true h, if_pos rfl, if_pos h]
    obtain ⟨h0, h1, h2, h3, _, _, _, hl, hb, hn⟩ := h'
    have he := extsN_le hb
    have l1 := addrBytes_len a4 a5 a6 a7 a8
    have l2 := addrBytes_len a9 a10 a11 a12 a13
    rw [w64 (n := a0 * 1048576) (by omega) (by omega), w64 (n := 1610612736 + a0 * 1048576) (by omega) (by omega), w64 (n := 1610612736 + a0 * 1048576 + a1) (by omega) (by omega), specPut32 (by omega), Option.bind_some,
      specExtsSize a0 a1 a2 a3 a4 a5 a6 a7 a8 a9 a10 a11 a12 a13 xs m hm hk, Option.bind_some, if_pos h, w64 (n := extsN xs + (m.length : Int)) (by omega) (by omega), specPut16 (by omega), Option.bind_some, if_pos (by simp), Option.bind_some,
      nextF a0 a1 a2 a3 a4 a5 a6 a7 a8 a9 a10 a11 a12 a13 xs [] xs m (i := 0) rfl rfl, Option.bind_some, Option.bind_some, if_pos (by simp), Option.bind_some, specAddrBytes, Option.bind_some, if_pos (by simp only [List.length_append, List.length_cons, List.length_nil]; omega), Option.bind_some, specAddrBytes, Option.bind_some,
      if_pos (by simp only [List.length_append, List.length_cons, List.length_nil]; omega), specSB_l0 a0 a1 a2 a3 a4 a5 a6 a7 a8 a9 a10 a11 a12 a13 m hm xs (by omega) (extB_len hb) xs [] k _ 0 rfl rfl (by simp only [List.length_append, List.length_cons, List.length_nil]; omega) (by omega)]
    unfold sixBytesV
    simp [b4, b2]
  · rw [decide_eq_false h, if_neg Bool.false_ne_true, if_neg h]
theorem sixBytes_len (a0 a1 a2 a3 a4 a5 a6 a7 a8 a9 a10 a11 a12 a13 : Int) (xs : List S69) (m : List Int) : (sixBytes a0 a1 a2 a3 a4 a5 a6 a7 a8 a9 a10 a11 a12 a13 xs m).length ≤ 1600 := by
  unfold sixBytes
  split
  · rename_i h
    obtain ⟨_, _, _, _, _, _, _, hl, hb, hn⟩ := h
    have l1 := addrBytes_len a4 a5 a6 a7 a8
    have l2 := addrBytes_len a9 a10 a11 a12 a13
    have l3 := extBytes_len a3 xs
    unfold sixBytesV
    simp only [List.length_append, List.length_cons, List.length_nil, b4, b2]
    omega
  · simp
theorem sixWord {a b : Int} (h0 : 0 ≤ a ∧ a ≤ 255) (h1 : 0 ≤ b ∧ b ≤ 1048575) : Go.bits .or .i64 (Go.bits .or .i64 1610612736 (wrap64 (a * 1048576))) b = 1610612736 + a * 1048576 + b := by
  rw [w64 (by omega) (by omega), bits_join .i64 63 (by decide) wraps_i64 28 1610612736 (a * 1048576) (by omega) (by omega) (by omega) (by omega) (by omega) (by omega), bits_join .i64 63 (by decide) wraps_i64 20 (1610612736 + a * 1048576) b (by omega) (by omega) (by omega) (by omega) (by omega) (by omega)]

theorem kdF (p : Int) (xs A R : List S69) {i : Int} (hx : A ++ R = xs) (hi : i = A.length) : impl_SixBytes_kd.f p xs i = some (sixNext p R) := by
  unfold impl_SixBytes_kd.f
  subst hx
  cases R with
  | nil =>
    rw [if_neg (by simp; omega)]
    rfl
  | cons y r =>
    rw [if_pos (by simp; omega), if_pos (by omega), rdi_at A r y hi]
    rfl
theorem implSB_l0 (p : Int) (m : List Int) (hm : m.length ≤ 1048576) (xs : List S69) (hxs : xs.length ≤ 3) (hb : ∀ x ∈ xs, x.f1.length ≤ 62) (R : List S69) : ∀ (A : List S69) (k : Nat) (out : List Int) (i : Int), A ++ R = xs → i = A.length → out.length + 64 * R.length ≤ 1048576 → R.length < k →
    impl_SixBytes.l0 k out i p xs m = some (out ++ (extBytes p R ++ m)) := by
  induction R with
  | nil =>
    intro A k out i hx hi ho hk
    obtain ⟨k, rfl⟩ : ∃ q, k = q + 1 := ⟨k - 1, by simp at hk; omega⟩
    simp only [impl_SixBytes.l0]
    rw [if_neg (by rw [← hx]; simp; omega), if_pos (by simp at ho; omega)]
    rfl
  | cons x R ih =>
    intro A k out i hx hi ho hk
    simp only [List.length_cons] at ho hk
    obtain ⟨k, rfl⟩ : ∃ q, k = q + 1 := ⟨k - 1, by omega⟩
    have hl : A.length + (R.length + 1) = xs.length := by rw [← hx]; simp
    have hr : rd_T69 xs i = x := by rw [← hx]; exact rdi_at A R x hi
    have hxl : x.f1.length ≤ 62 := hb x (by rw [← hx]; simp)
    simp only [impl_SixBytes.l0]
    rw [if_pos (by omega), if_pos (by omega), w64 (n := i + 1) (by omega) (by omega), kdF p xs (A ++ [x]) R (by rw [List.append_assoc]; exact hx) (by simp; omega), Option.bind_some, hr, extW hxl, Option.bind_some, if_pos (by simp only [List.length_cons, List.length_nil]; omega), Option.bind_some,
      if_pos (by simp only [List.length_append, List.length_cons, List.length_nil]; omega), ih (A ++ [x]) k _ (i + 1) (by rw [List.append_assoc]; exact hx) (by simp; omega) (by simp only [List.length_append, List.length_cons, List.length_nil]; omega) (by omega)]
    simp [extBytes]
theorem implSixBytes (a0 a1 a2 a3 a4 a5 a6 a7 a8 a9 a10 a11 a12 a13 : Int) (xs : List S69) (m : List Int) (hl : xs.length ≤ 1048576) (hm : m.length ≤ 1048576) {k : Nat} (hk : 3000000 ≤ k) :
    impl_SixBytes.f k a0 a1 a2 a3 a4 a5 a6 a7 a8 a9 a10 a11 a12 a13 xs m = some (sixBytes a0 a1 a2 a3 a4 a5 a6 a7 a8 a9 a10 a11 a12 a13 xs m) := by
  unfold impl_SixBytes.f sixBytes
  rw [implSixOk a0 a1 a2 a3 a4 a5 a6 a7 a8 a9 a10 a11 a12 a13 xs m hl hm hk, Option.bind_some]
  by_cases h : SixOK a0 a1 a2 a3 a4 a5 a6 a7 a8 a9 a10 a11 a12 a13 xs m.length
  · have h' := h
    rw [decide_eq_true h, if_pos rfl, if_pos h]
    obtain ⟨h0, h1, h2, h3, _, _, _, hl3, hb, hn⟩ := h'
    have he := extsN_le hb
    have l1 := addrBytes_len a4 a5 a6 a7 a8
    have l2 := addrBytes_len a9 a10 a11 a12 a13
    have e2 : ∀ n : Int, (b2 n).length = 2 := fun _ => rfl
    have e4 : ∀ n : Int, (b4 n).length = 4 := fun _ => rfl
    rw [extsSizeI xs (by omega) hb hk, Option.bind_some, sixWord h0 h1, implPut32 (by omega), Option.bind_some, w64 (n := extsN xs + (m.length : Int)) (by omega) (by omega), implPut16 (by omega), Option.bind_some, kdF a3 xs [] xs (i := 0) rfl rfl, Option.bind_some, implAddrBytes (by omega), Option.bind_some, implAddrBytes (by omega), Option.bind_some,
      concat (by simp) (by simp [e2, e4]; omega) (by simp; omega), Option.bind_some, implSB_l0 a3 m hm xs (by omega) (extB_len hb) xs [] k _ 0 rfl rfl (by simp [e2, e4]; omega) (by omega)]
    unfold sixBytesV
    simp
  · rw [decide_eq_false h, if_neg Bool.false_ne_true, if_neg h]

theorem markByteS_l (d : Nat) : ∀ (k : Nat) (ys : List Int) (m i : Int), 0 ≤ i → i + d = ys.length → d < k → 0 ≤ m → ys.length ≤ 140737488355328 → m + d ≤ 281474976710656 →
    ∃ zs, laws_markByteS.l0 k ys m i = some (m + d, zs) ∧ zs.length = ys.length ∧ (∀ j : Nat, (j : Int) < i → zs[j]? = ys[j]?) ∧ (∀ j : Nat, i ≤ j → j < ys.length → zs[j]? = some ((m + (j - i)) % 256)) := by
  induction d with
  | zero =>
    intro k ys m i h0 hi hk hm hl hb
    obtain ⟨k, rfl⟩ := pos_k hk
    refine ⟨ys, ?_, rfl, fun _ _ => rfl, fun j h1 h2 => by omega⟩
    simp only [laws_markByteS.l0]
    rw [if_neg (by omega), show m + ((0 : Nat) : Int) = m by omega]
  | succ d ih =>
    intro k ys m i h0 hi hk hm hl hb
    obtain ⟨k, rfl⟩ := pos_k hk
    obtain ⟨zs, h1, h2, h3, h4⟩ := ih k (ys.set i.toNat (m % 256)) (m + 1) (i + 1) (by omega) (by rw [List.length_set]; omega) (by omega) (by omega) (by rw [List.length_set]; omega) (by omega)
    rw [List.length_set] at h2 h4
    refine ⟨zs, ?_, h2, ?_, ?_⟩
    · simp only [laws_markByteS.l0]
      rw [if_pos (by omega), if_pos (by omega), w64 (by omega) (by omega), w64 (by omega) (by omega), h1]
      congr 2
      omega
    · intro j hj
      rw [h3 j (by omega), List.getElem?_set_ne (by omega)]
    · intro j hj hj'
      by_cases h : (j : Int) = i
      · rw [h3 j (by omega), show i.toNat = j by omega, List.getElem?_set_self (by omega), h, show m + (i - i) = m by omega]
      · rw [h4 j (by omega) hj', show m + 1 + ((j : Int) - (i + 1)) = m + (j - i) by omega]
/-- What marking leaves reads as marked. -/
def Marked (zs : List Int) (m : Int) : Prop := ∀ j : Nat, j < zs.length → zs[j]? = some ((m + j) % 256)
theorem markByteS (ys : List Int) (hl : ys.length ≤ 140737488355328) {m : Int} (h0 : 0 ≤ m) (h1 : m ≤ 140737488355328) {k : Nat} (hk : ys.length < k) :
    ∃ zs, laws_markByteS.f k ys m = some (m + ys.length, zs) ∧ zs.length = ys.length ∧ Marked zs m := by
  obtain ⟨zs, h1, h2, h3, h4⟩ := markByteS_l ys.length k ys m 0 (by omega) (by omega) hk h0 hl (by omega)
  refine ⟨zs, h1, h2, fun j hj => ?_⟩
  rw [h4 j (by omega) (by omega), show m + ((j : Int) - 0) = m + j by omega]

theorem heldByteS_l (d : Nat) (zs : List Int) (m0 : Int) (hz : Marked zs m0) : ∀ (k : Nat) (m i : Int), 0 ≤ i → i + d = zs.length → d < k → 0 ≤ m → m = m0 + i → zs.length ≤ 140737488355328 → m + d ≤ 281474976710656 →
    laws_heldByteS.l0 k zs m i = some (m + d) := by
  induction d with
  | zero =>
    intro k m i h0 hi hk hm he hl hb
    obtain ⟨k, rfl⟩ := pos_k hk
    simp only [laws_heldByteS.l0]
    rw [if_neg (by omega), show m + ((0 : Nat) : Int) = m by omega]
  | succ d ih =>
    intro k m i h0 hi hk hm he hl hb
    obtain ⟨k, rfl⟩ := pos_k hk
    have hr : rd zs i = m % 256 := by
      have h1 := rd_get? h0 (show i < zs.length by omega)
      rw [hz i.toNat (by omega)] at h1
      rw [← Option.some.inj h1, he, show ((i.toNat : Nat) : Int) = i by omega]
    simp only [laws_heldByteS.l0]
    rw [if_pos (by omega), if_pos (by omega), if_pos hr, w64 (by omega) (by omega), w64 (by omega) (by omega), ih k (m + 1) (i + 1) (by omega) (by omega) (by omega) (by omega) (by omega) (by omega) (by omega)]
    congr 1
    omega
theorem heldByteS {zs : List Int} {m : Int} (hz : Marked zs m) (hl : zs.length ≤ 140737488355328) (h0 : 0 ≤ m) (h1 : m ≤ 140737488355328) {k : Nat} (hk : zs.length < k) : laws_heldByteS.f k zs m = some (m + zs.length) :=
  heldByteS_l zs.length zs m hz k m 0 (by omega) (by omega) hk h0 (by omega) hl (by omega)

def markN : List S69 → Int
  | [] => 0
  | x :: r => 1 + (x.f1.length : Int) + markN r
theorem markN_le {R : List S69} (h : ∀ x ∈ R, x.f1.length ≤ 1048576) : 0 ≤ markN R ∧ markN R ≤ 1048577 * R.length := by
  induction R with
  | nil => simp [markN]
  | cons x r ih =>
    have h1 := ih (fun y hy => h y (List.mem_cons_of_mem _ hy))
    have h2 := h x (List.mem_cons_self ..)
    simp only [markN, List.length_cons]
    omega
theorem markExtS_l (R : List S69) : ∀ (A : List S69) (k : Nat) (v i : Int), (∀ x ∈ R, x.f1.length ≤ 1048576) → A.length + R.length ≤ 1048576 → i = A.length → 0 ≤ v → v + 1048577 * R.length ≤ 1099511627776 * 4 → R.length + 1048578 < k → ∃ R', laws_markExtS.l0 k (A ++ R) v i = some (v + markN R, A ++ R') := by
  induction R with
  | nil =>
    intro A k v i hx hn hi hv hb hk
    obtain ⟨k, rfl⟩ : ∃ q, k = q + 1 := ⟨k - 1, by omega⟩
    refine ⟨[], ?_⟩
    simp only [laws_markExtS.l0]
    rw [if_neg (by simp; omega)]
    simp [markN]
  | cons x R ih =>
    intro A k v i hx hn hi hv hb hk
    simp only [List.length_cons] at hn hk hb
    obtain ⟨k, rfl⟩ : ∃ q, k = q + 1 := ⟨k - 1, by omega⟩
    have hxl := hx x (List.mem_cons_self ..)
    obtain ⟨zs, h1, _, _⟩ := markByteS x.f1 (by omega) (m := v + 1) (by omega) (by omega) (k := k) (by omega)
    have hs : ∀ y : S69, (A ++ x :: R).set i.toNat y = (A ++ [y]) ++ R := fun y => by
      rw [List.set_append_right _ _ (by omega), show i.toNat - A.length = 0 by omega]
      simp
    obtain ⟨R', h2⟩ := ih (A ++ [⟨v, zs⟩]) k (v + 1 + x.f1.length) (i + 1) (fun y hy => hx y (List.mem_cons_of_mem _ hy)) (by simp; omega) (by simp; omega) (by omega) (by omega) (by omega)
    refine ⟨⟨v, zs⟩ :: R', ?_⟩
    simp only [laws_markExtS.l0]
    rw [if_pos (by simp; omega), if_pos (by omega), rdi_at A R x hi, w64 (n := v + 1) (by omega) (by omega), h1, Option.bind_some]
    dsimp only
    rw [hs, w64 (n := i + 1) (by omega) (by omega), h2]
    simp only [markN, List.append_assoc, List.cons_append, List.nil_append]
    rw [show v + 1 + (x.f1.length : Int) + markN R = v + (1 + (x.f1.length : Int) + markN R) by omega]
theorem markSix {k : Nat} (a0 a1 a2 a3 a4 a5 a6 a7 a8 a9 a10 a11 a12 a13 : Int) (l : List S69) (m : List Int) (hl : l.length ≤ 1048576) (hx : ∀ n ∈ l, n.f1.length ≤ 1048576) (hm : m.length ≤ 1048576) (hk : 3000000 ≤ k) : ∃ v z1 z2, laws_markSix.f k a0 a1 a2 a3 a4 a5 a6 a7 a8 a9 a10 a11 a12 a13 l m 1 = some (v, z1, z2) ∧ 0 ≤ v := by
  obtain ⟨R', h1⟩ := markExtS_l l [] k 1 0 hx (by simpa using hl) rfl (by omega) (by omega) (by omega)
  rw [List.nil_append, List.nil_append] at h1
  have hn := markN_le hx
  obtain ⟨z2, h2, _, _⟩ := markByteS m (by omega) (m := 1 + markN l) (by omega) (by omega) (k := k) (by omega)
  refine ⟨1 + markN l + m.length, R', z2, ?_, by omega⟩
  unfold laws_markSix.f laws_markExtS.f
  rw [h1, Option.bind_some]
  dsimp only
  rw [h2]
  rfl

theorem FnExactSixBytesL (a0 a1 a2 a3 a4 a5 a6 a7 a8 a9 a10 a11 a12 a13 : Int) (l : List S97) (m : List Int) (hl : l.length ≤ maxLen) (hx : ∀ n ∈ l, n.f1.length ≤ maxLen) (hm : m.length ≤ maxLen) : ∃ k, laws_FnExactSixBytes.f k a0 a1 a2 a3 a4 a5 a6 a7 a8 a9 a10 a11 a12 a13 l m = some true := by
  refine ⟨3000000, ?_⟩
  have hk := Nat.le_refl 3000000
  obtain ⟨r, hr, hc⟩ := szSix a0 a1 a2 a3 a4 a5 a6 a7 a8 a9 a10 a11 a12 a13 l m hl hx hm hk
  unfold laws_FnExactSixBytes.f
  rw [hr]
  simp only [Option.bind_some]
  by_cases h : r < 0
  · rw [if_pos h]
  · obtain ⟨h1, h2, h3⟩ := hc h
    rw [if_neg h]
    have e1 := toSix a0 a1 a2 a3 a4 a5 a6 a7 a8 a9 a10 a11 a12 a13 l m h1 h3 h2 hk
    have e2 := eqSix a0 a1 a2 a3 a4 a5 a6 a7 a8 a9 a10 a11 a12 a13 (l.map ext) m (by simpa using h1) (ext_len h3) h2 hk
    have e3 := specSixBytes a0 a1 a2 a3 a4 a5 a6 a7 a8 a9 a10 a11 a12 a13 (l.map ext) m h2 hk
    have e4 := implSixBytes a0 a1 a2 a3 a4 a5 a6 a7 a8 a9 a10 a11 a12 a13 (l.map ext) m (by simpa using h1) h2 hk
    obtain ⟨v, z1, z2, e5, hv⟩ := markSix a0 a1 a2 a3 a4 a5 a6 a7 a8 a9 a10 a11 a12 a13 (l.map ext) m (by simpa using h1) (ext_len h3) h2 hk
    have hlen := sixBytes_len a0 a1 a2 a3 a4 a5 a6 a7 a8 a9 a10 a11 a12 a13 (l.map ext) m
    generalize sixBytes a0 a1 a2 a3 a4 a5 a6 a7 a8 a9 a10 a11 a12 a13 (l.map ext) m = b at e3 e4 hlen
    have hb : laws_eqByteS.f 3000000 b b = some true := eqByteS (by omega) (by omega)
    obtain ⟨zs, e6, hzl, hz⟩ := markByteS b (by omega) (m := 1) (by omega) (by omega) (k := 3000000) (by omega)
    have hh : laws_heldByteS.f 3000000 zs 1 = some (1 + (b.length : Int)) := by
      have := heldByteS hz (by omega) (by omega) (by omega) (k := 3000000) (by omega)
      rwa [hzl] at this
    have hp : ¬ ((1 : Int) + b.length < 0) := by omega
    have hq : ¬ (v < 0) := by omega
    simp only [e1, e2, e3, e4, e5, e6, hb, hh, if_neg hp, if_neg hq, Option.bind_some, if_true]
end ExactSixBytes
open ExactSixBytes

theorem FnExactSixBytes : laws_FnExactSixBytes.Pure := by
  intro a0 a1 a2 a3 a4 a5 a6 a7 a8 a9 a10 a11 a12 a13 l m _ _ _ _ _ _ _ _ _ _ _ _ _ _ hl hx hm _
  exact FnExactSixBytesL a0 a1 a2 a3 a4 a5 a6 a7 a8 a9 a10 a11 a12 a13 l m hl (fun n hn => (hx n hn).2.1) hm

end Go.Proofs.Ytdbiejkaplndgaa.Pure
