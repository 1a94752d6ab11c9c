/- The program's UpperSize returns what the reference's returns, for all arguments. No condition. -/
import Derived.Test.YtnpfhfckkjkifaaSFnExactUpperSize
import Derived.Test.YtnpfhfckkjkifaaBase
namespace Go.Proofs.Ytnpfhfckkjkifaa.Pure
open Go.RowKit Go.Proofs.Ytnpfhfckkjkifaa.FFnExactUpperSize Go.Proofs.YtnpfhfckkjkifaaW.PrintWords Go.Proofs.YtnpfhfckkjkifaaW.PrintLast Go.Proofs.YtnpfhfckkjkifaaW.PrintMore Go.Proofs.Ytnpfhfckkjkifaa.Base

set_option linter.unusedVariables false
set_option linter.unusedSimpArgs false
namespace ExactUpperSize
theorem toByteS_l (xs : List Int) (hn : xs.length ≤ 140737488355328) (d : Nat) : ∀ (k : Nat) (ys : List Int) (i : Int), 0 ≤ i → i + d = xs.length → d < k → ys.length = xs.length → (∀ j : Nat, (j : Int) < i → ys[j]? = xs[j]?) → laws_toByteS.l0 k xs ys i = some xs := by
  induction d with
  | zero =>
    intro k ys i h0 hi hk hl hj
    obtain ⟨k, rfl⟩ := pos_k hk
    simp only [laws_toByteS.l0]
    rw [if_neg (by omega)]
    congr 1
    apply List.ext_getElem?
    intro j
    by_cases h : (j : Int) < i
    · exact hj j h
    · rw [List.getElem?_eq_none (by omega), List.getElem?_eq_none (by omega)]
  | succ d ih =>
    intro k ys i h0 hi hk hl hj
    obtain ⟨k, rfl⟩ := pos_k hk
    simp only [laws_toByteS.l0]
    rw [if_pos (by omega), if_pos (by omega), if_pos (by omega), w64 (by omega) (by omega)]
    refine ih k _ (i + 1) (by omega) (by omega) (by omega) (by rw [List.length_set]; omega) ?_
    intro j hj'
    by_cases h : (j : Int) = i
    · have e : i.toNat = j := by omega
      rw [e, List.getElem?_set_self (by omega), ← h, ← rd_get? (by omega) (by omega)]
      rfl
    · rw [List.getElem?_set_ne (by omega)]
      exact hj j (by omega)
theorem toByteS {xs : List Int} (hn : xs.length ≤ 140737488355328) {k : Nat} (hk : xs.length < k) : laws_toByteS.f k xs = some xs := by
  unfold laws_toByteS.f
  rw [if_pos (by omega), if_pos (by omega)]
  exact toByteS_l xs hn xs.length k _ 0 (by omega) (by omega) hk (by simp) (fun j hj => by omega)

theorem eqByteS_l (xs : List Int) (hn : xs.length ≤ 140737488355328) (d : Nat) : ∀ (k : Nat) (i : Int), 0 ≤ i → i + d = xs.length → d < k → laws_eqByteS.l0 k xs xs i = some true := by
  induction d with
  | zero =>
    intro k i h0 hi hk
    obtain ⟨k, rfl⟩ := pos_k hk
    simp only [laws_eqByteS.l0]
    rw [if_neg (by omega)]
  | succ d ih =>
    intro k i h0 hi hk
    obtain ⟨k, rfl⟩ := pos_k hk
    simp only [laws_eqByteS.l0]
    rw [if_pos (by omega), if_pos (by omega), if_pos (by omega), if_pos (by first | rfl | trivial), w64 (by omega) (by omega)]
    exact ih k (i + 1) (by omega) (by omega) (by omega)
theorem eqByteS {xs : List Int} (hn : xs.length ≤ 140737488355328) {k : Nat} (hk : xs.length < k) : laws_eqByteS.f k xs xs = some true := by
  unfold laws_eqByteS.f
  rw [if_pos rfl]
  exact eqByteS_l xs hn xs.length k 0 (by omega) (by omega) hk

theorem szByteS (l : List Int) (a : Int) (h0 : 0 ≤ a) (h1 : a ≤ 1048576) (hl : l.length ≤ maxLen) : laws_szByteS.f l a = some (if a - l.length < 0 then -1 else a - l.length) := by
  unfold maxLen at hl
  unfold laws_szByteS.f
  rw [w64 (by omega) (by omega)]
  by_cases h : a - l.length < 0
  · rw [if_pos h, if_pos h]
  · rw [if_neg h, if_neg h]

theorem szUpper (a0 a1 a2 a3 a4 a5 a6 a7 a8 a9 a10 : Int) (a11 : Bool) (l m : List Int) (hl : l.length ≤ maxLen) (hm : m.length ≤ maxLen) : ∃ r, laws_szUpper.f a0 a1 a2 a3 a4 a5 a6 a7 a8 a9 a10 a11 l m 1048576 = some r ∧ (¬ r < 0 → l.length + m.length ≤ 1048576) := by
  unfold laws_szUpper.f
  rw [szByteS l _ (by omega) (by omega) hl]
  simp only [Option.bind_some]
  by_cases h : (1048576 : Int) - l.length < 0
  · rw [if_pos h, if_pos (by decide)]
    exact ⟨-1, rfl, fun hh => absurd (by decide) hh⟩
  · rw [if_neg h, if_neg h, szByteS m _ (by omega) (by omega) hm]
    simp only [Option.bind_some]
    by_cases h' : (1048576 : Int) - l.length - m.length < 0
    · rw [if_pos h', if_pos (by decide)]
      exact ⟨-1, rfl, fun hh => absurd (by decide) hh⟩
    · rw [if_neg h', if_neg h']
      exact ⟨_, rfl, fun _ => by omega⟩
theorem toUpper (a0 a1 a2 a3 a4 a5 a6 a7 a8 a9 a10 : Int) (a11 : Bool) (l m : List Int) (hn : l.length + m.length ≤ 140737488355328) {k : Nat} (hk : l.length + m.length < k) : laws_toUpper.f k a0 a1 a2 a3 a4 a5 a6 a7 a8 a9 a10 a11 l m = some (a0, a1, a2, a3, a4, a5, a6, a7, a8, a9, a10, a11, l, m) := by
  unfold laws_toUpper.f
  rw [toByteS (by omega) (by omega), toByteS (by omega) (by omega)]
  rfl
theorem eqUpper (a0 a1 a2 a3 a4 a5 a6 a7 a8 a9 a10 : Int) (a11 : Bool) (l m : List Int) (hn : l.length + m.length ≤ 140737488355328) {k : Nat} (hk : l.length + m.length < k) : laws_eqUpper.f k a0 a1 a2 a3 a4 a5 a6 a7 a8 a9 a10 a11 l m a0 a1 a2 a3 a4 a5 a6 a7 a8 a9 a10 a11 l m = some true := by
  unfold laws_eqUpper.f
  simp only [if_true, bne_self_eq_false, Bool.false_eq_true, if_false, eqByteS (xs := l) (by omega) (k := k) (by omega), eqByteS (xs := m) (by omega) (k := k) (by omega), Option.bind_some]

def usize (k o b : Int) : Int := if k = 0 then b else if k = 1 then 20 + o + b else if k = 2 then 8 + b else if k = 3 then 8 + b else -1
theorem specUpperSize (a0 a1 a2 a3 a4 a5 a6 a7 a8 a9 a10 : Int) (a11 : Bool) (l m : List Int) (hn : l.length + m.length ≤ 1048576) : spec_UpperSize.f a0 a1 a2 a3 a4 a5 a6 a7 a8 a9 a10 a11 l m = some (usize a0 l.length m.length) := by
  unfold spec_UpperSize.f usize
  rw [w64 (n := 20 + (l.length : Int)) (by omega) (by omega), w64 (n := 20 + (l.length : Int) + m.length) (by omega) (by omega), w64 (n := 8 + (m.length : Int)) (by omega) (by omega)]
  repeat' split
  all_goals rfl
theorem implUpperSize (a0 a1 a2 a3 a4 a5 a6 a7 a8 a9 a10 : Int) (a11 : Bool) (l m : List Int) (hn : l.length + m.length ≤ 1048576) : impl_UpperSize.f a0 a1 a2 a3 a4 a5 a6 a7 a8 a9 a10 a11 l m = some (usize a0 l.length m.length) := by
  unfold impl_UpperSize.f impl_upperHead.f usize
  have w0 : wrap64 (m.length : Int) = m.length := w64 (by omega) (by omega)
  have w8 : wrap64 (8 + (m.length : Int)) = 8 + m.length := w64 (by omega) (by omega)
  have w20 : wrap64 (20 + (l.length : Int)) = 20 + l.length := w64 (by omega) (by omega)
  have w2m : wrap64 (20 + (l.length : Int) + m.length) = 20 + l.length + m.length := w64 (by omega) (by omega)
  by_cases h0 : a0 = 0
  · subst h0
    simp [w0]
  · by_cases h1 : a0 = 1
    · subst h1
      simp [w20, w2m]
    · by_cases h2 : a0 = 2
      · subst h2
        simp [w8]
      · by_cases h3 : a0 = 3
        · subst h3
          simp [w8]
        · simp [h0, h1, h2, h3]

end ExactUpperSize
open ExactUpperSize

theorem FnExactUpperSize : laws_FnExactUpperSize.Pure := by
  intro a0 a1 a2 a3 a4 a5 a6 a7 a8 a9 a10 a11 l m _ _ _ _ _ _ _ _ _ _ _ hl _ hm _
  refine ⟨l.length + m.length + 20, ?_⟩
  obtain ⟨r, hr, hc⟩ := szUpper a0 a1 a2 a3 a4 a5 a6 a7 a8 a9 a10 a11 l m hl hm
  unfold laws_FnExactUpperSize.f
  rw [hr]
  simp only [Option.bind_some]
  by_cases h : r < 0
  · rw [if_pos h]
  · have hn := hc h
    rw [if_neg h]
    simp only [toUpper a0 a1 a2 a3 a4 a5 a6 a7 a8 a9 a10 a11 l m (show l.length + m.length ≤ 140737488355328 by omega) (show l.length + m.length < l.length + m.length + 20 by omega), Option.bind_some,
      specUpperSize _ _ _ _ _ _ _ _ _ _ _ _ l m hn, implUpperSize _ _ _ _ _ _ _ _ _ _ _ _ l m hn, if_true,
      eqUpper a0 a1 a2 a3 a4 a5 a6 a7 a8 a9 a10 a11 l m (show l.length + m.length ≤ 140737488355328 by omega) (show l.length + m.length < l.length + m.length + 20 by omega)]

end Go.Proofs.Ytnpfhfckkjkifaa.Pure
