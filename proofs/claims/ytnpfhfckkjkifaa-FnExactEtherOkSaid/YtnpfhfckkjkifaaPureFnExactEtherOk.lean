/- The program's EtherOk returns what the reference's returns, for all arguments. No condition. -/
import Derived.Test.YtnpfhfckkjkifaaSFnExactEtherOk
import Derived.Test.YtnpfhfckkjkifaaBase
namespace Go.Proofs.Ytnpfhfckkjkifaa.Pure
open Go.RowKit Go.Proofs.Ytnpfhfckkjkifaa.FFnExactEtherOk Go.Proofs.YtnpfhfckkjkifaaW.PrintWords Go.Proofs.YtnpfhfckkjkifaaW.PrintLast Go.Proofs.YtnpfhfckkjkifaaW.PrintMore Go.Proofs.Ytnpfhfckkjkifaa.Base

set_option linter.unusedVariables false
set_option linter.unusedSimpArgs false
namespace ExactEtherOk
theorem toByteS_l (xs : List Int) (hn : xs.length ≤ 140737488355328) (d : Nat) : ∀ (k : Nat) (ys : List Int) (i : Int), 0 ≤ i → i + d = xs.length → d < k → ys.length = xs.length → (∀ j : Nat, (j : Int) < i → ys[j]? = xs[j]?) → laws_toByteS.l0 k xs ys i = some xs := by
  induction d with
  | zero =>
    intro k ys i h0 hi hk hl hj
    obtain ⟨k, rfl⟩ := pos_k hk
    simp only [laws_toByteS.l0]
    rw [if_neg (by omega)]
    congr 1
    apply List.ext_getElem?
    intro j
    by_cases h : (j : Int) < i
    · exact hj j h
    · rw [List.getElem?_eq_none (by omega), List.getElem?_eq_none (by omega)]
  | succ d ih =>
    intro k ys i h0 hi hk hl hj
    obtain ⟨k, rfl⟩ := pos_k hk
    simp only [laws_toByteS.l0]
    rw [if_pos (by omega), if_pos (by omega), if_pos (by omega), w64 (by omega) (by omega)]
    refine ih k _ (i + 1) (by omega) (by omega) (by omega) (by rw [List.length_set]; omega) ?_
    intro j hj'
    by_cases h : (j : Int) = i
    · have e : i.toNat = j := by omega
      rw [e, List.getElem?_set_self (by omega), ← h, ← rd_get? (by omega) (by omega)]
      rfl
    · rw [List.getElem?_set_ne (by omega)]
      exact hj j (by omega)
theorem toByteS {xs : List Int} (hn : xs.length ≤ 140737488355328) {k : Nat} (hk : xs.length < k) : laws_toByteS.f k xs = some xs := by
  unfold laws_toByteS.f
  rw [if_pos (by omega), if_pos (by omega)]
  exact toByteS_l xs hn xs.length k _ 0 (by omega) (by omega) hk (by simp) (fun j hj => by omega)

theorem eqByteS_l (xs : List Int) (hn : xs.length ≤ 140737488355328) (d : Nat) : ∀ (k : Nat) (i : Int), 0 ≤ i → i + d = xs.length → d < k → laws_eqByteS.l0 k xs xs i = some true := by
  induction d with
  | zero =>
    intro k i h0 hi hk
    obtain ⟨k, rfl⟩ := pos_k hk
    simp only [laws_eqByteS.l0]
    rw [if_neg (by omega)]
  | succ d ih =>
    intro k i h0 hi hk
    obtain ⟨k, rfl⟩ := pos_k hk
    simp only [laws_eqByteS.l0]
    rw [if_pos (by omega), if_pos (by omega), if_pos (by omega), if_pos (by first | rfl | trivial), w64 (by omega) (by omega)]
    exact ih k (i + 1) (by omega) (by omega) (by omega)
theorem eqByteS {xs : List Int} (hn : xs.length ≤ 140737488355328) {k : Nat} (hk : xs.length < k) : laws_eqByteS.f k xs xs = some true := by
  unfold laws_eqByteS.f
  rw [if_pos rfl]
  exact eqByteS_l xs hn xs.length k 0 (by omega) (by omega) hk

theorem szByteS (l : List Int) (a : Int) (h0 : 0 ≤ a) (h1 : a ≤ 1048576) (hl : l.length ≤ maxLen) : laws_szByteS.f l a = some (if a - l.length < 0 then -1 else a - l.length) := by
  unfold maxLen at hl
  unfold laws_szByteS.f
  rw [w64 (by omega) (by omega)]
  by_cases h : a - l.length < 0
  · rw [if_pos h, if_pos h]
  · rw [if_neg h, if_neg h]

theorem szEther (a0 a1 a2 a3 : Int) (l : List Int) (hl : l.length ≤ maxLen) : ∃ r, laws_szEther.f a0 a1 a2 a3 l 1048576 = some r ∧ (¬ r < 0 → l.length ≤ 1048576) := by
  unfold laws_szEther.f
  rw [szByteS l _ (by omega) (by omega) hl]
  simp only [Option.bind_some]
  by_cases h : (1048576 : Int) - l.length < 0
  · rw [if_pos h, if_pos (by decide)]
    exact ⟨-1, rfl, fun hh => absurd (by decide) hh⟩
  · rw [if_neg h, if_neg h]
    exact ⟨_, rfl, fun _ => by omega⟩
theorem toEther (a0 a1 a2 a3 : Int) (l : List Int) (hn : l.length ≤ 140737488355328) {k : Nat} (hk : l.length < k) : laws_toEther.f k a0 a1 a2 a3 l = some (a0, a1, a2, a3, l) := by
  unfold laws_toEther.f
  rw [toByteS hn hk]
  rfl
theorem eqEther (a0 a1 a2 a3 : Int) (l : List Int) (hn : l.length ≤ 140737488355328) {k : Nat} (hk : l.length < k) : laws_eqEther.f k a0 a1 a2 a3 l a0 a1 a2 a3 l = some true := by
  unfold laws_eqEther.f
  simp only [if_true, eqByteS hn hk, Option.bind_some]

def EtherOK (d s t k n : Int) : Prop := (0 ≤ d ∧ d ≤ 281474976710655) ∧ (0 ≤ s ∧ s ≤ 281474976710655) ∧ (-1 ≤ t ∧ t ≤ 65535) ∧ (1536 ≤ k ∧ k ≤ 65535 ∧ k ≠ 33024) ∧ (t ≥ 0 → n ≤ 1582) ∧ (t < 0 → n ≤ 1586)
instance (d s t k n : Int) : Decidable (EtherOK d s t k n) := by unfold EtherOK; infer_instance
theorem specEtherOk {m : Nat} (hm : 0 < m) (d s t k : Int) (l : List Int) : spec_EtherOk.f m d s t k l = some (decide (EtherOK d s t k l.length)) := by
  obtain ⟨m, rfl⟩ := pos_k hm
  unfold spec_EtherOk.f
  simp only [spec_EtherOk.j0, if_true]
  repeat' split
  all_goals refine some_decide ?_
  all_goals unfold EtherOK
  all_goals (simp only [decide_eq_true_eq, Bool.false_eq_true, false_iff] at *; omega)
theorem implEtherOk (d s t k : Int) (l : List Int) (hl : l.length ≤ 1048576) : impl_EtherOk.f d s t k l = some (decide (EtherOK d s t k l.length)) := by
  unfold impl_EtherOk.f impl_isKind.f impl_within.f impl_headOf.f
  have hw : ∀ n : Int, 0 ≤ n → n ≤ 18 → wrap64 (n + l.length) = n + l.length := fun n h0 h1 => w64 (by omega) (by omega)
  by_cases h1 : d ≥ 0 <;> by_cases h2 : d ≤ 281474976710655 <;> by_cases h3 : s ≥ 0 <;> by_cases h4 : s ≤ 281474976710655 <;> simp only [h1, h2, h3, h4, if_true, if_false, decide_true, decide_false, Option.bind_some, Bool.false_eq_true]
  all_goals first | (refine some_decide ?_; unfold EtherOK; simp only [Bool.false_eq_true, false_iff]; omega) | skip
  by_cases h5 : t ≥ -1 <;> by_cases h6 : t ≤ 65535 <;> by_cases h7 : k ≥ 1536 <;> by_cases h8 : k ≤ 65535 <;> simp only [h5, h6, h7, h8, if_true, if_false, decide_true, decide_false, Option.bind_some, Bool.false_eq_true]
  all_goals first | (refine some_decide ?_; unfold EtherOK; simp only [Bool.false_eq_true, false_iff]; omega) | skip
  by_cases h9 : k = 33024 <;> by_cases h10 : t ≥ 0 <;> simp only [h9, h10, bne_self_eq_false, bne_iff_ne, ne_eq, not_true_eq_false, not_false_eq_true, Bool.false_eq_true, if_true, if_false, Option.bind_some, hw 18 (by omega) (by omega), hw 14 (by omega) (by omega)]
  all_goals (refine some_decide ?_; unfold EtherOK; simp only [Bool.false_eq_true, false_iff, decide_eq_true_eq]; omega)

end ExactEtherOk
open ExactEtherOk

theorem FnExactEtherOk : laws_FnExactEtherOk.Pure := by
  intro a0 a1 a2 a3 l4 h0 h1 h2 h3 hl hu
  refine ⟨l4.length + 20, ?_⟩
  obtain ⟨r, hr, hc⟩ := szEther a0 a1 a2 a3 l4 hl
  unfold laws_FnExactEtherOk.f
  rw [hr]
  simp only [Option.bind_some]
  by_cases h : r < 0
  · rw [if_pos h]
  · have hn := hc h
    rw [if_neg h]
    simp only [toEther a0 a1 a2 a3 l4 (show l4.length ≤ 140737488355328 by omega) (show l4.length < l4.length + 20 by omega), Option.bind_some,
      specEtherOk (show 0 < l4.length + 20 by omega), implEtherOk _ _ _ _ _ (show l4.length ≤ 1048576 by omega), bne_self_eq_false, Bool.false_eq_true, if_false,
      eqEther a0 a1 a2 a3 l4 (show l4.length ≤ 140737488355328 by omega) (show l4.length < l4.length + 20 by omega), if_true]

end Go.Proofs.Ytnpfhfckkjkifaa.Pure
