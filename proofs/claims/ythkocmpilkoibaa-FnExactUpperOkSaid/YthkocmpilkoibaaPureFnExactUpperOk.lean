/- The program's UpperOk returns what the reference's returns, for all arguments. No condition. -/
import Derived.Test.YthkocmpilkoibaaSFnExactUpperOk
import Derived.Test.YthkocmpilkoibaaBase
namespace Go.Proofs.Ythkocmpilkoibaa.Pure
open Go.RowKit Go.Proofs.Ythkocmpilkoibaa.FFnExactUpperOk Go.Proofs.YthkocmpilkoibaaW.PrintWords Go.Proofs.YthkocmpilkoibaaW.PrintLast Go.Proofs.YthkocmpilkoibaaW.PrintMore Go.Proofs.Ythkocmpilkoibaa.Base

set_option linter.unusedVariables false
set_option linter.unusedSimpArgs false
namespace ExactUpperOk
theorem toByteS_l (xs : List Int) (hn : xs.length ≤ 140737488355328) (d : Nat) : ∀ (k : Nat) (ys : List Int) (i : Int), 0 ≤ i → i + d = xs.length → d < k → ys.length = xs.length → (∀ j : Nat, (j : Int) < i → ys[j]? = xs[j]?) → laws_toByteS.l0 k xs ys i = some xs := by
  induction d with
  | zero =>
    intro k ys i h0 hi hk hl hj
    obtain ⟨k, rfl⟩ := pos_k hk
    simp only [laws_toByteS.l0]
    rw [if_neg (by omega)]
    congr 1
    apply List.ext_getElem?
    intro j
    by_cases h : (j : Int) < i
    · exact hj j h
    · rw [List.getElem?_eq_none (by omega), List.getElem?_eq_none (by omega)]
  | succ d ih =>
    intro k ys i h0 hi hk hl hj
    obtain ⟨k, rfl⟩ := pos_k hk
    simp only [laws_toByteS.l0]
    rw [if_pos (by omega), if_pos (by omega), if_pos (by omega), w64 (by omega) (by omega)]
    refine ih k _ (i + 1) (by omega) (by omega) (by omega) (by rw [List.length_set]; omega) ?_
    intro j hj'
    by_cases h : (j : Int) = i
    · have e : i.toNat = j := by omega
      rw [e, List.getElem?_set_self (by omega), ← h, ← rd_get? (by omega) (by omega)]
      rfl
    · rw [List.getElem?_set_ne (by omega)]
      exact hj j (by omega)
theorem toByteS {xs : List Int} (hn : xs.length ≤ 140737488355328) {k : Nat} (hk : xs.length < k) : laws_toByteS.f k xs = some xs := by
  unfold laws_toByteS.f
  rw [if_pos (by omega), if_pos (by omega)]
  exact toByteS_l xs hn xs.length k _ 0 (by omega) (by omega) hk (by simp) (fun j hj => by omega)

theorem eqByteS_l (xs : List Int) (hn : xs.length ≤ 140737488355328) (d : Nat) : ∀ (k : Nat) (i : Int), 0 ≤ i → i + d = xs.length → d < k → laws_eqByteS.l0 k xs xs i = some true := by
  induction d with
  | zero =>
    intro k i h0 hi hk
    obtain ⟨k, rfl⟩ := pos_k hk
    simp only [laws_eqByteS.l0]
    rw [if_neg (by omega)]
  | succ d ih =>
    intro k i h0 hi hk
    obtain ⟨k, rfl⟩ := pos_k hk
    simp only [laws_eqByteS.l0]
    rw [if_pos (by omega), if_pos (by omega), if_pos (by omega), if_pos (by first | rfl | trivial), w64 (by omega) (by omega)]
    exact ih k (i + 1) (by omega) (by omega) (by omega)
theorem eqByteS {xs : List Int} (hn : xs.length ≤ 140737488355328) {k : Nat} (hk : xs.length < k) : laws_eqByteS.f k xs xs = some true := by
  unfold laws_eqByteS.f
  rw [if_pos rfl]
  exact eqByteS_l xs hn xs.length k 0 (by omega) (by omega) hk

theorem szByteS (l : List Int) (a : Int) (h0 : 0 ≤ a) (h1 : a ≤ 1048576) (hl : l.length ≤ maxLen) : laws_szByteS.f l a = some (if a - l.length < 0 then -1 else a - l.length) := by
  unfold maxLen at hl
  unfold laws_szByteS.f
  rw [w64 (by omega) (by omega)]
  by_cases h : a - l.length < 0
  · rw [if_pos h, if_pos h]
  · rw [if_neg h, if_neg h]

theorem szUpper (a0 a1 a2 a3 a4 a5 a6 a7 a8 a9 a10 : Int) (a11 : Bool) (l m : List Int) (hl : l.length ≤ maxLen) (hm : m.length ≤ maxLen) : ∃ r, laws_szUpper.f a0 a1 a2 a3 a4 a5 a6 a7 a8 a9 a10 a11 l m 1048576 = some r ∧ (¬ r < 0 → l.length + m.length ≤ 1048576) := by
  unfold laws_szUpper.f
  rw [szByteS l _ (by omega) (by omega) hl]
  simp only [Option.bind_some]
  by_cases h : (1048576 : Int) - l.length < 0
  · rw [if_pos h, if_pos (by decide)]
    exact ⟨-1, rfl, fun hh => absurd (by decide) hh⟩
  · rw [if_neg h, if_neg h, szByteS m _ (by omega) (by omega) hm]
    simp only [Option.bind_some]
    by_cases h' : (1048576 : Int) - l.length - m.length < 0
    · rw [if_pos h', if_pos (by decide)]
      exact ⟨-1, rfl, fun hh => absurd (by decide) hh⟩
    · rw [if_neg h', if_neg h']
      exact ⟨_, rfl, fun _ => by omega⟩
theorem toUpper (a0 a1 a2 a3 a4 a5 a6 a7 a8 a9 a10 : Int) (a11 : Bool) (l m : List Int) (hn : l.length + m.length ≤ 140737488355328) {k : Nat} (hk : l.length + m.length < k) : laws_toUpper.f k a0 a1 a2 a3 a4 a5 a6 a7 a8 a9 a10 a11 l m = some (a0, a1, a2, a3, a4, a5, a6, a7, a8, a9, a10, a11, l, m) := by
  unfold laws_toUpper.f
  rw [toByteS (by omega) (by omega), toByteS (by omega) (by omega)]
  rfl
theorem eqUpper (a0 a1 a2 a3 a4 a5 a6 a7 a8 a9 a10 : Int) (a11 : Bool) (l m : List Int) (hn : l.length + m.length ≤ 140737488355328) {k : Nat} (hk : l.length + m.length < k) : laws_eqUpper.f k a0 a1 a2 a3 a4 a5 a6 a7 a8 a9 a10 a11 l m a0 a1 a2 a3 a4 a5 a6 a7 a8 a9 a10 a11 l m = some true := by
  unfold laws_eqUpper.f
  simp only [if_true, bne_self_eq_false, Bool.false_eq_true, if_false, eqByteS (xs := l) (by omega) (k := k) (by omega), eqByteS (xs := m) (by omega) (k := k) (by omega), Option.bind_some]

def usize (k o b : Int) : Int := if k = 0 then b else if k = 1 then 20 + o + b else if k = 2 then 8 + b else if k = 3 then 8 + b else -1
theorem specUpperSize (a0 a1 a2 a3 a4 a5 a6 a7 a8 a9 a10 : Int) (a11 : Bool) (l m : List Int) (hn : l.length + m.length ≤ 1048576) : spec_UpperSize.f a0 a1 a2 a3 a4 a5 a6 a7 a8 a9 a10 a11 l m = some (usize a0 l.length m.length) := by
  unfold spec_UpperSize.f usize
  rw [w64 (n := 20 + (l.length : Int)) (by omega) (by omega), w64 (n := 20 + (l.length : Int) + m.length) (by omega) (by omega), w64 (n := 8 + (m.length : Int)) (by omega) (by omega)]
  repeat' split
  all_goals rfl
theorem implUpperSize (a0 a1 a2 a3 a4 a5 a6 a7 a8 a9 a10 : Int) (a11 : Bool) (l m : List Int) (hn : l.length + m.length ≤ 1048576) : impl_UpperSize.f a0 a1 a2 a3 a4 a5 a6 a7 a8 a9 a10 a11 l m = some (usize a0 l.length m.length) := by
  unfold impl_UpperSize.f impl_upperHead.f usize
  have w0 : wrap64 (m.length : Int) = m.length := w64 (by omega) (by omega)
  have w8 : wrap64 (8 + (m.length : Int)) = 8 + m.length := w64 (by omega) (by omega)
  have w20 : wrap64 (20 + (l.length : Int)) = 20 + l.length := w64 (by omega) (by omega)
  have w2m : wrap64 (20 + (l.length : Int) + m.length) = 20 + l.length + m.length := w64 (by omega) (by omega)
  by_cases h0 : a0 = 0
  · subst h0
    simp [w0]
  · by_cases h1 : a0 = 1
    · subst h1
      simp [w20, w2m]
    · by_cases h2 : a0 = 2
      · subst h2
        simp [w8]
      · by_cases h3 : a0 = 3
        · subst h3
          simp [w8]
        · simp [h0, h1, h2, h3]

theorem specIn (n m : Int) : spec_l05In.f n m = some (decide (0 ≤ n ∧ n ≤ m)) := by
  unfold spec_l05In.f
  by_cases h : n ≥ 0
  · rw [if_pos h]
    simp [h]
  · rw [if_neg h]
    simp [h]

theorem within (n lo hi : Int) : impl_within.f n lo hi = some (decide (lo ≤ n ∧ n ≤ hi)) := by
  unfold impl_within.f
  by_cases h : n ≥ lo
  · rw [if_pos h]
    simp [h]
  · rw [if_neg h]
    simp [h]

theorem isWord (n : Int) : impl_isWord.f n = some (decide (0 ≤ n ∧ n ≤ 65535)) := by
  unfold impl_isWord.f impl_within.f
  by_cases h : n ≥ 0
  · rw [if_pos h]
    simp [h]
  · rw [if_neg h]
    simp [h]

theorem isByte (n : Int) : impl_isByte.f n = some (decide (0 ≤ n ∧ n ≤ 255)) := by
  unfold impl_isByte.f impl_within.f
  by_cases h : n ≥ 0
  · rw [if_pos h]
    simp [h]
  · rw [if_neg h]
    simp [h]

theorem areWords_l (xs : List Int) (hn : xs.length ≤ 140737488355328) (d : Nat) : ∀ (k : Nat) (i : Int), 0 ≤ i → i + d = xs.length → d < k → impl_areWords.l0 k xs xs.length i = some (decide (∀ x ∈ xs.drop i.toNat, 0 ≤ x ∧ x ≤ 65535)) := by
  induction d with
  | zero =>
    intro k i h0 hi hk
    obtain ⟨k, rfl⟩ := pos_k hk
    simp only [impl_areWords.l0]
    rw [if_neg (by omega), List.drop_eq_nil_of_le (by omega)]
    simp
  | succ d ih =>
    intro k i h0 hi hk
    obtain ⟨k, rfl⟩ := pos_k hk
    simp only [impl_areWords.l0]
    rw [if_pos (by omega), if_pos (by omega), if_pos (by omega), isWord, drop_rd h0 (by omega)]
    simp only [Option.bind_some]
    rw [w64 (by omega) (by omega), ih k (i + 1) (by omega) (by omega) (by omega)]
    by_cases h : 0 ≤ rd xs i ∧ rd xs i ≤ 65535
    · rw [decide_eq_true h, if_pos (by first | rfl | trivial)]
      simp [h]
    · rw [decide_eq_false h, if_neg Bool.false_ne_true]
      have : ¬ ∀ x ∈ rd xs i :: xs.drop (i + 1).toNat, 0 ≤ x ∧ x ≤ 65535 := fun hh => h (hh _ (by simp))
      rw [decide_eq_false this]
theorem areWords {xs : List Int} (hn : xs.length ≤ 140737488355328) {k : Nat} (hk : xs.length < k) : impl_areWords.f k xs = some (decide (∀ x ∈ xs, 0 ≤ x ∧ x ≤ 65535)) := by
  unfold impl_areWords.f
  rw [areWords_l xs hn xs.length k 0 (by omega) (by omega) hk]
  rfl

theorem areWords2 {a b : Int} {k : Nat} (hk : 10 ≤ k) : impl_areWords.f k [a, b] = some (inB a 0 65535 && inB b 0 65535) := by
  rw [areWords (by simp) (by simp; omega)]
  congr 1
  unfold inB
  rw [Bool.eq_iff_iff]
  simp

def upK (k : Int) : Bool := decide (k = 4 ∨ k = 6)
def upPorts (a b : Int) : Bool := decide ((0 ≤ a ∧ a ≤ 65535) ∧ (0 ≤ b ∧ b ≤ 65535))
def upZP (a b : Int) : Bool := decide (a = 0 ∧ b = 0)
def upTcp (a3 a4 a5 a6 a7 : Int) (l : List Int) : Bool := decide ((0 ≤ a3 ∧ a3 ≤ 4294967295) ∧ (0 ≤ a4 ∧ a4 ≤ 4294967295) ∧ (0 ≤ a5 ∧ a5 ≤ 4095) ∧ (0 ≤ a6 ∧ a6 ≤ 65535) ∧ (0 ≤ a7 ∧ a7 ≤ 65535) ∧ (l.length : Int) ≤ 40 ∧ (l.length : Int) % 4 = 0)
def upZT (a3 a4 a5 a6 a7 : Int) (l : List Int) : Bool := decide (a3 = 0 ∧ a4 = 0 ∧ a5 = 0 ∧ a6 = 0 ∧ a7 = 0 ∧ (l.length : Int) = 0)
def upIc (a8 a9 a10 : Int) : Bool := decide ((0 ≤ a8 ∧ a8 ≤ 255) ∧ (0 ≤ a9 ∧ a9 ≤ 255) ∧ (0 ≤ a10 ∧ a10 ≤ 4294967295))
def upZI (a8 a9 a10 : Int) : Bool := decide (a8 = 0 ∧ a9 = 0 ∧ a10 = 0)
def upSz (a0 o b : Int) : Bool := decide (0 ≤ usize a0 o b ∧ usize a0 o b ≤ 1500)
/-- Whether an upper packet is right. -/
def upV (a0 a1 a2 a3 a4 a5 a6 a7 a8 a9 a10 : Int) (a11 : Bool) (l : List Int) (b k : Int) : Bool :=
  upK k && upSz a0 l.length b && (if a0 = 1 then upPorts a1 a2 && upTcp a3 a4 a5 a6 a7 l && upZI a8 a9 a10 && !a11
    else if a0 = 2 then upPorts a1 a2 && upZT a3 a4 a5 a6 a7 l && upZI a8 a9 a10 && (!a11 || decide (k = 4))
    else if a0 = 3 then upZP a1 a2 && upZT a3 a4 a5 a6 a7 l && upIc a8 a9 a10 && !a11
    else upZP a1 a2 && upZT a3 a4 a5 a6 a7 l && upZI a8 a9 a10 && !a11)
theorem specHalf (n : Int) : spec_l03Half.f n = some (decide (0 ≤ n ∧ n ≤ 4294967295)) := by
  unfold spec_l03Half.f
  by_cases h : n ≥ 0
  · rw [if_pos h]
    simp [h]
  · rw [if_neg h]
    simp [h]
theorem isLong (n : Int) : impl_isLong.f n = some (decide (0 ≤ n ∧ n ≤ 4294967295)) := by
  unfold impl_isLong.f
  rw [within, Option.bind_some]
theorem upS1 (k : Int) : spec_UpperOk.F1 k = some (!upK k) := by
  unfold spec_UpperOk.F1 upK
  repeat' split
  all_goals simp <;> omega
theorem upS3 (a : Int) : spec_UpperOk.F3 a = some (decide (a = 1 ∨ a = 2)) := by
  unfold spec_UpperOk.F3
  repeat' split
  all_goals simp <;> omega
theorem upS4 (a b : Int) (c : Bool) : spec_UpperOk.F4 a b c = some (!(upPorts a b && (c || upZP a b))) := by
  unfold spec_UpperOk.F4 upPorts upZP
  simp only [specIn, Option.bind_some, decide_eq_true_eq]
  cases c
  all_goals simp only [Bool.false_eq_true, if_false, if_true]
  all_goals (repeat' split)
  all_goals (congr 1; rw [Bool.eq_iff_iff]; simp only [Bool.not_eq_true', Bool.and_eq_false_iff, Bool.or_eq_false_iff, decide_eq_false_iff_not, Bool.true_or, Bool.false_or, Bool.and_true, Bool.false_eq_true, false_iff, true_iff, reduceCtorEq, or_false]; omega)
theorem upS7 (a3 a4 a5 a6 a7 : Int) (l : List Int) : spec_UpperOk.F7 a3 a4 a5 a6 a7 l = some (!upTcp a3 a4 a5 a6 a7 l) := by
  unfold spec_UpperOk.F7 upTcp
  simp only [specIn, specHalf, Option.bind_some, decide_eq_true_eq]
  repeat' split
  all_goals simp <;> omega
theorem upS9 (a3 a4 a5 a6 a7 : Int) (l : List Int) : spec_UpperOk.F9 a3 a4 a5 a6 a7 l = some (!upZT a3 a4 a5 a6 a7 l) := by
  unfold spec_UpperOk.F9 upZT
  generalize (l.length : Int) = n
  repeat' split
  all_goals simp <;> omega
theorem upS12 (a8 a9 a10 : Int) : spec_UpperOk.F12 a8 a9 a10 = some (!upIc a8 a9 a10) := by
  unfold spec_UpperOk.F12 upIc
  simp only [specIn, specHalf, Option.bind_some, decide_eq_true_eq]
  repeat' split
  all_goals simp <;> omega
theorem upS14 (a8 a9 a10 : Int) : spec_UpperOk.F14 a8 a9 a10 = some (!upZI a8 a9 a10) := by
  unfold spec_UpperOk.F14 upZI
  repeat' split
  all_goals simp <;> omega
theorem upS16 (a0 : Int) (b : Bool) (k : Int) : spec_UpperOk.F16 a0 b k = some (b && !(decide (a0 = 2) && decide (k = 4))) := by
  unfold spec_UpperOk.F16
  cases b
  · rfl
  · repeat' split
    all_goals simp [*] at *
theorem upZP_ports {a b : Int} (h : upZP a b = true) : upPorts a b = true := by
  unfold upZP at h
  unfold upPorts
  simp only [decide_eq_true_eq] at h ⊢
  omega
theorem upSz_bad {a0 o b : Int} (h0 : a0 ≠ 0) (h1 : a0 ≠ 1) (h2 : a0 ≠ 2) (h3 : a0 ≠ 3) : upSz a0 o b = false := by
  unfold upSz usize
  rw [if_neg h0, if_neg h1, if_neg h2, if_neg h3]
  decide
theorem upSz_ite (u : Int) : (if u ≥ 0 then (if u ≤ 1500 then (some true : Option Bool) else some false) else some false) = some (decide (0 ≤ u ∧ u ≤ 1500)) := by
  repeat' split
  all_goals simp <;> omega
theorem specUpperOk (a0 a1 a2 a3 a4 a5 a6 a7 a8 a9 a10 : Int) (a11 : Bool) (l m : List Int) (k : Int) (hn : l.length + m.length ≤ 1048576) : spec_UpperOk.f a0 a1 a2 a3 a4 a5 a6 a7 a8 a9 a10 a11 l m k = some (upV a0 a1 a2 a3 a4 a5 a6 a7 a8 a9 a10 a11 l m.length k) := by
  unfold spec_UpperOk.f
  simp only [upS1, upS3, upS4, upS7, upS9, upS12, upS14, upS16, specUpperSize _ _ _ _ _ _ _ _ _ _ _ _ l m hn, Option.bind_some, upSz_ite]
  unfold upV
  have hz := @upZP_ports a1 a2
  have hs : decide (0 ≤ usize a0 (l.length : Int) (m.length : Int) ∧ usize a0 (l.length : Int) (m.length : Int) ≤ 1500) = upSz a0 l.length m.length := rfl
  simp only [hs]
  by_cases h1 : a0 = 1
  · subst h1
    generalize upSz 1 _ _ = z
    generalize upTcp a3 a4 a5 a6 a7 l = t
    generalize upZI a8 a9 a10 = i
    generalize upPorts a1 a2 = p
    generalize upK k = q
    cases z <;> cases t <;> cases i <;> cases p <;> cases q <;> cases a11 <;> rfl
  · by_cases h2 : a0 = 2
    · subst h2
      generalize upSz 2 _ _ = z
      generalize upZT a3 a4 a5 a6 a7 l = t
      generalize upZI a8 a9 a10 = i
      generalize upPorts a1 a2 = p
      generalize upK k = q
      generalize decide (k = 4) = x
      cases z <;> cases t <;> cases i <;> cases p <;> cases q <;> cases a11 <;> cases x <;> rfl
    · have hd : decide (a0 = 1 ∨ a0 = 2) = false := decide_eq_false (by omega)
      have hd2 : decide (a0 = 2) = false := decide_eq_false h2
      rw [hd, hd2]
      simp only [if_neg h1, if_neg h2]
      by_cases h3 : a0 = 3
      · subst h3
        simp only [if_true]
        generalize upSz 3 _ _ = z
        generalize upZT a3 a4 a5 a6 a7 l = t
        generalize upIc a8 a9 a10 = i
        generalize upPorts a1 a2 = p at hz ⊢
        generalize upZP a1 a2 = y at hz ⊢
        generalize upK k = q
        cases z <;> cases t <;> cases i <;> cases p <;> cases y <;> cases q <;> cases a11 <;> first | rfl | exact absurd (hz rfl) (by decide)
      · simp only [if_neg h3]
        generalize upSz a0 _ _ = z
        generalize upZT a3 a4 a5 a6 a7 l = t
        generalize upZI a8 a9 a10 = i
        generalize upPorts a1 a2 = p at hz ⊢
        generalize upZP a1 a2 = y at hz ⊢
        generalize upK k = q
        cases z <;> cases t <;> cases i <;> cases p <;> cases y <;> cases q <;> cases a11 <;> first | rfl | exact absurd (hz rfl) (by decide)
theorem upI1 (a0 a1 a2 a3 a4 a5 a6 a7 a8 a9 a10 : Int) (a11 : Bool) (l m : List Int) (k : Int) (hn : l.length + m.length ≤ 1048576) : impl_UpperOk.F1 a0 a1 a2 a3 a4 a5 a6 a7 a8 a9 a10 a11 l m k = some (!(upK k && upSz a0 l.length m.length)) := by
  unfold impl_UpperOk.F1 upK upSz
  simp only [implUpperSize _ _ _ _ _ _ _ _ _ _ _ _ l m hn, Option.bind_some]
  generalize usize _ _ _ = u
  repeat' split
  all_goals simp <;> omega
theorem upI4 {f : Nat} (hf : 10 ≤ f) (a3 a4 a5 a6 a7 : Int) (l : List Int) : impl_UpperOk.F4 f a3 a4 a5 a6 a7 l = some (upTcp a3 a4 a5 a6 a7 l) := by
  unfold impl_UpperOk.F4 upTcp
  simp only [areWords2 hf, inB, isLong, within, Option.bind_some, Bool.and_eq_true, decide_eq_true_eq]
  generalize (l.length : Int) = n
  repeat' split
  all_goals simp <;> omega
theorem upI5 (a8 a9 a10 : Int) : impl_UpperOk.F5 a8 a9 a10 = some (upIc a8 a9 a10) := by
  unfold impl_UpperOk.F5 upIc
  simp only [isByte, isLong, Option.bind_some, decide_eq_true_eq]
  repeat' split
  all_goals (congr 1; rw [Bool.eq_iff_iff]; simp only [decide_eq_true_eq, Bool.false_eq_true, false_iff]; omega)
theorem areZero {xs : List Int} (h : xs.length ≤ 100) : impl_areZero.f xs = some (!xs.any (· != 0)) := by
  unfold impl_areZero.f
  rw [if_pos (by omega)]
theorem zero3 (a b c : Int) : impl_areZero.f [a, b, c] = some (upZI a b c) := by
  rw [areZero (by simp)]
  unfold upZI
  congr 1
  rw [Bool.eq_iff_iff]
  simp
theorem zero9 (a b c d e f g h i : Int) (l : List Int) (hi : i = l.length) : impl_areZero.f [a, b, c, d, e, f, g, h, i] = some (upZT a b c d e l && upZI f g h) := by
  rw [areZero (by simp)]
  unfold upZI upZT
  congr 1
  rw [Bool.eq_iff_iff]
  simp only [List.any_cons, List.any_nil, Bool.or_false, Bool.not_eq_true', Bool.or_eq_false_iff, bne_eq_false_iff_eq, Bool.and_eq_true, decide_eq_true_eq]
  omega
theorem zero8 (a b c d e f g i : Int) (l : List Int) (hi : i = l.length) : impl_areZero.f [a, b, c, d, e, f, g, i] = some (upZP a b && upZT c d e f g l) := by
  rw [areZero (by simp)]
  unfold upZP upZT
  congr 1
  rw [Bool.eq_iff_iff]
  simp only [List.any_cons, List.any_nil, Bool.or_false, Bool.not_eq_true', Bool.or_eq_false_iff, bne_eq_false_iff_eq, Bool.and_eq_true, decide_eq_true_eq]
  omega
theorem zero11 (a b c d e f g h j n i : Int) (l : List Int) (hi : i = l.length) : impl_areZero.f [a, b, c, d, e, f, g, h, j, n, i] = some (upZP a b && upZT c d e f g l && upZI h j n) := by
  rw [areZero (by simp)]
  unfold upZP upZT upZI
  congr 1
  rw [Bool.eq_iff_iff]
  simp only [List.any_cons, List.any_nil, Bool.or_false, Bool.not_eq_true', Bool.or_eq_false_iff, bne_eq_false_iff_eq, Bool.and_eq_true, decide_eq_true_eq]
  omega
theorem words2 {f : Nat} (hf : 10 ≤ f) (a b : Int) : impl_areWords.f f [a, b] = some (upPorts a b) := by
  rw [areWords2 hf]
  unfold inB upPorts
  congr 1
  rw [Bool.eq_iff_iff]
  simp
theorem implUpperOk {f : Nat} (hf : 10 ≤ f) (a0 a1 a2 a3 a4 a5 a6 a7 a8 a9 a10 : Int) (a11 : Bool) (l m : List Int) (k : Int) (hn : l.length + m.length ≤ 1048576) : impl_UpperOk.f f a0 a1 a2 a3 a4 a5 a6 a7 a8 a9 a10 a11 l m k = some (upV a0 a1 a2 a3 a4 a5 a6 a7 a8 a9 a10 a11 l m.length k) := by
  unfold impl_UpperOk.f
  simp only [upI1 _ _ _ _ _ _ _ _ _ _ _ _ l m k hn, upI4 hf, upI5, words2 hf, zero3, zero9 _ _ _ _ _ _ _ _ _ l rfl, zero8 _ _ _ _ _ _ _ _ l rfl, zero11 _ _ _ _ _ _ _ _ _ _ _ l rfl, Option.bind_some]
  unfold upV
  by_cases h1 : a0 = 1
  · subst h1
    generalize upSz 1 _ _ = z
    generalize upTcp a3 a4 a5 a6 a7 l = t
    generalize upZI a8 a9 a10 = i
    generalize upPorts a1 a2 = p
    generalize upK k = q
    cases z <;> cases t <;> cases i <;> cases p <;> cases q <;> cases a11 <;> rfl
  · by_cases h2 : a0 = 2
    · subst h2
      have hk : ∀ b : Option Bool, (if k = 4 then (some true : Option Bool) else some false) = some (decide (k = 4)) := fun _ => by split <;> simp [*]
      simp only [hk none]
      generalize decide (k = 4) = x
      generalize upSz 2 _ _ = z
      generalize upZT a3 a4 a5 a6 a7 l = t
      generalize upZI a8 a9 a10 = i
      generalize upPorts a1 a2 = p
      generalize upK k = q
      cases z <;> cases t <;> cases i <;> cases p <;> cases q <;> cases a11 <;> cases x <;> rfl
    · simp only [if_neg h1, if_neg h2]
      by_cases h3 : a0 = 3
      · subst h3
        simp only [if_true]
        generalize upSz 3 _ _ = z
        generalize upZT a3 a4 a5 a6 a7 l = t
        generalize upIc a8 a9 a10 = i
        generalize upZP a1 a2 = y
        generalize upK k = q
        cases z <;> cases t <;> cases i <;> cases y <;> cases q <;> cases a11 <;> rfl
      · simp only [if_neg h3]
        generalize upSz a0 _ _ = z
        generalize upZT a3 a4 a5 a6 a7 l = t
        generalize upZI a8 a9 a10 = i
        generalize upZP a1 a2 = y
        generalize upK k = q
        cases z <;> cases t <;> cases i <;> cases y <;> cases q <;> cases a11 <;> rfl

end ExactUpperOk
open ExactUpperOk

theorem FnExactUpperOk : laws_FnExactUpperOk.Pure := by
  intro a0 a1 a2 a3 a4 a5 a6 a7 a8 a9 a10 a11 l m k _ _ _ _ _ _ _ _ _ _ _ hl _ hm _ _
  refine ⟨l.length + m.length + 20, ?_⟩
  obtain ⟨r, hr, hc⟩ := szUpper a0 a1 a2 a3 a4 a5 a6 a7 a8 a9 a10 a11 l m hl hm
  unfold laws_FnExactUpperOk.f
  rw [hr]
  simp only [Option.bind_some]
  by_cases h : r < 0
  · rw [if_pos h]
  · have hn := hc h
    rw [if_neg h]
    simp only [toUpper a0 a1 a2 a3 a4 a5 a6 a7 a8 a9 a10 a11 l m (show l.length + m.length ≤ 140737488355328 by omega) (show l.length + m.length < l.length + m.length + 20 by omega), Option.bind_some,
      specUpperOk _ _ _ _ _ _ _ _ _ _ _ _ l m k hn, implUpperOk (show 10 ≤ l.length + m.length + 20 by omega) _ _ _ _ _ _ _ _ _ _ _ _ l m k hn, if_true, bne_self_eq_false, Bool.false_eq_true, if_false,
      eqUpper a0 a1 a2 a3 a4 a5 a6 a7 a8 a9 a10 a11 l m (show l.length + m.length ≤ 140737488355328 by omega) (show l.length + m.length < l.length + m.length + 20 by omega)]

end Go.Proofs.Ythkocmpilkoibaa.Pure
