/- The program's UpperRead returns what the reference's returns, for all arguments. No condition. -/
import Derived.Test.YtdbiejkaplndgaaTFnExactUpperRead
import Derived.Test.YtdbiejkaplndgaaZBaseFnExactUpperRead
namespace Go.Proofs.Ytdbiejkaplndgaa.Pure
open Go.RowKit Go.Proofs.Ytdbiejkaplndgaa.FFnExactUpperRead Go.Proofs.YtdbiejkaplndgaaW.PrintWords Go.Proofs.YtdbiejkaplndgaaW.PrintLast Go.Proofs.YtdbiejkaplndgaaW.PrintMore Go.Proofs.Ytdbiejkaplndgaa.Base

set_option linter.unusedVariables false
set_option linter.unusedSimpArgs false
namespace ExactUpperRead
theorem toAddr (k a b c d : Int) : laws_toAddr.f k a b c d = some (k, a, b, c, d) := rfl

theorem toByteS_l (xs : List Int) (hn : xs.length ≤ 140737488355328) (d : Nat) : ∀ (k : Nat) (ys : List Int) (i : Int), 0 ≤ i → i + d = xs.length → d < k → ys.length = xs.length → (∀ j : Nat, (j : Int) < i → ys[j]? = xs[j]?) → laws_toByteS.l0 k xs ys i = some xs := by
 induction d with
 | zero =>
  intro k ys i h0 hi hk hl hj
  obtain ⟨k, rfl⟩ := pos_k hk
  simp only [laws_toByteS.l0]
  rw [if_neg (by omega)]
  congr 1
  apply List.ext_getElem?
  intro j
  by_cases h : (j : Int) < i
  ·exact hj j h
  ·rw [List.getElem?_eq_none (by omega), List.getElem?_eq_none (by omega)]
 | succ d ih =>
  intro k ys i h0 hi hk hl hj
  obtain ⟨k, rfl⟩ := pos_k hk
  simp only [laws_toByteS.l0]
  rw [if_pos (by omega), if_pos (by omega), if_pos (by omega), w64 (by omega) (by omega)]
  refine ih k _ (i + 1) (by omega) (by omega) (by omega) (by rw [List.length_set]; omega) ?_
  intro j hj'
  by_cases h : (j : Int) = i
  ·have e : i.toNat = j := by omega
   rw [e, List.getElem?_set_self (by omega), ← h, ← rd_get? (by omega) (by omega)]
   rfl
  ·rw [List.getElem?_set_ne (by omega)]
   exact hj j (by omega)
theorem toByteS {xs : List Int} (hn : xs.length ≤ 140737488355328) {k : Nat} (hk : xs.length < k) : laws_toByteS.f k xs = some xs := by
 unfold laws_toByteS.f
 rw [if_pos (by omega), if_pos (by omega)]
 exact toByteS_l xs hn xs.length k _ 0 (by omega) (by omega) hk (by simp) (fun j hj => by omega)

theorem eqByteS_l (xs : List Int) (hn : xs.length ≤ 140737488355328) (d : Nat) : ∀ (k : Nat) (i : Int), 0 ≤ i → i + d = xs.length → d < k → laws_eqByteS.l0 k xs xs i = some true := by
 induction d with
 | zero =>
  intro k i h0 hi hk
  obtain ⟨k, rfl⟩ := pos_k hk
  simp only [laws_eqByteS.l0]
  rw [if_neg (by omega)]
 | succ d ih =>
  intro k i h0 hi hk
  obtain ⟨k, rfl⟩ := pos_k hk
  simp only [laws_eqByteS.l0]
  rw [if_pos (by omega), if_pos (by omega), if_pos (by omega), if_pos (by first | rfl | trivial), w64 (by omega) (by omega)]
  exact ih k (i + 1) (by omega) (by omega) (by omega)
theorem eqByteS {xs : List Int} (hn : xs.length ≤ 140737488355328) {k : Nat} (hk : xs.length < k) : laws_eqByteS.f k xs xs = some true := by
 unfold laws_eqByteS.f
 rw [if_pos rfl]
 exact eqByteS_l xs hn xs.length k 0 (by omega) (by omega) hk

theorem markByteS_l (d : Nat) : ∀ (k : Nat) (ys : List Int) (m i : Int), 0 ≤ i → i + d = ys.length → d < k → 0 ≤ m → ys.length ≤ 140737488355328 → m + d ≤ 281474976710656 →
  ∃ zs, laws_markByteS.l0 k ys m i = some (m + d, zs) ∧ zs.length = ys.length ∧ (∀ j : Nat, (j : Int) < i → zs[j]? = ys[j]?) ∧ (∀ j : Nat, i ≤ j → j < ys.length → zs[j]? = some ((m + (j - i)) % 256)) := by
 induction d with
 | zero =>
  intro k ys m i h0 hi hk hm hl hb
  obtain ⟨k, rfl⟩ := pos_k hk
  refine ⟨ys, ?_, rfl, fun _ _ => rfl, fun j h1 h2 => by omega⟩
  simp only [laws_markByteS.l0]
  rw [if_neg (by omega), show m + ((0 : Nat) : Int) = m by omega]
 | succ d ih =>
  intro k ys m i h0 hi hk hm hl hb
  obtain ⟨k, rfl⟩ := pos_k hk
  obtain ⟨zs, h1, h2, h3, h4⟩ := ih k (ys.set i.toNat (m % 256)) (m + 1) (i + 1) (by omega) (by rw [List.length_set]; omega) (by omega) (by omega) (by rw [List.length_set]; omega) (by omega)
  rw [List.length_set] at h2 h4
  refine ⟨zs, ?_, h2, ?_, ?_⟩
  ·simp only [laws_markByteS.l0]
   rw [if_pos (by omega), if_pos (by omega), w64 (by omega) (by omega), w64 (by omega) (by omega), h1]
   congr 2
   omega
  ·intro j hj
   rw [h3 j (by omega), List.getElem?_set_ne (by omega)]
  ·intro j hj hj'
   by_cases h : (j : Int) = i
   ·rw [h3 j (by omega), show i.toNat = j by omega, List.getElem?_set_self (by omega), h, show m + (i - i) = m by omega]
   ·rw [h4 j (by omega) hj', show m + 1 + ((j : Int) - (i + 1)) = m + (j - i) by omega]
/-- What marking leaves reads as marked. -/
def Marked (zs : List Int) (m : Int) : Prop := ∀ j : Nat, j < zs.length → zs[j]? = some ((m + j) % 256)
theorem markByteS (ys : List Int) (hl : ys.length ≤ 140737488355328) {m : Int} (h0 : 0 ≤ m) (h1 : m ≤ 140737488355328) {k : Nat} (hk : ys.length < k) :
  ∃ zs, laws_markByteS.f k ys m = some (m + ys.length, zs) ∧ zs.length = ys.length ∧ Marked zs m := by
 obtain ⟨zs, h1, h2, h3, h4⟩ := markByteS_l ys.length k ys m 0 (by omega) (by omega) hk h0 hl (by omega)
 refine ⟨zs, h1, h2, fun j hj => ?_⟩
 rw [h4 j (by omega) (by omega), show m + ((j : Int) - 0) = m + j by omega]

theorem heldByteS_l (d : Nat) (zs : List Int) (m0 : Int) (hz : Marked zs m0) : ∀ (k : Nat) (m i : Int), 0 ≤ i → i + d = zs.length → d < k → 0 ≤ m → m = m0 + i → zs.length ≤ 140737488355328 → m + d ≤ 281474976710656 →
  laws_heldByteS.l0 k zs m i = some (m + d) := by
 induction d with
 | zero =>
  intro k m i h0 hi hk hm he hl hb
  obtain ⟨k, rfl⟩ := pos_k hk
  simp only [laws_heldByteS.l0]
  rw [if_neg (by omega), show m + ((0 : Nat) : Int) = m by omega]
 | succ d ih =>
  intro k m i h0 hi hk hm he hl hb
  obtain ⟨k, rfl⟩ := pos_k hk
  have hr : rd zs i = m % 256 := by
   have h1 := rd_get? h0 (show i < zs.length by omega)
   rw [hz i.toNat (by omega)] at h1
   rw [← Option.some.inj h1, he, show ((i.toNat : Nat) : Int) = i by omega]
  simp only [laws_heldByteS.l0]
  rw [if_pos (by omega), if_pos (by omega), if_pos hr, w64 (by omega) (by omega), w64 (by omega) (by omega), ih k (m + 1) (i + 1) (by omega) (by omega) (by omega) (by omega) (by omega) (by omega) (by omega)]
  congr 1
  omega
theorem heldByteS {zs : List Int} {m : Int} (hz : Marked zs m) (hl : zs.length ≤ 140737488355328) (h0 : 0 ≤ m) (h1 : m ≤ 140737488355328) {k : Nat} (hk : zs.length < k) : laws_heldByteS.f k zs m = some (m + zs.length) :=
 heldByteS_l zs.length zs m hz k m 0 (by omega) (by omega) hk h0 (by omega) hl (by omega)


def usize (k o b : Int) : Int := if k = 0 then b else if k = 1 then 20 + o + b else if k = 2 then 8 + b else if k = 3 then 8 + b else -1
theorem specUpperSize (a0 a1 a2 a3 a4 a5 a6 a7 a8 a9 a10 : Int) (a11 : Bool) (l m : List Int) (hn : l.length + m.length ≤ 1048576) : spec_UpperSize.f a0 a1 a2 a3 a4 a5 a6 a7 a8 a9 a10 a11 l m = some (usize a0 l.length m.length) := by
 unfold spec_UpperSize.f usize
 rw [w64 (n := 20 + (l.length : Int)) (by omega) (by omega), w64 (n := 20 + (l.length : Int) + m.length) (by omega) (by omega), w64 (n := 8 + (m.length : Int)) (by omega) (by omega)]
 repeat' split
 all_goals rfl
theorem implUpperSize (a0 a1 a2 a3 a4 a5 a6 a7 a8 a9 a10 : Int) (a11 : Bool) (l m : List Int) (hn : l.length + m.length ≤ 1048576) : impl_UpperSize.f a0 a1 a2 a3 a4 a5 a6 a7 a8 a9 a10 a11 l m = some (usize a0 l.length m.length) := by
 unfold impl_UpperSize.f impl_upperHead.f usize
 have w0 : wrap64 (m.length : Int) = m.length := w64 (by omega) (by omega)
 have w8 : wrap64 (8 + (m.length : Int)) = 8 + m.length := w64 (by omega) (by omega)
 have w20 : wrap64 (20 + (l.length : Int)) = 20 + l.length := w64 (by omega) (by omega)
 have w2m : wrap64 (20 + (l.length : Int) + m.length) = 20 + l.length + m.length := w64 (by omega) (by omega)
 by_cases h0 : a0 = 0
 ·subst h0
  simp [w0]
 ·by_cases h1 : a0 = 1
  ·subst h1
   simp [w20, w2m]
  ·by_cases h2 : a0 = 2
   ·subst h2
    simp [w8]
   ·by_cases h3 : a0 = 3
    ·subst h3
     simp [w8]
    ·simp [h0, h1, h2, h3]

theorem specIn (n m : Int) : spec_l05In.f n m = some (decide (0 ≤ n ∧ n ≤ m)) := by
 unfold spec_l05In.f
 by_cases h : n ≥ 0
 ·rw [if_pos h]
  simp [h]
 ·rw [if_neg h]
  simp [h]

theorem within (n lo hi : Int) : impl_within.f n lo hi = some (decide (lo ≤ n ∧ n ≤ hi)) := by
 unfold impl_within.f
 by_cases h : n ≥ lo
 ·rw [if_pos h]
  simp [h]
 ·rw [if_neg h]
  simp [h]

theorem isWord (n : Int) : impl_isWord.f n = some (decide (0 ≤ n ∧ n ≤ 65535)) := by
 unfold impl_isWord.f impl_within.f
 by_cases h : n ≥ 0
 ·rw [if_pos h]
  simp [h]
 ·rw [if_neg h]
  simp [h]

theorem isByte (n : Int) : impl_isByte.f n = some (decide (0 ≤ n ∧ n ≤ 255)) := by
 unfold impl_isByte.f impl_within.f
 by_cases h : n ≥ 0
 ·rw [if_pos h]
  simp [h]
 ·rw [if_neg h]
  simp [h]

theorem areWords_l (xs : List Int) (hn : xs.length ≤ 140737488355328) (d : Nat) : ∀ (k : Nat) (i : Int), 0 ≤ i → i + d = xs.length → d < k → impl_areWords.l0 k xs xs.length i = some (decide (∀ x ∈ xs.drop i.toNat, 0 ≤ x ∧ x ≤ 65535)) := by
 induction d with
 | zero =>
  intro k i h0 hi hk
  obtain ⟨k, rfl⟩ := pos_k hk
  simp only [impl_areWords.l0]
  rw [if_neg (by omega), List.drop_eq_nil_of_le (by omega)]
  simp
 | succ d ih =>
  intro k i h0 hi hk
  obtain ⟨k, rfl⟩ := pos_k hk
  simp only [impl_areWords.l0]
  rw [if_pos (by omega), if_pos (by omega), if_pos (by omega), isWord, drop_rd h0 (by omega)]
  simp only [Option.bind_some]
  rw [w64 (by omega) (by omega), ih k (i + 1) (by omega) (by omega) (by omega)]
  by_cases h : 0 ≤ rd xs i ∧ rd xs i ≤ 65535
  ·rw [decide_eq_true h, if_pos (by first | rfl | trivial)]
   simp [h]
  ·rw [decide_eq_false h, if_neg Bool.false_ne_true]
   have : ¬ ∀ x ∈ rd xs i :: xs.drop (i + 1).toNat, 0 ≤ x ∧ x ≤ 65535 := fun hh => h (hh _ (by simp))
   rw [decide_eq_false this]
theorem areWords {xs : List Int} (hn : xs.length ≤ 140737488355328) {k : Nat} (hk : xs.length < k) : impl_areWords.f k xs = some (decide (∀ x ∈ xs, 0 ≤ x ∧ x ≤ 65535)) := by
 unfold impl_areWords.f
 rw [areWords_l xs hn xs.length k 0 (by omega) (by omega) hk]
 rfl

theorem areWords2 {a b : Int} {k : Nat} (hk : 10 ≤ k) : impl_areWords.f k [a, b] = some (inB a 0 65535 && inB b 0 65535) := by
 rw [areWords (by simp) (by simp; omega)]
 congr 1
 unfold inB
 rw [Bool.eq_iff_iff]
 simp

def upK (k : Int) : Bool := decide (k = 4 ∨ k = 6)
def upPorts (a b : Int) : Bool := decide ((0 ≤ a ∧ a ≤ 65535) ∧ (0 ≤ b ∧ b ≤ 65535))
def upZP (a b : Int) : Bool := decide (a = 0 ∧ b = 0)
def upTcp (a3 a4 a5 a6 a7 : Int) (l : List Int) : Bool := decide ((0 ≤ a3 ∧ a3 ≤ 4294967295) ∧ (0 ≤ a4 ∧ a4 ≤ 4294967295) ∧ (0 ≤ a5 ∧ a5 ≤ 4095) ∧ (0 ≤ a6 ∧ a6 ≤ 65535) ∧ (0 ≤ a7 ∧ a7 ≤ 65535) ∧ (l.length : Int) ≤ 40 ∧ (l.length : Int) % 4 = 0)
def upZT (a3 a4 a5 a6 a7 : Int) (l : List Int) : Bool := decide (a3 = 0 ∧ a4 = 0 ∧ a5 = 0 ∧ a6 = 0 ∧ a7 = 0 ∧ (l.length : Int) = 0)
def upIc (a8 a9 a10 : Int) : Bool := decide ((0 ≤ a8 ∧ a8 ≤ 255) ∧ (0 ≤ a9 ∧ a9 ≤ 255) ∧ (0 ≤ a10 ∧ a10 ≤ 4294967295))
def upZI (a8 a9 a10 : Int) : Bool := decide (a8 = 0 ∧ a9 = 0 ∧ a10 = 0)
def upSz (a0 o b : Int) : Bool := decide (0 ≤ usize a0 o b ∧ usize a0 o b ≤ 1500)
/-- Whether an upper packet is right. -/
def upV (a0 a1 a2 a3 a4 a5 a6 a7 a8 a9 a10 : Int) (a11 : Bool) (l : List Int) (b k : Int) : Bool :=
 upK k && upSz a0 l.length b && (if a0 = 1 then upPorts a1 a2 && upTcp a3 a4 a5 a6 a7 l && upZI a8 a9 a10 && !a11
  else if a0 = 2 then upPorts a1 a2 && upZT a3 a4 a5 a6 a7 l && upZI a8 a9 a10 && (!a11 || decide (k = 4))
  else if a0 = 3 then upZP a1 a2 && upZT a3 a4 a5 a6 a7 l && upIc a8 a9 a10 && !a11
  else upZP a1 a2 && upZT a3 a4 a5 a6 a7 l && upZI a8 a9 a10 && !a11)
theorem specHalfU (n : Int) : spec_l03Half.f n = some (decide (0 ≤ n ∧ n ≤ 4294967295)) := by
 unfold spec_l03Half.f
 by_cases h : n ≥ 0
 ·rw [if_pos h]
  simp [h]
 ·rw [if_neg h]
  simp [h]
theorem isLongU (n : Int) : impl_isLong.f n = some (decide (0 ≤ n ∧ n ≤ 4294967295)) := by
 unfold impl_isLong.f
 rw [within, Option.bind_some]
theorem upS1 (k : Int) : spec_UpperOk.F1 k = some (!upK k) := by
 unfold spec_UpperOk.F1 upK
 repeat' split
 all_goals simp <;> omega
theorem upS3 (a : Int) : spec_UpperOk.F3 a = some (decide (a = 1 ∨ a = 2)) := by
 unfold spec_UpperOk.F3
 repeat' split
 all_goals simp <;> omega
theorem upS4 (a b : Int) (c : Bool) : spec_UpperOk.F4 a b c = some (!(upPorts a b && (c || upZP a b))) := by
 unfold spec_UpperOk.F4 upPorts upZP
 simp only [specIn, Option.bind_some, decide_eq_true_eq]
 cases c
 all_goals simp only [Bool.false_eq_true, if_false, if_true]
 all_goals (repeat' split)
 all_goals (congr 1; rw [Bool.eq_iff_iff]; simp only [Bool.not_eq_true', Bool.and_eq_false_iff, Bool.or_eq_false_iff, decide_eq_false_iff_not, Bool.true_or, Bool.false_or, Bool.and_true, Bool.false_eq_true, false_iff, true_iff, reduceCtorEq, or_false]; omega)
theorem upS7 (a3 a4 a5 a6 a7 : Int) (l : List Int) : spec_UpperOk.F7 a3 a4 a5 a6 a7 l = some (!upTcp a3 a4 a5 a6 a7 l) := by
 unfold spec_UpperOk.F7 upTcp
 simp only [specIn, specHalfU, Option.bind_some, decide_eq_true_eq]
 repeat' split
 all_goals simp <;> omega
theorem upS9 (a3 a4 a5 a6 a7 : Int) (l : List Int) : spec_UpperOk.F9 a3 a4 a5 a6 a7 l = some (!upZT a3 a4 a5 a6 a7 l) := by
 unfold spec_UpperOk.F9 upZT
 generalize (l.length : Int) = n
 repeat' split
 all_goals simp <;> omega
theorem upS12 (a8 a9 a10 : Int) : spec_UpperOk.F12 a8 a9 a10 = some (!upIc a8 a9 a10) := by
 unfold spec_UpperOk.F12 upIc
 simp only [specIn, specHalfU, Option.bind_some, decide_eq_true_eq]
 repeat' split
 all_goals simp <;> omega
theorem upS14 (a8 a9 a10 : Int) : spec_UpperOk.F14 a8 a9 a10 = some (!upZI a8 a9 a10) := by
 unfold spec_UpperOk.F14 upZI
 repeat' split
 all_goals simp <;> omega
theorem upS16 (a0 : Int) (b : Bool) (k : Int) : spec_UpperOk.F16 a0 b k = some (b && !(decide (a0 = 2) && decide (k = 4))) := by
 unfold spec_UpperOk.F16
 cases b
 ·rfl
 ·repeat' split
  all_goals simp [*] at *
theorem upZP_ports {a b : Int} (h : upZP a b = true) : upPorts a b = true := by
 unfold upZP at h
 unfold upPorts
 simp only [decide_eq_true_eq] at h ⊢
 omega
theorem upSz_bad {a0 o b : Int} (h0 : a0 ≠ 0) (h1 : a0 ≠ 1) (h2 : a0 ≠ 2) (h3 : a0 ≠ 3) : upSz a0 o b = false := by
 unfold upSz usize
 rw [if_neg h0, if_neg h1, if_neg h2, if_neg h3]
 decide
theorem upSz_ite (u : Int) : (if u ≥ 0 then (if u ≤ 1500 then (some true : Option Bool) else some false) else some false) = some (decide (0 ≤ u ∧ u ≤ 1500)) := by
 repeat' split
 all_goals simp <;> omega
theorem specUpperOk (a0 a1 a2 a3 a4 a5 a6 a7 a8 a9 a10 : Int) (a11 : Bool) (l m : List Int) (k : Int) (hn : l.length + m.length ≤ 1048576) : spec_UpperOk.f a0 a1 a2 a3 a4 a5 a6 a7 a8 a9 a10 a11 l m k = some (upV a0 a1 a2 a3 a4 a5 a6 a7 a8 a9 a10 a11 l m.length k) := by
 unfold spec_UpperOk.f
 simp only [upS1, upS3, upS4, upS7, upS9, upS12, upS14, upS16, specUpperSize _ _ _ _ _ _ _ _ _ _ _ _ l m hn, Option.bind_some, upSz_ite]
 unfold upV
 have hz := @upZP_ports a1 a2
 have hs : decide (0 ≤ usize a0 (l.length : Int) (m.length : Int) ∧ usize a0 (l.length : Int) (m.length : Int) ≤ 1500) = upSz a0 l.length m.length := rfl
 simp only [hs]
 by_cases h1 : a0 = 1
 ·subst h1
  generalize upSz 1 _ _ = z
  generalize upTcp a3 a4 a5 a6 a7 l = t
  generalize upZI a8 a9 a10 = i
  generalize upPorts a1 a2 = p
  generalize upK k = q
  cases z <;> cases t <;> cases i <;> cases p <;> cases q <;> cases a11 <;> rfl
 ·by_cases h2 : a0 = 2
  ·subst h2
   generalize upSz 2 _ _ = z
   generalize upZT a3 a4 a5 a6 a7 l = t
   generalize upZI a8 a9 a10 = i
   generalize upPorts a1 a2 = p
   generalize upK k = q
   generalize decide (k = 4) = x
   cases z <;> cases t <;> cases i <;> cases p <;> cases q <;> cases a11 <;> cases x <;> rfl
  ·have hd : decide (a0 = 1 ∨ a0 = 2) = false := decide_eq_false (by omega)
   have hd2 : decide (a0 = 2) = false := decide_eq_false h2
   rw [hd, hd2]
   simp only [if_neg h1, if_neg h2]
   by_cases h3 : a0 = 3
   ·subst h3
    simp only [if_true]
    generalize upSz 3 _ _ = z
    generalize upZT a3 a4 a5 a6 a7 l = t
    generalize upIc a8 a9 a10 = i
    generalize upPorts a1 a2 = p at hz ⊢
    generalize upZP a1 a2 = y at hz ⊢
    generalize upK k = q
    cases z <;> cases t <;> cases i <;> cases p <;> cases y <;> cases q <;> cases a11 <;> first | rfl | exact absurd (hz rfl) (by decide)
   ·simp only [if_neg h3]
    generalize upSz a0 _ _ = z
    generalize upZT a3 a4 a5 a6 a7 l = t
    generalize upZI a8 a9 a10 = i
    generalize upPorts a1 a2 = p at hz ⊢
    generalize upZP a1 a2 = y at hz ⊢
    generalize upK k = q
    cases z <;> cases t <;> cases i <;> cases p <;> cases y <;> cases q <;> cases a11 <;> first | rfl | exact absurd (hz rfl) (by decide)
theorem upI1 (a0 a1 a2 a3 a4 a5 a6 a7 a8 a9 a10 : Int) (a11 : Bool) (l m : List Int) (k : Int) (hn : l.length + m.length ≤ 1048576) : impl_UpperOk.F1 a0 a1 a2 a3 a4 a5 a6 a7 a8 a9 a10 a11 l m k = some (!(upK k && upSz a0 l.length m.length)) := by
 unfold impl_UpperOk.F1 upK upSz
 simp only [implUpperSize _ _ _ _ _ _ _ _ _ _ _ _ l m hn, Option.bind_some]
 generalize usize _ _ _ = u
 repeat' split
 all_goals simp <;> omega
theorem upI4 {f : Nat} (hf : 10 ≤ f) (a3 a4 a5 a6 a7 : Int) (l : List Int) : impl_UpperOk.F4 f a3 a4 a5 a6 a7 l = some (upTcp a3 a4 a5 a6 a7 l) := by
 unfold impl_UpperOk.F4 upTcp
 simp only [areWords2 hf, inB, isLongU, within, Option.bind_some, Bool.and_eq_true, decide_eq_true_eq]
 generalize (l.length : Int) = n
 repeat' split
 all_goals simp <;> omega
theorem upI5 (a8 a9 a10 : Int) : impl_UpperOk.F5 a8 a9 a10 = some (upIc a8 a9 a10) := by
 unfold impl_UpperOk.F5 upIc
 simp only [isByte, isLongU, Option.bind_some, decide_eq_true_eq]
 repeat' split
 all_goals (congr 1; rw [Bool.eq_iff_iff]; simp only [decide_eq_true_eq, Bool.false_eq_true, false_iff]; omega)
theorem areZero {xs : List Int} (h : xs.length ≤ 100) : impl_areZero.f xs = some (!xs.any (· != 0)) := by
 unfold impl_areZero.f
 rw [if_pos (by omega)]
theorem zero3 (a b c : Int) : impl_areZero.f [a, b, c] = some (upZI a b c) := by
 rw [areZero (by simp)]
 unfold upZI
 congr 1
 rw [Bool.eq_iff_iff]
 simp
theorem zero9 (a b c d e f g h i : Int) (l : List Int) (hi : i = l.length) : impl_areZero.f [a, b, c, d, e, f, g, h, i] = some (upZT a b c d e l && upZI f g h) := by
 rw [areZero (by simp)]
 unfold upZI upZT
 congr 1
 rw [Bool.eq_iff_iff]
 simp only [List.any_cons, List.any_nil, Bool.or_false, Bool.not_eq_true', Bool.or_eq_false_iff, bne_eq_false_iff_eq, Bool.and_eq_true, decide_eq_true_eq]
 omega
theorem zero8 (a b c d e f g i : Int) (l : List Int) (hi : i = l.length) : impl_areZero.f [a, b, c, d, e, f, g, i] = some (upZP a b && upZT c d e f g l) := by
 rw [areZero (by simp)]
 unfold upZP upZT
 congr 1
 rw [Bool.eq_iff_iff]
 simp only [List.any_cons, List.any_nil, Bool.or_false, Bool.not_eq_true', Bool.or_eq_false_iff, bne_eq_false_iff_eq, Bool.and_eq_true, decide_eq_true_eq]
 omega
theorem zero11 (a b c d e f g h j n i : Int) (l : List Int) (hi : i = l.length) : impl_areZero.f [a, b, c, d, e, f, g, h, j, n, i] = some (upZP a b && upZT c d e f g l && upZI h j n) := by
 rw [areZero (by simp)]
 unfold upZP upZT upZI
 congr 1
 rw [Bool.eq_iff_iff]
 simp only [List.any_cons, List.any_nil, Bool.or_false, Bool.not_eq_true', Bool.or_eq_false_iff, bne_eq_false_iff_eq, Bool.and_eq_true, decide_eq_true_eq]
 omega
theorem words2 {f : Nat} (hf : 10 ≤ f) (a b : Int) : impl_areWords.f f [a, b] = some (upPorts a b) := by
 rw [areWords2 hf]
 unfold inB upPorts
 congr 1
 rw [Bool.eq_iff_iff]
 simp
theorem implUpperOk {f : Nat} (hf : 10 ≤ f) (a0 a1 a2 a3 a4 a5 a6 a7 a8 a9 a10 : Int) (a11 : Bool) (l m : List Int) (k : Int) (hn : l.length + m.length ≤ 1048576) : impl_UpperOk.f f a0 a1 a2 a3 a4 a5 a6 a7 a8 a9 a10 a11 l m k = some (upV a0 a1 a2 a3 a4 a5 a6 a7 a8 a9 a10 a11 l m.length k) := by
 unfold impl_UpperOk.f
 simp only [upI1 _ _ _ _ _ _ _ _ _ _ _ _ l m k hn, upI4 hf, upI5, words2 hf, zero3, zero9 _ _ _ _ _ _ _ _ _ l rfl, zero8 _ _ _ _ _ _ _ _ l rfl, zero11 _ _ _ _ _ _ _ _ _ _ _ l rfl, Option.bind_some]
 unfold upV
 by_cases h1 : a0 = 1
 ·subst h1
  generalize upSz 1 _ _ = z
  generalize upTcp a3 a4 a5 a6 a7 l = t
  generalize upZI a8 a9 a10 = i
  generalize upPorts a1 a2 = p
  generalize upK k = q
  cases z <;> cases t <;> cases i <;> cases p <;> cases q <;> cases a11 <;> rfl
 ·by_cases h2 : a0 = 2
  ·subst h2
   have hk : ∀ b : Option Bool, (if k = 4 then (some true : Option Bool) else some false) = some (decide (k = 4)) := fun _ => by split <;> simp [*]
   simp only [hk none]
   generalize decide (k = 4) = x
   generalize upSz 2 _ _ = z
   generalize upZT a3 a4 a5 a6 a7 l = t
   generalize upZI a8 a9 a10 = i
   generalize upPorts a1 a2 = p
   generalize upK k = q
   cases z <;> cases t <;> cases i <;> cases p <;> cases q <;> cases a11 <;> cases x <;> rfl
  ·simp only [if_neg h1, if_neg h2]
   by_cases h3 : a0 = 3
   ·subst h3
    simp only [if_true]
    generalize upSz 3 _ _ = z
    generalize upZT a3 a4 a5 a6 a7 l = t
    generalize upIc a8 a9 a10 = i
    generalize upZP a1 a2 = y
    generalize upK k = q
    cases z <;> cases t <;> cases i <;> cases y <;> cases q <;> cases a11 <;> rfl
   ·simp only [if_neg h3]
    generalize upSz a0 _ _ = z
    generalize upZT a3 a4 a5 a6 a7 l = t
    generalize upZI a8 a9 a10 = i
    generalize upZP a1 a2 = y
    generalize upK k = q
    cases z <;> cases t <;> cases i <;> cases y <;> cases q <;> cases a11 <;> rfl

theorem specHalf (n : Int) : spec_l03Half.f n = some (decide (Half n)) := by
 unfold spec_l03Half.f Half
 by_cases h : n ≥ 0
 ·rw [if_pos h]
  simp [h]
 ·rw [if_neg h]
  simp [h]
theorem specAddrOk (k a b c d : Int) : spec_AddrOk.f k a b c d = some (decide (AddrOK k a b c d)) := by
 unfold spec_AddrOk.f
 simp only [specHalf, Option.bind_some]
 unfold AddrOK
 by_cases h4 : k = 4
 ·subst h4
  by_cases ha : a = 0 <;> by_cases hb : b = 0 <;> by_cases hc : c = 0 <;> simp [ha, hb, hc]
 ·by_cases h6 : k = 6
  ·subst h6
   by_cases ha : Half a <;> by_cases hb : Half b <;> by_cases hc : Half c <;> simp [ha, hb, hc]
  ·simp [h4, h6]

theorem isLong (n : Int) : impl_isLong.f n = some (decide (Half n)) := by
 unfold impl_isLong.f impl_within.f Half
 by_cases h : n ≥ 0
 ·rw [if_pos h]
  simp [h]
 ·rw [if_neg h]
  simp [h]
theorem implAddrOk (k a b c d : Int) : impl_AddrOk.f k a b c d = some (decide (AddrOK k a b c d)) := by
 unfold impl_AddrOk.f
 simp only [isLong, Option.bind_some]
 unfold AddrOK
 by_cases h4 : k = 4
 ·subst h4
  by_cases ha : a = 0 <;> by_cases hb : b = 0 <;> by_cases hc : c = 0 <;> simp [ha, hb, hc]
 ·by_cases h6 : k = 6
  ·subst h6
   by_cases ha : Half a <;> by_cases hb : Half b <;> by_cases hc : Half c <;> simp [ha, hb, hc]
  ·simp [h4, h6]

theorem shr_nat (x : Int) (n : Nat) (h : n ≤ 64) (y : Int) (hy : y = n) : shr .i64 x y = x / 2 ^ n := by
 subst hy
 unfold shr
 rw [Int.toNat_natCast, Nat.min_eq_left (by exact h)]
theorem put_step (k : Nat) (a n : Int) (ys : List Int) (L i : Int) (m : Nat) (hL : L = ys.length) (h0 : 0 ≤ i) (h : i < L) (hn : n = L) (hn1 : n ≤ 8) (hm : (m : Int) = 8 * (n - 1 - i)) :
  impl_put.l0 (k + 1) a n ys L i = impl_put.l0 k a n (ys.set i.toNat (a / 2 ^ m % 256)) L (i + 1) := by
 simp only [impl_put.l0]
 rw [if_pos h, w64 (n := n - 1) (by omega) (by omega), w64 (n := n - 1 - i) (by omega) (by omega), w64 (n := 8 * (n - 1 - i)) (by omega) (by omega), if_pos (by omega), if_pos h0, if_pos (by omega),
  shr_nat a m (by omega) _ hm.symm, w64 (by omega) (by omega)]
theorem put_end (k : Nat) (a n : Int) (ys : List Int) (L i : Int) (h : ¬ i < L) : impl_put.l0 (k + 1) a n ys L i = some ys := by
 simp only [impl_put.l0]
 rw [if_neg h]
theorem put2 {k : Nat} (hk : 10 ≤ k) {a : Int} : impl_put.f k a 2 = some [a / 256 % 256, a % 256] := by
 obtain ⟨k, rfl⟩ : ∃ m, k = m + 3 := ⟨k - 3, by omega⟩
 unfold impl_put.f
 rw [if_pos (by decide), if_pos (by decide)]
 simp only [Option.bind_some]
 rw [put_step _ _ _ _ _ _ 8 (by simp) (by decide) (by decide) (by decide) (by decide) (by decide)]
 rw [put_step _ _ _ _ _ _ 0 (by simp) (by decide) (by decide) (by decide) (by decide) (by decide)]
 rw [put_end _ _ _ _ _ _ (by decide)]
 congr 1
 simp [List.replicate, List.set]
theorem put4 {k : Nat} (hk : 10 ≤ k) {a : Int} : impl_put.f k a 4 = some [a / 16777216 % 256, a / 65536 % 256, a / 256 % 256, a % 256] := by
 obtain ⟨k, rfl⟩ : ∃ m, k = m + 5 := ⟨k - 5, by omega⟩
 unfold impl_put.f
 rw [if_pos (by decide), if_pos (by decide)]
 simp only [Option.bind_some]
 rw [put_step _ _ _ _ _ _ 24 (by simp) (by decide) (by decide) (by decide) (by decide) (by decide)]
 rw [put_step _ _ _ _ _ _ 16 (by simp) (by decide) (by decide) (by decide) (by decide) (by decide)]
 rw [put_step _ _ _ _ _ _ 8 (by simp) (by decide) (by decide) (by decide) (by decide) (by decide)]
 rw [put_step _ _ _ _ _ _ 0 (by simp) (by decide) (by decide) (by decide) (by decide) (by decide)]
 rw [put_end _ _ _ _ _ _ (by decide)]
 congr 1
 simp [List.replicate, List.set]
theorem put6 {k : Nat} (hk : 10 ≤ k) {a : Int} : impl_put.f k a 6 = some [a / 1099511627776 % 256, a / 4294967296 % 256, a / 16777216 % 256, a / 65536 % 256, a / 256 % 256, a % 256] := by
 obtain ⟨k, rfl⟩ : ∃ m, k = m + 7 := ⟨k - 7, by omega⟩
 unfold impl_put.f
 rw [if_pos (by decide), if_pos (by decide)]
 simp only [Option.bind_some]
 rw [put_step _ _ _ _ _ _ 40 (by simp) (by decide) (by decide) (by decide) (by decide) (by decide)]
 rw [put_step _ _ _ _ _ _ 32 (by simp) (by decide) (by decide) (by decide) (by decide) (by decide)]
 rw [put_step _ _ _ _ _ _ 24 (by simp) (by decide) (by decide) (by decide) (by decide) (by decide)]
 rw [put_step _ _ _ _ _ _ 16 (by simp) (by decide) (by decide) (by decide) (by decide) (by decide)]
 rw [put_step _ _ _ _ _ _ 8 (by simp) (by decide) (by decide) (by decide) (by decide) (by decide)]
 rw [put_step _ _ _ _ _ _ 0 (by simp) (by decide) (by decide) (by decide) (by decide) (by decide)]
 rw [put_end _ _ _ _ _ _ (by decide)]
 congr 1
 simp [List.replicate, List.set]

theorem implPut16 {k : Nat} (hk : 10 ≤ k) (a : Int) : impl_Put16.f k a = some (b2 a) := by
 unfold impl_Put16.f
 rw [put2 hk]
 rfl

theorem specLow {a m : Int} (_ha : -9223372036854775808 ≤ a ∧ a ≤ 9223372036854775807) (hm0 : 0 < m) (hm1 : m ≤ 4294967296) : spec_l01Low.f a m = some (a % m) := by
 unfold spec_l01Low.f
 have h1 := Int.emod_nonneg a (show m ≠ 0 by omega)
 have h2 := Int.emod_lt_of_pos a hm0
 have h3 := Int.tmod_eq_emod (a := a) (b := m)
 rw [if_neg (by omega)]
 by_cases h : 0 ≤ a
 ·rw [tmod_pos h, if_neg (by omega)]
 ·have e := Int.emod_def a m
  by_cases hz : m ∣ a
  ·have h4 : Int.tmod a m = 0 := Int.tmod_eq_zero_of_dvd hz
   have h5 : a % m = 0 := Int.emod_eq_zero_of_dvd hz
   rw [h4, h5, if_neg (by omega)]
  ·have h4 : Int.tmod a m = a % m - m := by
    rw [h3, if_neg (by intro hh; rcases hh with hh | hh; exact h hh; exact hz hh)]
    omega
   rw [h4, if_pos (by omega), w64 (by omega) (by omega)]
   congr 1
   omega

theorem specPut16 {a : Int} (hb : -9223372036854775808 ≤ a ∧ a ≤ 9223372036854775807) : spec_Put16.f a = some [a / 256 % 256, a % 256] := by
 unfold spec_Put16.f
 rw [specLow hb (by omega) (by omega)]
 simp only [Option.bind_some]
 rw [tdiv_pos (by omega), tmod_pos (by omega), w64 (by omega) (by omega), show a % 65536 / 256 % 256 = a / 256 % 256 by omega, show a % 65536 % 256 % 256 = a % 256 by omega]

theorem specPut32 {a : Int} (hb : -9223372036854775808 ≤ a ∧ a ≤ 9223372036854775807) : spec_Put32.f a = some [a / 16777216 % 256, a / 65536 % 256, a / 256 % 256, a % 256] := by
 unfold spec_Put32.f
 rw [specLow hb (by omega) (by omega)]
 simp only [Option.bind_some]
 rw [tdiv_pos (by omega), tmod_pos (by omega), w64 (by omega) (by omega), specPut16 (by omega), specPut16 (by omega)]
 simp only [Option.bind_some]
 rw [if_pos (by simp), show a % 4294967296 / 65536 / 256 % 256 = a / 16777216 % 256 by omega, show a % 4294967296 / 65536 % 256 = a / 65536 % 256 by omega, show a % 4294967296 % 65536 / 256 % 256 = a / 256 % 256 by omega, show a % 4294967296 % 65536 % 256 = a % 256 by omega]
 rfl

theorem grow {n : Int} (h0 : 0 ≤ n) (h1 : n ≤ 140737488355328) (l : List Int) : slices_Grow_byte_byte.f l n = some [] := by
 unfold slices_Grow_byte_byte.f
 rw [if_pos h0, if_pos h1]
theorem concat_l1 (ls : List (List Int)) (hn : ls.length ≤ 1000) (d : Nat) : ∀ (k : Nat) (acc : List Int) (i : Int), 0 ≤ i → i + d = ls.length → d < k → acc.length + ((ls.drop i.toNat).flatten).length < 140737488355328 → slices_Concat_byte_byte.l1 k acc ls ls.length i = some (acc ++ (ls.drop i.toNat).flatten) := by
 induction d with
 | zero =>
  intro k acc i h0 hi hk hl
  obtain ⟨k, rfl⟩ := pos_k hk
  simp only [slices_Concat_byte_byte.l1]
  rw [if_neg (by omega), List.drop_eq_nil_of_le (by omega)]
  simp
 | succ d ih =>
  intro k acc i h0 hi hk hl
  obtain ⟨k, rfl⟩ := pos_k hk
  have e : ls.drop i.toNat = rd_L1 ls i :: ls.drop (i + 1).toNat := dropG ([] : List Int) h0 (show i < ls.length by omega)
  rw [e, List.flatten_cons, List.length_append] at hl
  simp only [slices_Concat_byte_byte.l1]
  rw [if_pos (by omega), if_pos h0, if_pos (by omega), if_pos (by omega), w64 (by omega) (by omega), ih k _ (i + 1) (by omega) (by omega) (by omega) (by rw [List.length_append]; omega), e, List.flatten_cons, List.append_assoc]
theorem concat_l0 (ls : List (List Int)) (hn : ls.length ≤ 1000) (hb : ls.flatten.length < 140737488355328) (d : Nat) : ∀ (k : Nat) (s i : Int), 0 ≤ i → i + d = ls.length → d + ls.length + 10 < k → 0 ≤ s → s + ((ls.drop i.toNat).flatten).length < 140737488355328 → slices_Concat_byte_byte.l0 k ls s ls ls.length i = some ls.flatten := by
 induction d with
 | zero =>
  intro k s i h0 hi hk hs hl
  obtain ⟨k, rfl⟩ := pos_k hk
  simp only [slices_Concat_byte_byte.l0]
  rw [if_neg (by omega), grow hs (by omega)]
  simp only [Option.bind_some]
  rw [concat_l1 ls hn ls.length k [] 0 (by omega) (by omega) (by omega) (by simpa using hb)]
  simp
 | succ d ih =>
  intro k s i h0 hi hk hs hl
  obtain ⟨k, rfl⟩ := pos_k hk
  have e : ls.drop i.toNat = rd_L1 ls i :: ls.drop (i + 1).toNat := dropG ([] : List Int) h0 (show i < ls.length by omega)
  rw [e, List.flatten_cons, List.length_append] at hl
  simp only [slices_Concat_byte_byte.l0]
  rw [if_pos (by omega), if_pos h0, if_pos (by omega), w64 (n := s + ((rd_L1 ls i).length : Int)) (by omega) (by omega), if_neg (by omega), w64 (by omega) (by omega), ih k _ (i + 1) (by omega) (by omega) (by omega) (by omega) (by omega)]
theorem concat {ls : List (List Int)} (hn : ls.length ≤ 1000) (hb : ls.flatten.length < 140737488355328) {k : Nat} (hk : 2 * ls.length + 10 < k) : slices_Concat_byte_byte.f k ls = some ls.flatten := by
 unfold slices_Concat_byte_byte.f
 rw [concat_l0 ls hn hb ls.length k 0 0 (by omega) (by omega) (by omega) (by omega) (by show (0 : Int) + (ls.flatten.length : Int) < _; omega)]

theorem specAddrBytes (k a b c d : Int) : spec_AddrBytes.f k a b c d = some (addrBytes k a b c d) := by
 unfold spec_AddrBytes.f addrBytes
 rw [specAddrOk]
 simp only [Option.bind_some]
 by_cases h : AddrOK k a b c d
 ·rw [decide_eq_true h, if_pos rfl, if_pos h]
  have h' := h
  unfold AddrOK Half at h'
  by_cases h4 : k = 4
  ·rw [if_pos h4, if_pos h4, specPut32 (by omega)]
   rfl
  ·rw [if_neg h4, if_neg h4, specPut32 (a := a) (by omega), specPut32 (a := b) (by omega), specPut32 (a := c) (by omega), specPut32 (a := d) (by omega)]
   simp only [Option.bind_some]
   rw [if_pos (by simp), if_pos (by simp), if_pos (by simp)]
   rfl
 ·rw [decide_eq_false h, if_neg Bool.false_ne_true, if_neg h]
theorem implPut32 {k : Nat} (hk : 10 ≤ k) (a : Int) : impl_Put32.f k a = some (b4 a) := by
 unfold impl_Put32.f
 rw [put4 hk]
 rfl
theorem implAddrBytes {n : Nat} (hn : 30 ≤ n) (k a b c d : Int) : impl_AddrBytes.f n k a b c d = some (addrBytes k a b c d) := by
 unfold impl_AddrBytes.f addrBytes
 rw [implAddrOk]
 simp only [Option.bind_some]
 by_cases h : AddrOK k a b c d
 ·rw [decide_eq_true h, if_pos rfl, if_pos h]
  by_cases h4 : k = 4
  ·rw [if_pos h4, if_pos h4, implPut32 (by omega)]
   rfl
  ·rw [if_neg h4, if_neg h4, implPut32 (by omega), implPut32 (by omega), implPut32 (by omega), implPut32 (by omega)]
   simp only [Option.bind_some]
   rw [concat (by simp) (by simp [b4]) (by simp; omega)]
   simp
 ·rw [decide_eq_false h, if_neg Bool.false_ne_true, if_neg h]
theorem addrBytes_len (k a b c d : Int) : (addrBytes k a b c d).length ≤ 16 := by
 unfold addrBytes
 split
 ·split <;> simp [b4]
 ·simp
theorem addrBytes_u8 (k a b c d : Int) : U8 (addrBytes k a b c d) := by
 unfold addrBytes
 split
 ·split
  ·exact U8.b4 _
  ·exact (U8.b4 _).append ((U8.b4 _).append ((U8.b4 _).append (U8.b4 _)))
 ·exact U8.nil

theorem specPair (k a b c d k' a' b' c' d' : Int) : spec_l07Pair.f k a b c d k' a' b' c' d' = some (pairB k a b c d k' a' b' c' d') := by
 unfold spec_l07Pair.f pairB
 rw [specAddrOk, specAddrOk]
 simp only [Option.bind_some]
 generalize decide (AddrOK k a b c d) = p
 generalize decide (AddrOK k' a' b' c' d') = q
 cases p <;> cases q <;> rfl

theorem areBoth (k a b c d k' a' b' c' d' : Int) : impl_areBoth.f k a b c d k' a' b' c' d' = some (pairB k a b c d k' a' b' c' d') := by
 unfold impl_areBoth.f pairB
 rw [implAddrOk, implAddrOk]
 simp only [Option.bind_some]
 generalize decide (AddrOK k a b c d) = p
 generalize decide (AddrOK k' a' b' c' d') = q
 cases p <;> cases q <;> rfl

theorem implSum {a b : Int} (h0 : 0 ≤ a) (h1 : a ≤ 65535) (h2 : 0 ≤ b) (h3 : b ≤ 65535) : impl_sum.f a b = some (osum a b) := by
 unfold impl_sum.f osum
 rw [w64 (n := a + b) (by omega) (by omega), w64 (by omega) (by omega)]
 split <;> rfl

theorem specWord (n : Int) : spec_l02Word.f n = some (decide (0 ≤ n ∧ n ≤ 65535)) := by
 unfold spec_l02Word.f
 by_cases h : n ≥ 0
 ·rw [if_pos h]
  simp [h]
 ·rw [if_neg h]
  simp [h]
theorem specSumAdd {a b : Int} (_h : 0 < 1) : spec_SumAdd.f a b = some (if (0 ≤ a ∧ a ≤ 65535) ∧ (0 ≤ b ∧ b ≤ 65535) then osum a b else -1) := by
 unfold spec_SumAdd.f
 rw [specWord, specWord]
 simp only [Option.bind_some]
 by_cases h : 0 ≤ a ∧ a ≤ 65535
 ·by_cases h' : 0 ≤ b ∧ b ≤ 65535
  ·rw [decide_eq_true h, decide_eq_true h']
   simp only [if_true]
   rw [if_pos (show (0 ≤ a ∧ a ≤ 65535) ∧ (0 ≤ b ∧ b ≤ 65535) from ⟨h, h'⟩)]
   unfold osum
   rw [w64 (n := a + b) (by omega) (by omega), w64 (by omega) (by omega)]
   split <;> rfl
  ·rw [decide_eq_true h, decide_eq_false h', if_pos (by first | rfl | trivial), if_neg Bool.false_ne_true, if_neg (fun hh => h' hh.2)]
 ·rw [decide_eq_false h, if_neg Bool.false_ne_true, if_neg (fun hh => h hh.1)]

theorem specOnes_l (xs : List Int) (hx : U8 xs) (hn : xs.length ≤ 140737488355328) (d : Nat) : ∀ (k : Nat) (s i : Int), 0 ≤ i → (xs.length : Int) - i ≤ d → i ≤ xs.length + 1 → d + 1 < k → 0 ≤ s → s ≤ 65535 → spec_OnesSum.l0 k xs s i = some (ones (xs.drop i.toNat) s) := by
 induction d with
 | zero =>
  intro k s i h0 hi _ hk _ _
  obtain ⟨k, rfl⟩ := pos_k hk
  simp only [spec_OnesSum.l0]
  rw [if_neg (by omega), List.drop_eq_nil_of_le (by omega)]
  rfl
 | succ d ih =>
  intro k s i h0 hi hi2 hk hs0 hs1
  obtain ⟨k, rfl⟩ := pos_k hk
  by_cases hlt : i < xs.length
  ·have hb := hx.byte i
   simp only [spec_OnesSum.l0]
   rw [if_pos hlt, if_pos h0, w64 (n := i + 1) (by omega) (by omega), w64 (n := rd xs i) (by omega) (by omega), w64 (n := 256 * rd xs i) (by omega) (by omega), w64 (n := i + 2) (by omega) (by omega), drop_rd h0 hlt]
   by_cases h2 : i + 1 < xs.length
   ·have hc := hx.byte (i + 1)
    have ho := osum_word hs0 hs1 (show 0 ≤ rd xs i * 256 + rd xs (i + 1) by omega) (by omega)
    rw [if_pos h2, if_pos (by omega), w64 (n := rd xs (i + 1)) (by omega) (by omega), w64 (n := 256 * rd xs i + rd xs (i + 1)) (by omega) (by omega), specSumAdd (by omega), if_pos ⟨⟨by omega, by omega⟩, by omega, by omega⟩]
    simp only [Option.bind_some]
    rw [Int.mul_comm 256, ih k _ (i + 2) (by omega) (by omega) (by omega) (by omega) ho.1 ho.2, drop_rd (i := i + 1) (by omega) h2, show i + 1 + 1 = i + 2 by omega]
    rfl
   ·have ho := osum_word hs0 hs1 (show 0 ≤ rd xs i * 256 by omega) (by omega)
    rw [if_neg h2, specSumAdd (by omega), if_pos ⟨⟨by omega, by omega⟩, by omega, by omega⟩]
    simp only [Option.bind_some]
    rw [Int.mul_comm 256, ih k _ (i + 2) (by omega) (by omega) (by omega) (by omega) ho.1 ho.2, List.drop_eq_nil_of_le (i := (i + 1).toNat) (by omega), List.drop_eq_nil_of_le (i := (i + 2).toNat) (by omega)]
    rfl
  ·simp only [spec_OnesSum.l0]
   rw [if_neg hlt, List.drop_eq_nil_of_le (by omega)]
   rfl
theorem specOnesSum {xs : List Int} (hx : U8 xs) {k : Nat} (hk : xs.length + 10 < k) : spec_OnesSum.f k xs = some (if (xs.length : Int) > 2000 then -1 else ones xs 0) := by
 unfold spec_OnesSum.f
 by_cases h : (xs.length : Int) > 2000
 ·rw [if_pos h, if_pos h]
 ·rw [if_neg h, if_neg h, specOnes_l xs hx (by omega) xs.length k 0 0 (by omega) (by omega) (by omega) (by omega) (by omega) (by omega)]
  rfl

theorem implOnes_l (xs : List Int) (hx : U8 xs) (hn : xs.length ≤ 140737488355328) (d : Nat) : ∀ (k : Nat) (s i : Int), 0 ≤ i → (xs.length : Int) - i ≤ d → i ≤ xs.length + 1 → d + 1 < k → 0 ≤ s → s ≤ 65535 → impl_onesSum.l0 k xs s i = some (ones (xs.drop i.toNat) s) := by
 induction d with
 | zero =>
  intro k s i h0 hi _ hk _ _
  obtain ⟨k, rfl⟩ := pos_k hk
  simp only [impl_onesSum.l0]
  rw [if_neg (by omega), List.drop_eq_nil_of_le (by omega)]
  rfl
 | succ d ih =>
  intro k s i h0 hi hi2 hk hs0 hs1
  obtain ⟨k, rfl⟩ := pos_k hk
  by_cases hlt : i < xs.length
  ·have hb := hx.byte i
   simp only [impl_onesSum.l0]
   rw [if_pos hlt, if_pos h0, w64 (n := i + 1) (by omega) (by omega), w64 (n := rd xs i) (by omega) (by omega), w64 (n := i + 2) (by omega) (by omega), drop_rd h0 hlt]
   by_cases h2 : i + 1 < xs.length
   ·have hc := hx.byte (i + 1)
    have ho := osum_word hs0 hs1 (show 0 ≤ rd xs i * 256 + rd xs (i + 1) by omega) (by omega)
    rw [if_pos h2, if_pos (by omega), or_be (by omega) (by omega) hc.1 hc.2, implSum (by omega) (by omega) (by omega) (by omega)]
    simp only [Option.bind_some]
    rw [ih k _ (i + 2) (by omega) (by omega) (by omega) (by omega) ho.1 ho.2, drop_rd (i := i + 1) (by omega) h2, show i + 1 + 1 = i + 2 by omega]
    rfl
   ·have ho := osum_word hs0 hs1 (show 0 ≤ rd xs i * 256 by omega) (by omega)
    rw [if_neg h2, w64 (n := rd xs i * 256) (by omega) (by omega), implSum (by omega) (by omega) (by omega) (by omega)]
    simp only [Option.bind_some]
    rw [ih k _ (i + 2) (by omega) (by omega) (by omega) (by omega) ho.1 ho.2, List.drop_eq_nil_of_le (i := (i + 1).toNat) (by omega), List.drop_eq_nil_of_le (i := (i + 2).toNat) (by omega)]
    rfl
  ·simp only [impl_onesSum.l0]
   rw [if_neg hlt, List.drop_eq_nil_of_le (by omega)]
   rfl
theorem implOnes {xs : List Int} (hx : U8 xs) (hn : xs.length ≤ 140737488355328) {k : Nat} (hk : xs.length + 10 < k) : impl_onesSum.f k xs = some (ones xs 0) := by
 unfold impl_onesSum.f
 rw [implOnes_l xs hx hn xs.length k 0 0 (by omega) (by omega) (by omega) (by omega) (by omega) (by omega)]
 rfl

theorem ones_w (xs : List Int) (hx : U8 xs) : 0 ≤ ones xs 0 ∧ ones xs 0 ≤ 65535 := ones_word xs.length xs 0 (Nat.le_refl _) hx (by omega) (by omega)
def pseudoBytes (k a b c d k' a' b' c' d' p n : Int) : List Int :=
 addrBytes k a b c d ++ (addrBytes k' a' b' c' d' ++ (if k = 6 then b4 n ++ [0, 0, 0, p % 256] else [0, p % 256] ++ b2 n))
theorem pseudo_u8 (k a b c d k' a' b' c' d' p n : Int) : U8 (pseudoBytes k a b c d k' a' b' c' d' p n) := by
 unfold pseudoBytes
 refine (addrBytes_u8 _ _ _ _ _).append ((addrBytes_u8 _ _ _ _ _).append ?_)
 split
 ·exact (U8.b4 _).append (U8.cons (by omega) (by omega) (U8.cons (by omega) (by omega) (U8.cons (by omega) (by omega) (U8.cons (by omega) (by omega) U8.nil))))
 ·exact U8.append (U8.cons (by omega) (by omega) (U8.cons (by omega) (by omega) U8.nil)) (U8.b2 _)
theorem pseudo_len (k a b c d k' a' b' c' d' p n : Int) : (pseudoBytes k a b c d k' a' b' c' d' p n).length ≤ 40 := by
 have h1 := addrBytes_len k a b c d
 have h2 := addrBytes_len k' a' b' c' d'
 unfold pseudoBytes
 simp only [List.length_append]
 split
 ·simp [b4]; omega
 ·simp [b2]; omega
theorem pair_kind {k a b c d k' a' b' c' d' : Int} (h : pairB k a b c d k' a' b' c' d' = true) : k = 4 ∨ k = 6 := by
 unfold pairB at h
 simp only [Bool.and_eq_true, decide_eq_true_eq] at h
 have h1 := h.1
 unfold AddrOK at h1
 omega
def psum (k a b c d k' a' b' c' d' p n : Int) : Int := ones (pseudoBytes k a b c d k' a' b' c' d' p n) 0
theorem psum_w (k a b c d k' a' b' c' d' p n : Int) : 0 ≤ psum k a b c d k' a' b' c' d' p n ∧ psum k a b c d k' a' b' c' d' p n ≤ 65535 := ones_w _ (pseudo_u8 _ _ _ _ _ _ _ _ _ _ _ _)
theorem specPseudo {m : Nat} (hm : 100 ≤ m) {k a b c d k' a' b' c' d' p n : Int} (hp : pairB k a b c d k' a' b' c' d' = true) (h1 : 0 ≤ p ∧ p ≤ 255) (h2 : 0 ≤ n ∧ n ≤ 1500) : spec_PseudoSum.f m k a b c d k' a' b' c' d' p n = some (psum k a b c d k' a' b' c' d' p n) := by
 unfold spec_PseudoSum.f psum
 rw [specPair, specIn, specIn]
 simp only [Option.bind_some]
 have hl := pseudo_len k a b c d k' a' b' c' d' p n
 have hu := pseudo_u8 k a b c d k' a' b' c' d' p n
 have l1 := addrBytes_len k a b c d
 have l2 := addrBytes_len k' a' b' c' d'
 have hk := pair_kind hp
 rw [if_pos hp, decide_eq_true h1, if_pos rfl, decide_eq_true h2, if_pos rfl, specAddrBytes, specAddrBytes]
 simp only [Option.bind_some]
 rw [if_pos (by omega)]
 unfold pseudoBytes at hl hu ⊢
 by_cases h4 : k = 4
 ·rw [if_neg (show ¬ k = 6 by omega)] at hl hu ⊢
  rw [if_pos h4, if_pos (by simp; omega), specPut16 (by omega)]
  simp only [Option.bind_some]
  rw [if_pos (by simp; omega)]
  rw [show addrBytes k a b c d ++ addrBytes k' a' b' c' d' ++ [0, p % 256] ++ [n / 256 % 256, n % 256] = addrBytes k a b c d ++ (addrBytes k' a' b' c' d' ++ ([0, p % 256] ++ b2 n)) by simp [b2]]
  rw [specOnesSum hu (by omega), if_neg (by omega)]
  rfl
 ·rw [if_pos (show k = 6 by omega)] at hl hu ⊢
  rw [if_neg h4, specPut32 (by omega)]
  simp only [Option.bind_some]
  rw [if_pos (by simp; omega), if_pos (by simp; omega)]
  rw [show addrBytes k a b c d ++ addrBytes k' a' b' c' d' ++ [n / 16777216 % 256, n / 65536 % 256, n / 256 % 256, n % 256] ++ [0, 0, 0, p % 256] = addrBytes k a b c d ++ (addrBytes k' a' b' c' d' ++ (b4 n ++ [0, 0, 0, p % 256])) by simp [b4]]
  rw [specOnesSum hu (by omega), if_neg (by omega)]
  rfl
theorem flat3 (A B C D : List Int) : [A, B, [C, D].flatten].flatten = A ++ (B ++ (C ++ D)) := by simp
theorem pseudoBytes_6 {k : Int} (h : k = 6) (a b c d k' a' b' c' d' p n : Int) : pseudoBytes k a b c d k' a' b' c' d' p n = addrBytes k a b c d ++ (addrBytes k' a' b' c' d' ++ (b4 n ++ [0, 0, 0, p % 256])) := by
 unfold pseudoBytes
 rw [if_pos h]
theorem pseudoBytes_4 {k : Int} (h : ¬ k = 6) (a b c d k' a' b' c' d' p n : Int) : pseudoBytes k a b c d k' a' b' c' d' p n = addrBytes k a b c d ++ (addrBytes k' a' b' c' d' ++ ([0, p % 256] ++ b2 n)) := by
 unfold pseudoBytes
 rw [if_neg h]
theorem concat2 {m : Nat} (hm : 50 ≤ m) (A B : List Int) (hA : A.length ≤ 100) (hB : B.length ≤ 100) : slices_Concat_byte_byte.f m [A, B] = some [A, B].flatten :=
 concat (by simp) (by simp; omega) (by simp; omega)
theorem concat3 {m : Nat} (hm : 50 ≤ m) (A B C : List Int) (hA : A.length ≤ 100) (hB : B.length ≤ 100) (hC : C.length ≤ 100) : slices_Concat_byte_byte.f m [A, B, C] = some [A, B, C].flatten :=
 concat (by simp) (by simp; omega) (by simp; omega)
theorem implPseudo {m : Nat} (hm : 100 ≤ m) (k a b c d k' a' b' c' d' p n : Int) : impl_pseudoSum.f m k a b c d k' a' b' c' d' p n = some (psum k a b c d k' a' b' c' d' p n) := by
 have hu := pseudo_u8 k a b c d k' a' b' c' d' p n
 have hl := pseudo_len k a b c d k' a' b' c' d' p n
 have l1 := addrBytes_len k a b c d
 have l2 := addrBytes_len k' a' b' c' d'
 have e2 : (b2 n).length = 2 := rfl
 have e4 : (b4 n).length = 4 := rfl
 unfold impl_pseudoSum.f psum
 rw [implPut16 (by omega), Option.bind_some, concat2 (by omega) _ _ (by simp) (by omega), Option.bind_some]
 by_cases h6 : k = 6
 ·rw [pseudoBytes_6 h6] at hu hl ⊢
  rw [if_pos h6, implPut32 (by omega), Option.bind_some, concat2 (by omega) _ _ (by omega) (by simp), Option.bind_some, implAddrBytes (by omega), Option.bind_some, implAddrBytes (by omega), Option.bind_some, concat3 (by omega) _ _ _ (by omega) (by omega) (by simp; omega), Option.bind_some, flat3, implOnes hu (by omega) (by omega), Option.bind_some]
 ·rw [pseudoBytes_4 h6] at hu hl ⊢
  rw [if_neg h6, implAddrBytes (by omega), Option.bind_some, implAddrBytes (by omega), Option.bind_some, concat3 (by omega) _ _ _ (by omega) (by omega) (by simp; omega), Option.bind_some, flat3, implOnes hu (by omega) (by omega), Option.bind_some]

def upBytes (a0 a1 a2 a3 a4 a5 a6 a7 a8 a9 a10 : Int) (l m : List Int) (s : Int) : List Int :=
 if a0 = 1 then b2 a1 ++ (b2 a2 ++ (b4 a3 ++ (b4 a4 ++ (b2 (4096 * (5 + (l.length : Int) / 4) + a5) ++ (b2 a6 ++ (b2 s ++ (b2 a7 ++ (l ++ m))))))))
 else if a0 = 2 then b2 a1 ++ (b2 a2 ++ (b2 (8 + (m.length : Int)) ++ (b2 s ++ m)))
 else if a0 = 3 then [a8 % 256, a9 % 256] ++ (b2 s ++ (b4 a10 ++ m))
 else m
/-- What a right upper packet's numbers are. -/
theorem upV_facts {a0 a1 a2 a3 a4 a5 a6 a7 a8 a9 a10 : Int} {a11 : Bool} {l : List Int} {b k : Int} (h : upV a0 a1 a2 a3 a4 a5 a6 a7 a8 a9 a10 a11 l b k = true) :
  (0 ≤ usize a0 l.length b ∧ usize a0 l.length b ≤ 1500) ∧ (a0 = 0 ∨ a0 = 1 ∨ a0 = 2 ∨ a0 = 3) ∧ (a0 = 1 → ((0 ≤ a1 ∧ a1 ≤ 65535) ∧ (0 ≤ a2 ∧ a2 ≤ 65535)) ∧ (0 ≤ a3 ∧ a3 ≤ 4294967295) ∧ (0 ≤ a4 ∧ a4 ≤ 4294967295) ∧ (0 ≤ a5 ∧ a5 ≤ 4095) ∧ (0 ≤ a6 ∧ a6 ≤ 65535) ∧ (0 ≤ a7 ∧ a7 ≤ 65535) ∧ (l.length : Int) ≤ 40 ∧ (l.length : Int) % 4 = 0)
   ∧ (a0 = 2 → (0 ≤ a1 ∧ a1 ≤ 65535) ∧ (0 ≤ a2 ∧ a2 ≤ 65535)) ∧ (a0 = 3 → (0 ≤ a8 ∧ a8 ≤ 255) ∧ (0 ≤ a9 ∧ a9 ≤ 255) ∧ (0 ≤ a10 ∧ a10 ≤ 4294967295)) := by
 unfold upV at h
 simp only [Bool.and_eq_true] at h
 obtain ⟨⟨_, hs⟩, hr⟩ := h
 have hz : 0 ≤ usize a0 l.length b ∧ usize a0 l.length b ≤ 1500 := by
  unfold upSz at hs
  exact of_decide_eq_true hs
 refine ⟨hz, ?_, fun h1 => ?_, fun h2 => ?_, fun h3 => ?_⟩
 ·unfold usize at hz
  by_cases h0 : a0 = 0
  ·exact .inl h0
  ·by_cases h1 : a0 = 1
   ·exact .inr (.inl h1)
   ·by_cases h2 : a0 = 2
    ·exact .inr (.inr (.inl h2))
    ·by_cases h3 : a0 = 3
     ·exact .inr (.inr (.inr h3))
     ·rw [if_neg h0, if_neg h1, if_neg h2, if_neg h3] at hz
      omega
 ·rw [if_pos h1] at hr
  simp only [Bool.and_eq_true] at hr
  have p := hr.1.1.1
  have t := hr.1.1.2
  unfold upPorts at p
  unfold upTcp at t
  exact ⟨of_decide_eq_true p, of_decide_eq_true t⟩
 ·rw [if_neg (by omega), if_pos h2] at hr
  simp only [Bool.and_eq_true] at hr
  have p := hr.1.1.1
  unfold upPorts at p
  exact of_decide_eq_true p
 ·rw [if_neg (by omega), if_neg (by omega), if_pos h3] at hr
  simp only [Bool.and_eq_true] at hr
  have p := hr.1.2
  unfold upIc at p
  exact of_decide_eq_true p
theorem upBytes_len {a0 a1 a2 a3 a4 a5 a6 a7 a8 a9 a10 : Int} {a11 : Bool} {l m : List Int} {k : Int} (s : Int) (h : upV a0 a1 a2 a3 a4 a5 a6 a7 a8 a9 a10 a11 l m.length k = true) : (upBytes a0 a1 a2 a3 a4 a5 a6 a7 a8 a9 a10 l m s).length ≤ 1500 := by
 have hf := upV_facts h
 obtain ⟨hz, hk, -⟩ := hf
 unfold usize at hz
 unfold upBytes
 rcases hk with rfl | rfl | rfl | rfl
 ·simp at hz ⊢; omega
 ·simp [b2, b4] at hz ⊢; omega
 ·simp [b2] at hz ⊢; omega
 ·simp [b2, b4] at hz ⊢; omega
theorem upBytes_u8 (a0 a1 a2 a3 a4 a5 a6 a7 a8 a9 a10 : Int) {l m : List Int} (hl : U8 l) (hm : U8 m) (s : Int) : U8 (upBytes a0 a1 a2 a3 a4 a5 a6 a7 a8 a9 a10 l m s) := by
 unfold upBytes
 split
 ·exact (U8.b2 _).append ((U8.b2 _).append ((U8.b4 _).append ((U8.b4 _).append ((U8.b2 _).append ((U8.b2 _).append ((U8.b2 _).append ((U8.b2 _).append (hl.append hm))))))))
 ·split
  ·exact (U8.b2 _).append ((U8.b2 _).append ((U8.b2 _).append ((U8.b2 _).append hm)))
  ·split
   ·exact (U8.cons (by omega) (by omega) (U8.cons (by omega) (by omega) U8.nil)).append ((U8.b2 _).append ((U8.b4 _).append hm))
   ·exact hm
theorem optWord {n a5 : Int} (h0 : 0 ≤ n) (h1 : n ≤ 40) (h2 : 0 ≤ a5) (h3 : a5 ≤ 4095) : wrap64 (wrap64 (4096 * wrap64 (5 + wrap64 (n / 4))) + a5) = 4096 * (5 + n / 4) + a5 := by
 rw [w64 (n := n / 4) (by omega) (by omega), w64 (n := 5 + n / 4) (by omega) (by omega), w64 (n := 4096 * (5 + n / 4)) (by omega) (by omega), w64 (by omega) (by omega)]
theorem specUp {a0 a1 a2 a3 a4 a5 a6 a7 a8 a9 a10 : Int} {a11 : Bool} {l m : List Int} {k : Int} (hn : l.length + m.length ≤ 1048576) (h : upV a0 a1 a2 a3 a4 a5 a6 a7 a8 a9 a10 a11 l m.length k = true) {s : Int} (hs : 0 ≤ s ∧ s ≤ 65535) :
  spec_l07Bytes.f a0 a1 a2 a3 a4 a5 a6 a7 a8 a9 a10 a11 l m s = some (upBytes a0 a1 a2 a3 a4 a5 a6 a7 a8 a9 a10 l m s) := by
 obtain ⟨hz, hk, h1, h2, h3⟩ := upV_facts h
 clear h
 unfold spec_l07Bytes.f upBytes
 rw [Option.bind_some]
 rcases hk with rfl | rfl | rfl | rfl
 ·simp only [show ¬ ((0 : Int) = 1) by decide, show ¬ ((0 : Int) = 2) by decide, show ¬ ((0 : Int) = 3) by decide, if_false]
  rw [if_pos (by simp; omega), List.nil_append]
 ·obtain ⟨⟨p1, p2⟩, p3, p4, p5, p6, p7, p8, p9⟩ := h1 rfl
  simp only [if_true]
  rw [optWord (by omega) p8 p5.1 p5.2, specPut16 (a := a1) (by omega), specPut16 (a := a2) (by omega), specPut32 (a := a3) (by omega), specPut32 (a := a4) (by omega), specPut16 (a := 4096 * (5 + (l.length : Int) / 4) + a5) (by omega), specPut16 (a := a6) (by omega), specPut16 (a := s) (by omega), specPut16 (a := a7) (by omega)]
  simp only [Option.bind_some]
  iterate 9 rw [if_pos (by simp only [List.length_append, List.length_cons, List.length_nil]; omega)]
  simp [b2, b4]
 ·obtain ⟨p1, p2⟩ := h2 rfl
  simp only [show ¬ ((2 : Int) = 1) by decide, if_true, if_false]
  rw [specUpperSize _ _ _ _ _ _ _ _ _ _ _ _ l m hn, specPut16 (a := a1) (by omega), specPut16 (a := a2) (by omega), specPut16 (a := s) (by omega)]
  have hu : usize 2 l.length m.length = 8 + (m.length : Int) := by simp [usize]
  rw [hu]
  simp only [Option.bind_some, specPut16 (a := 8 + (m.length : Int)) (by omega)]
  iterate 4 rw [if_pos (by simp only [List.length_append, List.length_cons, List.length_nil]; omega)]
  simp [b2]
 ·obtain ⟨p8, p9, p10⟩ := h3 rfl
  simp only [show ¬ ((3 : Int) = 1) by decide, show ¬ ((3 : Int) = 2) by decide, if_true, if_false]
  rw [specPut16 (a := s) (by omega), specPut32 (a := a10) (by omega)]
  simp only [Option.bind_some]
  iterate 4 rw [if_pos (by simp only [List.length_append, List.length_cons, List.length_nil]; omega)]
  simp [b2, b4]
theorem implUp {q : Nat} (hq : 60 ≤ q) {a0 a1 a2 a3 a4 a5 a6 a7 a8 a9 a10 : Int} {a11 : Bool} {l m : List Int} {k : Int} (hn : l.length + m.length ≤ 1048576) (h : upV a0 a1 a2 a3 a4 a5 a6 a7 a8 a9 a10 a11 l m.length k = true) (s : Int) :
  impl_Upper_encoded.f q a0 a1 a2 a3 a4 a5 a6 a7 a8 a9 a10 a11 l m s = some (upBytes a0 a1 a2 a3 a4 a5 a6 a7 a8 a9 a10 l m s) := by
 obtain ⟨hz, hk, h1, h2, h3⟩ := upV_facts h
 clear h
 have e2 : ∀ n : Int, (b2 n).length = 2 := fun _ => rfl
 have e4 : ∀ n : Int, (b4 n).length = 4 := fun _ => rfl
 have hp : slices_Concat_byte_byte.f q [b2 a1, b2 a2] = some (b2 a1 ++ b2 a2) := by
  rw [concat2 (by omega) _ _ (by rw [e2]; omega) (by rw [e2]; omega)]
  simp
 unfold impl_Upper_encoded.f upBytes
 rw [implPut16 (by omega), Option.bind_some, implPut16 (by omega), Option.bind_some, hp, Option.bind_some]
 rcases hk with rfl | rfl | rfl | rfl
 ·simp only [show ¬ ((0 : Int) = 1) by decide, show ¬ ((0 : Int) = 2) by decide, show ¬ ((0 : Int) = 3) by decide, if_false]
  unfold slices_Clone_byte_byte.f
  rw [if_pos (by omega)]
  rfl
 ·obtain ⟨_, p3, p4, p5, p6, p7, p8, p9⟩ := h1 rfl
  simp only [if_true]
  rw [optWord (by omega) p8 p5.1 p5.2, implPut16 (by omega), Option.bind_some, implPut32 (by omega), Option.bind_some, implPut32 (by omega), Option.bind_some, implPut16 (by omega), Option.bind_some, implPut16 (by omega), Option.bind_some, implPut16 (by omega), Option.bind_some,
   concat (by simp) (by simp [b2, b4]; omega) (by simp; omega), Option.bind_some]
  simp
 ·simp only [show ¬ ((2 : Int) = 1) by decide, if_true, if_false]
  have hu : usize 2 l.length m.length = 8 + (m.length : Int) := by simp [usize]
  rw [implUpperSize _ _ _ _ _ _ _ _ _ _ _ _ l m hn, Option.bind_some, hu, implPut16 (by omega), Option.bind_some, implPut16 (by omega), Option.bind_some, concat (by simp) (by simp [b2]; omega) (by simp; omega), Option.bind_some]
  simp
 ·simp only [show ¬ ((3 : Int) = 1) by decide, show ¬ ((3 : Int) = 2) by decide, if_true, if_false]
  rw [implPut16 (by omega), Option.bind_some, implPut32 (by omega), Option.bind_some, concat (by simp) (by simp [b2, b4]; omega) (by simp; omega), Option.bind_some]
  simp
def upProto (a0 : Int) : Int := if a0 = 1 then 6 else if a0 = 2 then 17 else 58
def upTop (a0 o b k a1 b1 c1 d1 k' a' b' c' d' : Int) : Int := if a0 = 3 ∧ ¬ k = 6 then 0 else psum k a1 b1 c1 d1 k' a' b' c' d' (upProto a0) (usize a0 o b)
theorem upTop_w (a0 o b k a1 b1 c1 d1 k' a' b' c' d' : Int) : 0 ≤ upTop a0 o b k a1 b1 c1 d1 k' a' b' c' d' ∧ upTop a0 o b k a1 b1 c1 d1 k' a' b' c' d' ≤ 65535 := by
 unfold upTop
 split
 ·omega
 ·exact psum_w _ _ _ _ _ _ _ _ _ _ _ _
def upFin (a0 c : Int) : Int := if a0 = 2 ∧ c = 0 then 65535 else c
theorem upFin_w {a0 c : Int} (h : 0 ≤ c ∧ c ≤ 65535) : 0 ≤ upFin a0 c ∧ upFin a0 c ≤ 65535 := by
 unfold upFin
 split <;> omega
/-- The checksum of an upper packet between two addresses, -1 for none. -/
def upSum (a0 a1 a2 a3 a4 a5 a6 a7 a8 a9 a10 : Int) (a11 : Bool) (l m : List Int) (k a b c d k' a' b' c' d' : Int) : Int :=
 if pairB k a b c d k' a' b' c' d' = true ∧ upV a0 a1 a2 a3 a4 a5 a6 a7 a8 a9 a10 a11 l m.length k = true then
  (if a0 = 0 ∨ a11 = true then 0 else upFin a0 (65535 - osum (upTop a0 l.length m.length k a b c d k' a' b' c' d') (ones (upBytes a0 a1 a2 a3 a4 a5 a6 a7 a8 a9 a10 l m 0) 0))) else -1
theorem upSum_le (a0 a1 a2 a3 a4 a5 a6 a7 a8 a9 a10 : Int) (a11 : Bool) {l m : List Int} (hl : U8 l) (hm : U8 m) (k a b c d k' a' b' c' d' : Int) :
  upSum a0 a1 a2 a3 a4 a5 a6 a7 a8 a9 a10 a11 l m k a b c d k' a' b' c' d' ≤ 65535 ∧ (¬ upSum a0 a1 a2 a3 a4 a5 a6 a7 a8 a9 a10 a11 l m k a b c d k' a' b' c' d' < 0 → 0 ≤ upSum a0 a1 a2 a3 a4 a5 a6 a7 a8 a9 a10 a11 l m k a b c d k' a' b' c' d' ∧ upV a0 a1 a2 a3 a4 a5 a6 a7 a8 a9 a10 a11 l m.length k = true) := by
 unfold upSum
 split
 ·rename_i h
  refine ⟨?_, fun hh => ⟨by omega, h.2⟩⟩
  split
  ·omega
  ·have h1 := upTop_w a0 l.length m.length k a b c d k' a' b' c' d'
   have h2 := ones_w _ (upBytes_u8 a0 a1 a2 a3 a4 a5 a6 a7 a8 a9 a10 hl hm 0)
   have h3 := osum_word h1.1 h1.2 h2.1 h2.2
   exact (upFin_w (by omega)).2
 ·exact ⟨by omega, fun hh => absurd (by decide) hh⟩
theorem wrapDown {x : Int} (h : 0 ≤ x ∧ x ≤ 65535) : wrap64 (65535 - x) = 65535 - x := w64 (by omega) (by omega)
theorem specUpperSum {q : Nat} (hq : 1600 ≤ q) (a0 a1 a2 a3 a4 a5 a6 a7 a8 a9 a10 : Int) (a11 : Bool) {l m : List Int} (hl : U8 l) (hm : U8 m) (hn : l.length + m.length ≤ 1048576) (k a b c d k' a' b' c' d' : Int) :
  spec_UpperSum.f q a0 a1 a2 a3 a4 a5 a6 a7 a8 a9 a10 a11 l m k a b c d k' a' b' c' d' = some (upSum a0 a1 a2 a3 a4 a5 a6 a7 a8 a9 a10 a11 l m k a b c d k' a' b' c' d') := by
 unfold spec_UpperSum.f upSum
 rw [specPair, Option.bind_some]
 by_cases hp : pairB k a b c d k' a' b' c' d' = true
 rotate_left
 ·rw [if_neg hp, if_neg (fun hh => hp hh.1)]
 rw [if_pos hp, specUpperOk _ _ _ _ _ _ _ _ _ _ _ _ l m _ hn, Option.bind_some]
 by_cases hv : upV a0 a1 a2 a3 a4 a5 a6 a7 a8 a9 a10 a11 l m.length k = true
 rotate_left
 ·rw [if_neg hv, if_neg (fun hh => hv hh.2)]
 rw [if_pos hv, if_pos (And.intro hp hv)]
 by_cases h0 : a0 = 0
 ·rw [if_pos h0, if_pos (Or.inl h0 : a0 = 0 ∨ a11 = true)]
 rw [if_neg h0]
 by_cases h11 : a11 = true
 ·rw [if_pos h11, if_pos (Or.inr h11 : a0 = 0 ∨ a11 = true)]
 rw [if_neg h11, if_neg (fun hh : a0 = 0 ∨ a11 = true => hh.elim h0 h11)]
 obtain ⟨hz, hk, -⟩ := upV_facts hv
 have hu := upBytes_u8 a0 a1 a2 a3 a4 a5 a6 a7 a8 a9 a10 hl hm 0
 have hlen := upBytes_len 0 hv
 have ho : spec_OnesSum.f q (upBytes a0 a1 a2 a3 a4 a5 a6 a7 a8 a9 a10 l m 0) = some (ones (upBytes a0 a1 a2 a3 a4 a5 a6 a7 a8 a9 a10 l m 0) 0) := by
  rw [specOnesSum hu (by omega), if_neg (by omega)]
 have hb := specUp hn hv (s := 0) (by omega)
 have ow := ones_w _ hu
 have tw := upTop_w a0 l.length m.length k a b c d k' a' b' c' d'
 have hs : ∀ t, 0 ≤ t ∧ t ≤ 65535 → spec_SumAdd.f t (ones (upBytes a0 a1 a2 a3 a4 a5 a6 a7 a8 a9 a10 l m 0) 0) = some (osum t (ones (upBytes a0 a1 a2 a3 a4 a5 a6 a7 a8 a9 a10 l m 0) 0)) := fun t ht => by
  rw [specSumAdd (by omega), if_pos ⟨ht, ow⟩]
 have hw := osum_word tw.1 tw.2 ow.1 ow.2
 have hd := wrapDown hw
 rw [specUpperSize _ _ _ _ _ _ _ _ _ _ _ _ l m hn, hb]
 simp only [Option.bind_some, ho]
 generalize ones (upBytes a0 a1 a2 a3 a4 a5 a6 a7 a8 a9 a10 l m 0) 0 = o at *
 unfold upTop upProto at *
 rcases hk with rfl | rfl | rfl | rfl
 ·exact absurd rfl h0
 ·simp only [show ¬ ((1 : Int) = 3) by decide, show ¬ ((1 : Int) = 2) by decide, false_and, if_false, if_true] at *
  rw [specPseudo (by omega) hp (by omega) hz, Option.bind_some, hs _ tw, Option.bind_some, hd]
  unfold upFin
  simp
 ·simp only [show ¬ ((2 : Int) = 3) by decide, show ¬ ((2 : Int) = 1) by decide, false_and, if_false, if_true] at *
  rw [specPseudo (by omega) hp (by omega) hz, Option.bind_some, hs _ tw, Option.bind_some, hd]
  unfold upFin
  simp only [true_and]
  split <;> rfl
 ·simp only [show ¬ ((3 : Int) = 2) by decide, show ¬ ((3 : Int) = 1) by decide, true_and, if_false] at *
  by_cases h6 : k = 6
  ·simp only [h6, not_true_eq_false, if_false, if_true] at *
   rw [specPseudo (by omega) hp (by omega) hz, Option.bind_some, hs _ tw, Option.bind_some, hd]
   unfold upFin
   simp
  ·simp only [h6, not_false_eq_true, if_false, if_true] at *
   rw [hs _ tw, Option.bind_some, hd]
   unfold upFin
   simp
theorem implUpperSum {q : Nat} (hq : 1600 ≤ q) (a0 a1 a2 a3 a4 a5 a6 a7 a8 a9 a10 : Int) (a11 : Bool) {l m : List Int} (hl : U8 l) (hm : U8 m) (hn : l.length + m.length ≤ 1048576) (k a b c d k' a' b' c' d' : Int) :
  impl_UpperSum.f q a0 a1 a2 a3 a4 a5 a6 a7 a8 a9 a10 a11 l m k a b c d k' a' b' c' d' = some (upSum a0 a1 a2 a3 a4 a5 a6 a7 a8 a9 a10 a11 l m k a b c d k' a' b' c' d') := by
 unfold impl_UpperSum.f upSum
 rw [areBoth, Option.bind_some]
 by_cases hp : pairB k a b c d k' a' b' c' d' = true
 rotate_left
 ·rw [if_neg hp, if_neg (fun hh => hp hh.1)]
 rw [if_pos hp, implUpperOk (by omega) _ _ _ _ _ _ _ _ _ _ _ _ l m _ hn, Option.bind_some]
 by_cases hv : upV a0 a1 a2 a3 a4 a5 a6 a7 a8 a9 a10 a11 l m.length k = true
 rotate_left
 ·rw [if_neg hv, if_neg (fun hh => hv hh.2)]
 rw [if_pos hv, if_pos (And.intro hp hv)]
 by_cases h0 : a0 = 0
 ·rw [if_pos h0, if_pos (Or.inl h0 : a0 = 0 ∨ a11 = true)]
 rw [if_neg h0]
 by_cases h11 : a11 = true
 ·rw [if_pos h11, if_pos (Or.inr h11 : a0 = 0 ∨ a11 = true)]
 rw [if_neg h11, if_neg (fun hh : a0 = 0 ∨ a11 = true => hh.elim h0 h11)]
 obtain ⟨hz, hk, -⟩ := upV_facts hv
 have hu := upBytes_u8 a0 a1 a2 a3 a4 a5 a6 a7 a8 a9 a10 hl hm 0
 have hlen := upBytes_len 0 hv
 have ho : impl_onesSum.f q (upBytes a0 a1 a2 a3 a4 a5 a6 a7 a8 a9 a10 l m 0) = some (ones (upBytes a0 a1 a2 a3 a4 a5 a6 a7 a8 a9 a10 l m 0) 0) := implOnes hu (by omega) (by omega)
 have hb := implUp (q := q) (by omega) hn hv 0
 have ow := ones_w _ hu
 have tw := upTop_w a0 l.length m.length k a b c d k' a' b' c' d'
 have hs : ∀ t, 0 ≤ t ∧ t ≤ 65535 → impl_sum.f t (ones (upBytes a0 a1 a2 a3 a4 a5 a6 a7 a8 a9 a10 l m 0) 0) = some (osum t (ones (upBytes a0 a1 a2 a3 a4 a5 a6 a7 a8 a9 a10 l m 0) 0)) := fun t ht => implSum ht.1 ht.2 ow.1 ow.2
 have hw := osum_word tw.1 tw.2 ow.1 ow.2
 have hd := wrapDown hw
 simp only [implUpperSize _ _ _ _ _ _ _ _ _ _ _ _ l m hn, hb, ho, implPseudo (show 100 ≤ q by omega), Option.bind_some]
 generalize ones (upBytes a0 a1 a2 a3 a4 a5 a6 a7 a8 a9 a10 l m 0) 0 = o at *
 unfold upTop upProto at *
 rcases hk with rfl | rfl | rfl | rfl
 ·exact absurd rfl h0
 ·simp only [show ¬ ((1 : Int) = 3) by decide, show ¬ ((1 : Int) = 2) by decide, false_and, if_false, if_true, Option.bind_some] at *
  rw [hs _ tw, Option.bind_some, hd]
  unfold upFin
  simp
 ·simp only [show ¬ ((2 : Int) = 3) by decide, show ¬ ((2 : Int) = 1) by decide, false_and, if_false, if_true, Option.bind_some] at *
  rw [hs _ tw, Option.bind_some, hd]
  unfold upFin
  simp only [true_and]
  split <;> rfl
 ·simp only [show ¬ ((3 : Int) = 2) by decide, show ¬ ((3 : Int) = 1) by decide, true_and, if_false, if_true, Option.bind_some] at *
  by_cases h6 : k = 6
  ·simp only [h6, not_true_eq_false, if_false, if_true] at *
   rw [hs _ tw, Option.bind_some, hd]
   unfold upFin
   simp
  ·simp only [h6, not_false_eq_true, if_false, if_true] at *
   rw [hs _ tw, Option.bind_some, hd]
   unfold upFin
   simp

theorem beOf_step (k : Nat) (n : Int) (xs : List Int) (hx : U8 xs) (L i : Int) (hL : L = xs.length) (h0 : 0 ≤ i) (h : i < L) (hl : L ≤ 100) (hn0 : 0 ≤ n) (hn : n < 36028797018963968) :
  impl_beOf.l0 (k + 1) n xs L i = impl_beOf.l0 k (n * 256 + rd xs i) xs L (i + 1) := by
 have hb := hx.byte i
 simp only [impl_beOf.l0]
 rw [if_pos h, if_pos h0, if_pos (by omega), or_be hn0 hn hb.1 hb.2, w64 (by omega) (by omega)]
theorem beOf_end (k : Nat) (n : Int) (xs : List Int) (L i : Int) (h : ¬ i < L) : impl_beOf.l0 (k + 1) n xs L i = some n := by
 simp only [impl_beOf.l0]
 rw [if_neg h]
theorem beOf2 {k : Nat} (hk : 10 ≤ k) {a b : Int} (hx : U8 [a, b]) : impl_beOf.f k [a, b] = some (a * 256 + b) := by
 obtain ⟨k, rfl⟩ : ∃ m, k = m + 3 := ⟨k - 3, by omega⟩
 have ha := hx a (by simp)
 have hb := hx b (by simp)
 unfold impl_beOf.f
 rw [beOf_step _ _ _ hx _ _ rfl (by decide) (by simp) (by simp) (by omega) (by omega)]
 rw [show rd [a, b] 0 = a from rfl]
 rw [beOf_step _ _ _ hx _ _ rfl (by decide) (by simp) (by simp) (by omega) (by omega)]
 rw [show rd [a, b] (0 + 1) = b from rfl]
 rw [beOf_end _ _ _ _ _ (by simp)]
 congr 1
 omega
theorem beOf4 {k : Nat} (hk : 10 ≤ k) {a b c d : Int} (hx : U8 [a, b, c, d]) : impl_beOf.f k [a, b, c, d] = some (((a * 256 + b) * 256 + c) * 256 + d) := by
 obtain ⟨k, rfl⟩ : ∃ m, k = m + 5 := ⟨k - 5, by omega⟩
 have ha := hx a (by simp)
 have hb := hx b (by simp)
 have hc := hx c (by simp)
 have hd := hx d (by simp)
 unfold impl_beOf.f
 rw [beOf_step _ _ _ hx _ _ rfl (by decide) (by simp) (by simp) (by omega) (by omega)]
 rw [show rd [a, b, c, d] 0 = a from rfl]
 rw [beOf_step _ _ _ hx _ _ rfl (by decide) (by simp) (by simp) (by omega) (by omega)]
 rw [show rd [a, b, c, d] (0 + 1) = b from rfl]
 rw [beOf_step _ _ _ hx _ _ rfl (by decide) (by simp) (by simp) (by omega) (by omega)]
 rw [show rd [a, b, c, d] (0 + 1 + 1) = c from rfl]
 rw [beOf_step _ _ _ hx _ _ rfl (by decide) (by simp) (by simp) (by omega) (by omega)]
 rw [show rd [a, b, c, d] (0 + 1 + 1 + 1) = d from rfl]
 rw [beOf_end _ _ _ _ _ (by simp)]
 congr 1
 omega
theorem beOf6 {k : Nat} (hk : 10 ≤ k) {a b c d e f : Int} (hx : U8 [a, b, c, d, e, f]) : impl_beOf.f k [a, b, c, d, e, f] = some ((a * 256 + b) * 4294967296 + (((c * 256 + d) * 256 + e) * 256 + f)) := by
 obtain ⟨k, rfl⟩ : ∃ m, k = m + 7 := ⟨k - 7, by omega⟩
 have ha := hx a (by simp)
 have hb := hx b (by simp)
 have hc := hx c (by simp)
 have hd := hx d (by simp)
 have he := hx e (by simp)
 have hf := hx f (by simp)
 unfold impl_beOf.f
 rw [beOf_step _ _ _ hx _ _ rfl (by decide) (by simp) (by simp) (by omega) (by omega)]
 rw [show rd [a, b, c, d, e, f] 0 = a from rfl]
 rw [beOf_step _ _ _ hx _ _ rfl (by decide) (by simp) (by simp) (by omega) (by omega)]
 rw [show rd [a, b, c, d, e, f] (0 + 1) = b from rfl]
 rw [beOf_step _ _ _ hx _ _ rfl (by decide) (by simp) (by simp) (by omega) (by omega)]
 rw [show rd [a, b, c, d, e, f] (0 + 1 + 1) = c from rfl]
 rw [beOf_step _ _ _ hx _ _ rfl (by decide) (by simp) (by simp) (by omega) (by omega)]
 rw [show rd [a, b, c, d, e, f] (0 + 1 + 1 + 1) = d from rfl]
 rw [beOf_step _ _ _ hx _ _ rfl (by decide) (by simp) (by simp) (by omega) (by omega)]
 rw [show rd [a, b, c, d, e, f] (0 + 1 + 1 + 1 + 1) = e from rfl]
 rw [beOf_step _ _ _ hx _ _ rfl (by decide) (by simp) (by simp) (by omega) (by omega)]
 rw [show rd [a, b, c, d, e, f] (0 + 1 + 1 + 1 + 1 + 1) = f from rfl]
 rw [beOf_end _ _ _ _ _ (by simp)]
 congr 1
 omega

theorem beOf2i {xs : List Int} (hx : U8 xs) {i j : Int} (h0 : 0 ≤ i) (hj : j = i + 2) (h : j ≤ xs.length) {k : Nat} (hk : 10 ≤ k) : impl_beOf.f k ((xs.take j.toNat).drop i.toNat) = some (be2 xs i) := by
 subst hj
 have h1 := hx.byte i
 have h2 := hx.byte (i + 1)
 rw [slice2 h0 h, beOf2 hk (U8.cons h1.1 h1.2 (U8.cons h2.1 h2.2 U8.nil))]
 rfl
theorem beOf4i {xs : List Int} (hx : U8 xs) {i j : Int} (h0 : 0 ≤ i) (hj : j = i + 4) (h : j ≤ xs.length) {k : Nat} (hk : 10 ≤ k) : impl_beOf.f k ((xs.take j.toNat).drop i.toNat) = some (be4 xs i) := by
 subst hj
 have h1 := hx.byte i
 have h2 := hx.byte (i + 1)
 have h3 := hx.byte (i + 2)
 have h4 := hx.byte (i + 3)
 rw [slice4 h0 h, beOf4 hk (U8.cons h1.1 h1.2 (U8.cons h2.1 h2.2 (U8.cons h3.1 h3.2 (U8.cons h4.1 h4.2 U8.nil))))]
 rfl
theorem beOf6i {xs : List Int} (hx : U8 xs) {i j : Int} (h0 : 0 ≤ i) (hj : j = i + 6) (h : j ≤ xs.length) {k : Nat} (hk : 10 ≤ k) : impl_beOf.f k ((xs.take j.toNat).drop i.toNat) = some (be6 xs i) := by
 subst hj
 have h1 := hx.byte i
 have h2 := hx.byte (i + 1)
 have h3 := hx.byte (i + 2)
 have h4 := hx.byte (i + 3)
 have h5 := hx.byte (i + 4)
 have h6 := hx.byte (i + 5)
 rw [slice6 h0 h, beOf6 hk (U8.cons h1.1 h1.2 (U8.cons h2.1 h2.2 (U8.cons h3.1 h3.2 (U8.cons h4.1 h4.2 (U8.cons h5.1 h5.2 (U8.cons h6.1 h6.2 U8.nil))))))]
 unfold be6 be2 be4
 rw [show i + 2 + 1 = i + 3 by omega, show i + 2 + 2 = i + 4 by omega, show i + 2 + 3 = i + 5 by omega]

theorem specBe16 {xs : List Int} (hx : U8 xs) (hn : xs.length ≤ 140737488355328) (a : Int) (_ha : -9223372036854775808 ≤ a ∧ a ≤ 9223372036854775807) :
  spec_Be16.f xs a = some (if 0 ≤ a ∧ a + 2 ≤ xs.length then (rd xs a * 256 + rd xs (a + 1), true) else (0, false)) := by
 unfold spec_Be16.f
 rw [w64 (by omega) (by omega)]
 by_cases h : 0 ≤ a ∧ a + 2 ≤ xs.length
 ·have h1 := hx.byte a
  have h2 := hx.byte (a + 1)
  rw [if_pos h, if_neg (by omega), if_neg (by omega), if_pos (by omega), if_pos (by omega), w64 (n := a + 1) (by omega) (by omega), if_pos (by omega), if_pos (by omega),
   w64 (n := rd xs a) (by omega) (by omega), w64 (n := rd xs (a + 1)) (by omega) (by omega), w64 (n := 256 * rd xs a) (by omega) (by omega), w64 (by omega) (by omega), Int.mul_comm]
 ·rw [if_neg h]
  by_cases h0 : a < 0
  ·rw [if_pos h0]
  ·rw [if_neg h0, if_pos (by omega)]

theorem specBe32_step (k : Nat) (xs : List Int) (hx : U8 xs) (a n i : Int) (h0 : 0 ≤ a) (hi : 0 ≤ i) (hi4 : i < 4) (h : a + 4 ≤ xs.length) (hn : xs.length ≤ 140737488355328) (hn0 : 0 ≤ n) (hn1 : n < 36028797018963968) :
  spec_Be32.l0 (k + 1) xs a n i = spec_Be32.l0 k xs a (n * 256 + rd xs (a + i)) (i + 1) := by
 have hb := hx.byte (a + i)
 simp only [spec_Be32.l0]
 rw [if_pos hi4, w64 (n := a + i) (by omega) (by omega), if_pos (by omega), if_pos (by omega), w64 (n := i + 1) (by omega) (by omega), w64 (n := rd xs (a + i)) (by omega) (by omega), w64 (n := 256 * n) (by omega) (by omega), w64 (by omega) (by omega), Int.mul_comm 256 n]
theorem specBe32 {xs : List Int} (hx : U8 xs) (hn : xs.length ≤ 140737488355328) (a : Int) (_ha : -9223372036854775808 ≤ a ∧ a ≤ 9223372036854775807) {k : Nat} (hk : 10 ≤ k) :
  spec_Be32.f k xs a = some (if 0 ≤ a ∧ a + 4 ≤ xs.length then (((rd xs a * 256 + rd xs (a + 1)) * 256 + rd xs (a + 2)) * 256 + rd xs (a + 3), true) else (0, false)) := by
 obtain ⟨k, rfl⟩ : ∃ m, k = m + 6 := ⟨k - 6, by omega⟩
 unfold spec_Be32.f
 rw [w64 (by omega) (by omega)]
 by_cases h : 0 ≤ a ∧ a + 4 ≤ xs.length
 ·have h1 := hx.byte a
  have h2 := hx.byte (a + 1)
  have h3 := hx.byte (a + 2)
  have h4 := hx.byte (a + 3)
  rw [if_pos h, if_neg (by omega), if_neg (by omega)]
  rw [specBe32_step _ _ hx _ _ _ h.1 (by omega) (by omega) h.2 hn (by omega) (by omega), show a + 0 = a by omega, show (0 : Int) + 1 = 1 by rfl]
  rw [specBe32_step _ _ hx _ _ _ h.1 (by omega) (by omega) h.2 hn (by omega) (by omega), show (1 : Int) + 1 = 2 by rfl]
  rw [specBe32_step _ _ hx _ _ _ h.1 (by omega) (by omega) h.2 hn (by omega) (by omega), show (2 : Int) + 1 = 3 by rfl]
  rw [specBe32_step _ _ hx _ _ _ h.1 (by omega) (by omega) h.2 hn (by omega) (by omega), show (3 : Int) + 1 = 4 by rfl]
  simp only [spec_Be32.l0]
  rw [if_neg (by decide), show (0 : Int) * 256 + rd xs a = rd xs a by omega]
 ·rw [if_neg h]
  by_cases h0 : a < 0
  ·rw [if_pos h0]
  ·rw [if_neg h0, if_pos (by omega)]

def uz (c : Int) : Int × Int × Int × Int × Int × Int × Int × Int × Int × Int × Int × Bool × List Int × List Int × Int := (0, 0, 0, 0, 0, 0, 0, 0, 0, 0, 0, false, ([] : List Int), ([] : List Int), c)
def ukind (a0 a1 : Int) : Int := if 0 ≤ a0 ∧ a0 ≤ 255 then (if a1 = 4 then (if a0 = 6 then 1 else if a0 = 17 then 2 else if a0 = 1 then 3 else 0) else if a1 = 6 then (if a0 = 6 then 1 else if a0 = 17 then 2 else if a0 = 58 then 3 else 0) else -1) else -1
theorem specUKind (a0 a1 : Int) : spec_UpperKind.f a0 a1 = some (ukind a0 a1) := by
 unfold spec_UpperKind.f ukind
 rw [specIn, Option.bind_some]
 simp only [decide_eq_true_eq]
 repeat' split
 all_goals first | rfl | (exfalso; omega)
theorem implUKind (a0 a1 : Int) : impl_UpperKind.f a0 a1 = some (ukind a0 a1) := by
 unfold impl_UpperKind.f ukind
 rw [isByte, Option.bind_some]
 simp only [decide_eq_true_eq]
 repeat' split
 all_goals first | rfl | (exfalso; omega)
theorem ukind_in {p k : Int} (hp : 0 ≤ p ∧ p ≤ 255) (hk : k = 4 ∨ k = 6) : ukind p k = 0 ∨ ukind p k = 1 ∨ ukind p k = 2 ∨ ukind p k = 3 := by
 unfold ukind
 repeat' split
 all_goals omega
theorem upHead (n : Int) : impl_upperHead.f n = some (if n = 0 then 0 else if n = 1 then 20 else if n = 2 then 8 else if n = 3 then 8 else -1) := by
 unfold impl_upperHead.f
 repeat' split
 all_goals first | rfl | (exfalso; omega)
theorem specBe16' {xs : List Int} (hx : U8 xs) (hn : xs.length ≤ 140737488355328) (a : Int) (h0 : 0 ≤ a) (h1 : a + 2 ≤ xs.length) : spec_Be16.f xs a = some (be2 xs a, true) := by
 rw [specBe16 hx hn a (by omega), if_pos ⟨h0, h1⟩]
 rfl
theorem specBe32' {xs : List Int} (hx : U8 xs) (hn : xs.length ≤ 140737488355328) (a : Int) (h0 : 0 ≤ a) (h1 : a + 4 ≤ xs.length) {k : Nat} (hk : 10 ≤ k) : spec_Be32.f k xs a = some (be4 xs a, true) := by
 rw [specBe32 hx hn a (by omega) hk, if_pos ⟨h0, h1⟩]
 rfl
theorem clone {l : List Int} (h : l.length ≤ 140737488355328) : slices_Clone_byte_byte.f l = some l := by
 unfold slices_Clone_byte_byte.f
 rw [if_pos h]
theorem be2n {l : List Int} (hx : U8 l) {k : Nat} (hk : 10 ≤ k) (i j : Nat) (hj : j = i + 2) (h : j ≤ l.length) : impl_beOf.f k ((l.take j).drop i) = some (be2 l i) := by
 have := beOf2i hx (i := i) (j := j) (by omega) (by omega) (by omega) hk
 simpa using this
theorem be4n {l : List Int} (hx : U8 l) {k : Nat} (hk : 10 ≤ k) (i j : Nat) (hj : j = i + 4) (h : j ≤ l.length) : impl_beOf.f k ((l.take j).drop i) = some (be4 l i) := by
 have := beOf4i hx (i := i) (j := j) (by omega) (by omega) (by omega) hk
 simpa using this
theorem be20 {l : List Int} (hx : U8 l) {k : Nat} (hk : 10 ≤ k) (h : 2 ≤ l.length) : impl_beOf.f k (l.take 2) = some (be2 l 0) := by
 have := be2n hx hk 0 2 rfl h
 simpa using this
/-- What an upper packet read is answered with, when its checksum is right. -/
def upEnd (f0 f1 f2 f3 f4 f5 f6 f7 f8 f9 f10 : Int) (f11 : Bool) (o b : List Int) (c : Int) (k a b0 c0 d k' a' b' c' d' : Int) : Int × Int × Int × Int × Int × Int × Int × Int × Int × Int × Int × Bool × List Int × List Int × Int :=
 if c = upSum f0 f1 f2 f3 f4 f5 f6 f7 f8 f9 f10 f11 o b k a b0 c0 d k' a' b' c' d' then (f0, f1, f2, f3, f4, f5, f6, f7, f8, f9, f10, f11, o, b, 0) else uz 6
def upperRead (l : List Int) (p k a b c d k' a' b' c' d' : Int) : Int × Int × Int × Int × Int × Int × Int × Int × Int × Int × Int × Bool × List Int × List Int × Int :=
 if (l.length : Int) > 1500 then uz 1
 else if ¬ pairB k a b c d k' a' b' c' d' = true then uz 2
 else if ¬ (0 ≤ p ∧ p ≤ 255) then uz 2
 else if ukind p k = 0 then (0, 0, 0, 0, 0, 0, 0, 0, 0, 0, 0, false, ([] : List Int), l, 0)
 else if (l.length : Int) < 8 then uz 3
 else if ukind p k = 1 then (if (l.length : Int) < 20 then uz 3 else if 4 * (rd l 12 / 16) < 20 then uz 4 else if 4 * (rd l 12 / 16) > (l.length : Int) then uz 4 else
  upEnd 1 (be2 l 0) (be2 l 2) (be4 l 4) (be4 l 8) (Int.tmod (be2 l 12) 4096) (be2 l 14) (be2 l 18) 0 0 0 false ((l.take (4 * (rd l 12 / 16)).toNat).drop 20) (l.drop (4 * (rd l 12 / 16)).toNat) (be2 l 16) k a b c d k' a' b' c' d')
 else if ukind p k = 2 then (if be2 l 4 = (l.length : Int) then upEnd 2 (be2 l 0) (be2 l 2) 0 0 0 0 0 0 0 0 (decide (be2 l 6 = 0 ∧ k = 4)) ([] : List Int) (l.drop 8) (be2 l 6) k a b c d k' a' b' c' d' else uz 5)
 else upEnd 3 0 0 0 0 0 0 0 (wrap64 (rd l 0)) (wrap64 (rd l 1)) (be4 l 4) false ([] : List Int) (l.drop 8) (be2 l 2) k a b c d k' a' b' c' d'
abbrev T15 := Int × Int × Int × Int × Int × Int × Int × Int × Int × Int × Int × Bool × List Int × List Int × Int
def upLen (l : List Int) (x : T15) : Prop := x.2.2.2.2.2.2.2.2.2.2.2.2.1.length ≤ l.length ∧ x.2.2.2.2.2.2.2.2.2.2.2.2.2.1.length ≤ l.length
theorem upLen.ite {l : List Int} {c : Prop} [Decidable c] {x y : T15} (hx : upLen l x) (hy : upLen l y) : upLen l (if c then x else y) := by
 by_cases h : c
 ·rw [if_pos h]; exact hx
 ·rw [if_neg h]; exact hy
theorem upLen.uz {l : List Int} (c : Int) : upLen l (uz c) := ⟨Nat.zero_le _, Nat.zero_le _⟩
theorem upLen.done {l : List Int} (f0 f1 f2 f3 f4 f5 f6 f7 f8 f9 f10 : Int) (f11 : Bool) {o b : List Int} (c k a b0 c0 d k' a' b' c' d' : Int) (ho : o.length ≤ l.length) (hb : b.length ≤ l.length) : upLen l (upEnd f0 f1 f2 f3 f4 f5 f6 f7 f8 f9 f10 f11 o b c k a b0 c0 d k' a' b' c' d') :=
 upLen.ite ⟨ho, hb⟩ (upLen.uz _)
theorem upperRead_len (l : List Int) (p k a b c d k' a' b' c' d' : Int) : upLen l (upperRead l p k a b c d k' a' b' c' d') :=
 upLen.ite (upLen.uz _) (upLen.ite (upLen.uz _) (upLen.ite (upLen.uz _) (upLen.ite ⟨Nat.zero_le _, Nat.le_refl _⟩ (upLen.ite (upLen.uz _) (upLen.ite (upLen.ite (upLen.uz _) (upLen.ite (upLen.uz _) (upLen.ite (upLen.uz _) (upLen.done _ _ _ _ _ _ _ _ _ _ _ _ _ _ _ _ _ _ _ _ _ _ _ (by rw [List.length_drop, List.length_take]; omega) (by rw [List.length_drop]; omega)))))
  (upLen.ite (upLen.ite (upLen.done _ _ _ _ _ _ _ _ _ _ _ _ _ _ _ _ _ _ _ _ _ _ _ (Nat.zero_le _) (by rw [List.length_drop]; omega)) (upLen.uz _)) (upLen.done _ _ _ _ _ _ _ _ _ _ _ _ _ _ _ _ _ _ _ _ _ _ _ (Nat.zero_le _) (by rw [List.length_drop]; omega))))))))
/-- A packet of no kind that is told: its checksum is none. -/
theorem upSum_other {l : List Int} (hl : (l.length : Int) ≤ 1500) {k a b c d k' a' b' c' d' : Int} (hp : pairB k a b c d k' a' b' c' d' = true) : upSum 0 0 0 0 0 0 0 0 0 0 0 false ([] : List Int) l k a b c d k' a' b' c' d' = 0 := by
 have hk := pair_kind hp
 have hv : upV 0 0 0 0 0 0 0 0 0 0 0 false ([] : List Int) l.length k = true := by
  unfold upV upK upSz usize upZP upZT upZI
  simp only [Bool.and_eq_true, decide_eq_true_eq, List.length_nil]
  refine ⟨⟨hk, ?_⟩, ?_⟩
  ·simp; omega
  ·simp
 unfold upSum
 rw [if_pos (And.intro hp hv), if_pos (Or.inl rfl : (0 : Int) = 0 ∨ false = true)]
theorem specUpperRead {q : Nat} (hq : 1700 ≤ q) {l : List Int} (hx : U8 l) (p k a b c d k' a' b' c' d' : Int) : spec_UpperRead.f q l p k a b c d k' a' b' c' d' = some (upperRead l p k a b c d k' a' b' c' d') := by
 unfold spec_UpperRead.f upperRead
 by_cases h1 : (l.length : Int) > 1500
 ·rw [if_pos h1, if_pos h1]; rfl
 rw [if_neg h1, if_neg h1, specPair, Option.bind_some]
 by_cases hp : pairB k a b c d k' a' b' c' d' = true
 rotate_left
 ·rw [if_neg hp, if_pos hp]; rfl
 rw [if_pos hp, if_neg (not_not_intro hp), specIn, Option.bind_some]
 by_cases hb : 0 ≤ p ∧ p ≤ 255
 rotate_left
 ·rw [decide_eq_false hb, if_neg Bool.false_ne_true, if_pos hb]; rfl
 rw [decide_eq_true hb, if_pos rfl, if_neg (not_not_intro hb), specUKind, Option.bind_some]
 have hk := ukind_in hb (pair_kind hp)
 generalize ukind p k = K at hk ⊢
 by_cases k0 : K = 0
 ·rw [if_pos k0, if_pos k0, Option.bind_some, if_pos (by simp; omega), List.nil_append, k0]
 rw [if_neg k0, if_neg k0]
 by_cases h8 : (l.length : Int) < 8
 ·rw [if_pos h8, if_pos h8]; rfl
 rw [if_neg h8, if_neg h8]
 by_cases k1 : K = 1
 ·rw [if_pos k1, if_pos k1]
  by_cases h20 : (l.length : Int) < 20
  ·rw [if_pos h20, if_pos h20]; rfl
  have b12 := hx.byte 12
  have e1 : wrap64 (4 * wrap64 (Int.tdiv (wrap64 (rd l 12)) 16)) = 4 * (rd l 12 / 16) := by rw [w64 (n := rd l 12) (by omega) (by omega), tdiv_pos (by omega), w64 (n := rd l 12 / 16) (by omega) (by omega), w64 (by omega) (by omega)]
  rw [if_neg h20, if_neg h20, if_pos (show 12 < (l.length : Int) by omega)]
  simp only [e1]
  clear e1
  generalize 4 * (rd l 12 / 16) = h
  by_cases c1 : h < 20
  ·rw [if_pos c1, if_pos c1]; rfl
  rw [if_neg c1, if_neg c1]
  by_cases c2 : h > (l.length : Int)
  ·rw [if_pos c2, if_pos c2]; rfl
  rw [if_neg c2, if_neg c2, specBe16' hx (by omega) 0 (by omega) (by omega), Option.bind_some, specBe16' hx (by omega) 2 (by omega) (by omega), Option.bind_some, specBe32' hx (by omega) 4 (by omega) (by omega) (by omega), Option.bind_some, specBe32' hx (by omega) 8 (by omega) (by omega) (by omega), Option.bind_some,
   specBe16' hx (by omega) 12 (by omega) (by omega), Option.bind_some, specBe16' hx (by omega) 14 (by omega) (by omega), Option.bind_some, specBe16' hx (by omega) 16 (by omega) (by omega), Option.bind_some, specBe16' hx (by omega) 18 (by omega) (by omega), Option.bind_some, Option.bind_some,
   if_pos (show 20 ≤ h by omega), if_pos (show h ≤ (l.length : Int) by omega), if_pos (by rw [List.length_drop, List.length_take, List.length_nil]; omega), Option.bind_some, Option.bind_some, if_pos (show 0 ≤ h by omega), if_pos (by rw [List.length_drop, List.length_nil]; omega), Option.bind_some, List.nil_append, List.nil_append,
   specUpperSum (by omega) _ _ _ _ _ _ _ _ _ _ _ _ ((hx.take _).drop _) (hx.drop _) (by rw [List.length_drop, List.length_take, List.length_drop]; omega), Option.bind_some]
  dsimp only
  unfold upEnd
  rw [k1]
  split <;> rfl
 rw [if_neg k1, if_neg k1]
 have n8 : ([] : List Int).length + (l.drop 8).length < 140737488355328 := by rw [List.length_drop, List.length_nil]; omega
 have m8 : ([] : List Int).length + (l.drop 8).length ≤ 1048576 := by rw [List.length_drop, List.length_nil]; omega
 by_cases k2 : K = 2
 ·rw [if_pos k2, if_pos k2, specBe16' hx (by omega) 4 (by omega) (by omega), Option.bind_some]
  dsimp only
  by_cases h4 : be2 l 4 = (l.length : Int)
  rotate_left
  ·rw [if_neg h4, if_neg h4]; rfl
  rw [if_pos h4, if_pos h4, specBe16' hx (by omega) 0 (by omega) (by omega), Option.bind_some, specBe16' hx (by omega) 2 (by omega) (by omega), Option.bind_some, specBe16' hx (by omega) 6 (by omega) (by omega), Option.bind_some]
  dsimp only
  by_cases h6 : be2 l 6 = 0
  ·rw [if_pos h6, Option.bind_some, if_pos (show 8 ≤ (l.length : Int) by omega), if_pos n8, Option.bind_some, List.nil_append, specUpperSum (by omega) _ _ _ _ _ _ _ _ _ _ _ _ U8.nil (hx.drop _) m8, Option.bind_some]
   have hd : decide (be2 l 6 = 0 ∧ k = 4) = (k == 4) := by
    rw [Bool.eq_iff_iff]; simp [h6]
   unfold upEnd
   rw [hd, k2]
   split <;> rfl
  ·rw [if_neg h6, Option.bind_some, if_pos (show 8 ≤ (l.length : Int) by omega), if_pos n8, Option.bind_some, List.nil_append, specUpperSum (by omega) _ _ _ _ _ _ _ _ _ _ _ _ U8.nil (hx.drop _) m8, Option.bind_some]
   have hd : decide (be2 l 6 = 0 ∧ k = 4) = false := decide_eq_false (fun hh => h6 hh.1)
   unfold upEnd
   rw [hd, k2]
   split <;> rfl
 have k3 : K = 3 := by omega
 rw [if_neg k2, if_neg k2, if_pos k3, if_pos (show 0 < (l.length : Int) by omega), if_pos (show 1 < (l.length : Int) by omega), specBe16' hx (by omega) 2 (by omega) (by omega), Option.bind_some, specBe32' hx (by omega) 4 (by omega) (by omega) (by omega), Option.bind_some, Option.bind_some, if_pos (show 8 ≤ (l.length : Int) by omega), if_pos n8, Option.bind_some, List.nil_append,
  specUpperSum (by omega) _ _ _ _ _ _ _ _ _ _ _ _ U8.nil (hx.drop _) m8, Option.bind_some]
 dsimp only
 unfold upEnd
 rw [k3]
 split <;> rfl
theorem implOf1 {q : Nat} (hq : 20 ≤ q) {l : List Int} (hx : U8 l) (hl : (l.length : Int) ≤ 1500) {h : Int} (h20 : 20 ≤ h) (h2 : h ≤ l.length) : impl_upperOf.f q l 1 h = some (1, be2 l 0, be2 l 2, be4 l 4, be4 l 8, Int.tmod (be2 l 12) 4096, be2 l 14, be2 l 18, 0, 0, 0, false, (l.take h.toNat).drop 20, l.drop h.toNat, be2 l 16) := by
 unfold impl_upperOf.f
 rw [if_pos (by omega), if_pos h2, clone (by rw [List.length_drop]; omega), Option.bind_some, if_pos rfl, if_pos (by omega), be20 hx (by omega) (by omega), Option.bind_some, if_pos (by decide), if_pos (by omega), be2n hx (by omega) 2 4 rfl (by omega), Option.bind_some, if_pos (by decide), if_pos (by omega), be4n hx (by omega) 4 8 rfl (by omega), Option.bind_some, if_pos (by decide), if_pos (by omega), be4n hx (by omega) 8 12 rfl (by omega), Option.bind_some,
  if_pos (by decide), if_pos (by omega), be2n hx (by omega) 12 14 rfl (by omega), Option.bind_some, if_pos (by decide), if_pos (by omega), be2n hx (by omega) 14 16 rfl (by omega), Option.bind_some, if_pos (by decide), if_pos (by omega), be2n hx (by omega) 16 18 rfl (by omega), Option.bind_some, if_pos (by decide), if_pos (by omega), be2n hx (by omega) 18 20 rfl (by omega), Option.bind_some, if_pos h20, clone (by rw [List.length_drop, List.length_take]; omega), Option.bind_some]
 rfl
theorem implOf2 {q : Nat} (hq : 20 ≤ q) {l : List Int} (hx : U8 l) (hl : (l.length : Int) ≤ 1500) (h8 : 8 ≤ (l.length : Int)) : impl_upperOf.f q l 2 8 = some (2, be2 l 0, be2 l 2, 0, 0, 0, 0, 0, 0, 0, 0, false, ([] : List Int), l.drop 8, be2 l 6) := by
 unfold impl_upperOf.f
 rw [if_pos (by decide), if_pos h8, show ((8 : Int)).toNat = 8 from rfl, clone (by rw [List.length_drop]; omega), Option.bind_some, if_neg (by decide), if_pos rfl, if_pos (by omega), be20 hx (by omega) (by omega), Option.bind_some, if_pos (by decide), if_pos (by omega), be2n hx (by omega) 2 4 rfl (by omega), Option.bind_some, if_pos (by decide), if_pos (by omega), be2n hx (by omega) 6 8 rfl (by omega), Option.bind_some]
 rfl
theorem implOf3 {q : Nat} (hq : 20 ≤ q) {l : List Int} (hx : U8 l) (hl : (l.length : Int) ≤ 1500) (h8 : 8 ≤ (l.length : Int)) : impl_upperOf.f q l 3 8 = some (3, 0, 0, 0, 0, 0, 0, 0, wrap64 (rd l 0), wrap64 (rd l 1), be4 l 4, false, ([] : List Int), l.drop 8, be2 l 2) := by
 unfold impl_upperOf.f
 rw [if_pos (by decide), if_pos h8, show ((8 : Int)).toNat = 8 from rfl, clone (by rw [List.length_drop]; omega), Option.bind_some, if_neg (by decide), if_neg (by decide), if_pos rfl, if_pos (by omega), if_pos (by omega), if_pos (by decide), if_pos (by omega), be2n hx (by omega) 2 4 rfl (by omega), Option.bind_some, if_pos (by decide), if_pos (by omega), be4n hx (by omega) 4 8 rfl (by omega), Option.bind_some]
 rfl
theorem implOf0 {q : Nat} {l : List Int} (hl : (l.length : Int) ≤ 1500) : impl_upperOf.f q l 0 0 = some (0, 0, 0, 0, 0, 0, 0, 0, 0, 0, 0, false, ([] : List Int), l, 0) := by
 unfold impl_upperOf.f
 rw [if_pos (by decide), if_pos (by omega), show ((0 : Int)).toNat = 0 from rfl, List.drop_zero, clone (by omega), Option.bind_some, if_neg (by decide), if_neg (by decide), if_neg (by decide)]
theorem implUpperRead {q : Nat} (hq : 1700 ≤ q) {l : List Int} (hx : U8 l) (p k a b c d k' a' b' c' d' : Int) : impl_UpperRead.f q l p k a b c d k' a' b' c' d' = some (upperRead l p k a b c d k' a' b' c' d') := by
 unfold impl_UpperRead.f upperRead
 by_cases h1 : (l.length : Int) > 1500
 ·rw [if_pos h1, if_pos h1]; rfl
 rw [if_neg h1, if_neg h1, areBoth, Option.bind_some]
 by_cases hp : pairB k a b c d k' a' b' c' d' = true
 rotate_left
 ·rw [if_neg hp, if_pos hp]; rfl
 rw [if_pos hp, if_neg (not_not_intro hp), isByte, Option.bind_some]
 by_cases hb : 0 ≤ p ∧ p ≤ 255
 rotate_left
 ·rw [decide_eq_false hb, if_neg Bool.false_ne_true, if_pos hb]; rfl
 rw [decide_eq_true hb, if_pos rfl, if_neg (not_not_intro hb), implUKind, Option.bind_some, upHead, Option.bind_some]
 have hk := ukind_in hb (pair_kind hp)
 generalize ukind p k = K at hk ⊢
 have n8 : ([] : List Int).length + (l.drop 8).length ≤ 1048576 := by rw [List.length_drop, List.length_nil]; omega
 rcases hk with rfl | rfl | rfl | rfl
 ·rw [show (if (0 : Int) = 0 then (0 : Int) else if (0 : Int) = 1 then 20 else if (0 : Int) = 2 then 8 else if (0 : Int) = 3 then 8 else -1) = 0 from rfl]
  rw [if_pos (show (0 : Int) = 0 from rfl), if_neg (show ¬ ((l.length : Int) < 0) by omega), if_neg (show ¬ ((0 : Int) = 1) by decide), if_neg (show ¬ ((0 : Int) = 2) by decide), implOf0 (by omega), Option.bind_some]
  dsimp only
  rw [implUpperSum (by omega) _ _ _ _ _ _ _ _ _ _ _ _ U8.nil hx (by rw [List.length_nil]; omega), Option.bind_some, upSum_other (by omega) hp, if_pos rfl]
 ·rw [show (if (1 : Int) = 0 then (0 : Int) else if (1 : Int) = 1 then 20 else if (1 : Int) = 2 then 8 else if (1 : Int) = 3 then 8 else -1) = 20 from rfl]
  rw [if_neg (show ¬ ((1 : Int) = 0) by decide), if_pos (show (1 : Int) = 1 from rfl), if_pos (show (1 : Int) = 1 from rfl)]
  by_cases h20 : (l.length : Int) < 20
  ·rw [if_pos h20, if_pos h20]
   by_cases h8 : (l.length : Int) < 8
   ·rw [if_pos h8]; rfl
   ·rw [if_neg h8]; rfl
  have b12 := hx.byte 12
  have e1 : wrap64 (4 * wrap64 (rd l 12 / 16)) = 4 * (rd l 12 / 16) := by rw [w64 (n := rd l 12 / 16) (by omega) (by omega), w64 (by omega) (by omega)]
  rw [if_neg h20, if_neg h20, if_neg (show ¬ (l.length : Int) < 8 by omega), if_pos (show 12 < (l.length : Int) by omega)]
  simp only [e1]
  clear e1
  generalize 4 * (rd l 12 / 16) = h
  by_cases c1 : h < 20
  ·rw [if_pos c1, if_pos c1]; rfl
  rw [if_neg c1, if_neg c1]
  by_cases c2 : h > (l.length : Int)
  ·rw [if_pos c2, if_pos c2]; rfl
  rw [if_neg c2, if_neg c2, if_neg (show ¬ ((1 : Int) = 2) by decide), implOf1 (by omega) hx (by omega) (by omega) (by omega), Option.bind_some]
  dsimp only
  rw [implUpperSum (by omega) _ _ _ _ _ _ _ _ _ _ _ _ ((hx.take _).drop _) (hx.drop _) (by rw [List.length_drop, List.length_take, List.length_drop]; omega), Option.bind_some]
  unfold upEnd
  split <;> rfl
 ·rw [show (if (2 : Int) = 0 then (0 : Int) else if (2 : Int) = 1 then 20 else if (2 : Int) = 2 then 8 else if (2 : Int) = 3 then 8 else -1) = 8 from rfl]
  rw [if_neg (show ¬ ((2 : Int) = 0) by decide), if_neg (show ¬ ((2 : Int) = 1) by decide), if_neg (show ¬ ((2 : Int) = 1) by decide), if_pos (show (2 : Int) = 2 from rfl), if_pos (show (2 : Int) = 2 from rfl)]
  by_cases h8 : (l.length : Int) < 8
  ·rw [if_pos h8, if_pos h8]; rfl
  rw [if_neg h8, if_neg h8, if_pos (show (4 : Nat) ≤ 6 by decide), if_pos (show 6 ≤ (l.length : Int) by omega), be2n hx (by omega) 4 6 rfl (by omega), Option.bind_some, show ((4 : Nat) : Int) = 4 from rfl]
  by_cases h4 : be2 l 4 = (l.length : Int)
  rotate_left
  ·rw [if_neg h4, if_neg h4]; rfl
  rw [if_pos h4, if_pos h4, implOf2 (by omega) hx (by omega) (by omega), Option.bind_some]
  dsimp only
  unfold upEnd
  by_cases hk4 : k = 4
  ·rw [if_pos hk4, implUpperSum (by omega) _ _ _ _ _ _ _ _ _ _ _ _ U8.nil (hx.drop _) n8, Option.bind_some]
   have hd : decide (be2 l 6 = 0 ∧ k = 4) = (be2 l 6 == 0) := by
    rw [Bool.eq_iff_iff]; simp [hk4]
   rw [hd]
   split <;> rfl
  ·rw [if_neg hk4, implUpperSum (by omega) _ _ _ _ _ _ _ _ _ _ _ _ U8.nil (hx.drop _) n8, Option.bind_some]
   have hd : decide (be2 l 6 = 0 ∧ k = 4) = false := decide_eq_false (fun hh => hk4 hh.2)
   rw [hd]
   split <;> rfl
 ·rw [show (if (3 : Int) = 0 then (0 : Int) else if (3 : Int) = 1 then 20 else if (3 : Int) = 2 then 8 else if (3 : Int) = 3 then 8 else -1) = 8 from rfl]
  rw [if_neg (show ¬ ((3 : Int) = 0) by decide), if_neg (show ¬ ((3 : Int) = 1) by decide), if_neg (show ¬ ((3 : Int) = 1) by decide), if_neg (show ¬ ((3 : Int) = 2) by decide), if_neg (show ¬ ((3 : Int) = 2) by decide)]
  by_cases h8 : (l.length : Int) < 8
  ·rw [if_pos h8, if_pos h8]; rfl
  rw [if_neg h8, if_neg h8, implOf3 (by omega) hx (by omega) (by omega), Option.bind_some]
  dsimp only
  rw [implUpperSum (by omega) _ _ _ _ _ _ _ _ _ _ _ _ U8.nil (hx.drop _) n8, Option.bind_some]
  unfold upEnd
  split <;> rfl

end ExactUpperRead
open ExactUpperRead

theorem FnExactUpperRead : laws_FnExactUpperRead.Pure := by
 intro l0 a1 k a b c d k' a' b' c' d' hl hu _ _ _ _ _ _ _ _ _ _ _
 have hx := U8.of_wf hu
 refine ⟨l0.length + 2000, ?_⟩
 unfold laws_FnExactUpperRead.f
 by_cases h : (l0.length : Int) > 1048576
 ·rw [if_pos h]
 ·have hlen := upperRead_len l0 a1 k a b c d k' a' b' c' d'
  have ht : laws_toByteS.f (l0.length + 2000) l0 = some l0 := toByteS (by omega) (by omega)
  have hs := specUpperRead (show 1700 ≤ l0.length + 2000 by omega) hx a1 k a b c d k' a' b' c' d'
  have hi := implUpperRead (show 1700 ≤ l0.length + 2000 by omega) hx a1 k a b c d k' a' b' c' d'
  generalize upperRead l0 a1 k a b c d k' a' b' c' d' = R at hlen hs hi
  obtain ⟨r0, r1, r2, r3, r4, r5, r6, r7, r8, r9, r10, r11, o, p, e⟩ := R
  obtain ⟨g1, g2⟩ := hlen
  dsimp only at g1 g2
  have hb : ∀ z : List Int, z.length ≤ l0.length → laws_eqByteS.f (l0.length + 2000) z z = some true := fun z hz => eqByteS (by omega) (by omega)
  have he : laws_eqUpper.f (l0.length + 2000) r0 r1 r2 r3 r4 r5 r6 r7 r8 r9 r10 r11 o p r0 r1 r2 r3 r4 r5 r6 r7 r8 r9 r10 r11 o p = some true := by
   unfold laws_eqUpper.f
   simp only [if_true, bne_self_eq_false, Bool.false_eq_true, if_false, hb o g1, hb p g2, Option.bind_some]
  obtain ⟨y0, hm0, _, _⟩ := markByteS l0 (by omega) (m := 1) (by omega) (by omega) (k := l0.length + 2000) (by omega)
  obtain ⟨y1, m1, l1, z1⟩ := markByteS o (by omega) (m := 1) (by omega) (by omega) (k := l0.length + 2000) (by omega)
  obtain ⟨y2, m2, l2, z2⟩ := markByteS p (by omega) (m := 1 + (o.length : Int)) (by omega) (by omega) (k := l0.length + 2000) (by omega)
  have mk : laws_markUpper.f (l0.length + 2000) r0 r1 r2 r3 r4 r5 r6 r7 r8 r9 r10 r11 o p 1 = some (1 + (o.length : Int) + p.length, y1, y2) := by
   unfold laws_markUpper.f
   rw [m1, Option.bind_some]
   dsimp only
   rw [m2, Option.bind_some]
  have h1 : laws_heldByteS.f (l0.length + 2000) y1 1 = some (1 + (o.length : Int)) := by
   have := heldByteS z1 (by omega) (by omega) (by omega) (k := l0.length + 2000) (by omega)
   rwa [l1] at this
  have h2 : laws_heldByteS.f (l0.length + 2000) y2 (1 + (o.length : Int)) = some (1 + (o.length : Int) + p.length) := by
   have := heldByteS z2 (by omega) (by omega) (by omega) (k := l0.length + 2000) (by omega)
   rwa [l2] at this
  have hd : laws_heldUpper.f (l0.length + 2000) r0 r1 r2 r3 r4 r5 r6 r7 r8 r9 r10 r11 y1 y2 1 = some (1 + (o.length : Int) + p.length) := by
   unfold laws_heldUpper.f
   rw [h1, Option.bind_some, if_neg (by omega), h2, Option.bind_some, if_neg (by omega)]
  have n1 : ¬ ((1 : Int) + l0.length < 0) := by omega
  have n2 : ¬ ((1 : Int) + o.length + p.length < 0) := by omega
  rw [if_neg h]
  simp only [ht, toAddr, hs, hi, Option.bind_some, he, if_true, hb l0 (Nat.le_refl _), hm0, if_neg n1, mk, hd, if_neg n2]

end Go.Proofs.Ytdbiejkaplndgaa.Pure
