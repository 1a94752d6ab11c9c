/- The program's HexText returns what the reference's returns, for all arguments. No condition. -/
import Derived.Test.YtmeimclfohbdfaaFFnExactHexTextx
import Derived.Test.YtmeimclfohbdfaaBase
namespace Go.Proofs.Ytmeimclfohbdfaa.Pure
open Go.RowKit Go.Proofs.Ytmeimclfohbdfaa.FFnExactHexText Go.Proofs.YtmeimclfohbdfaaW.PrintWords Go.Proofs.YtmeimclfohbdfaaW.PrintLast Go.Proofs.YtmeimclfohbdfaaW.PrintMore Go.Proofs.Ytmeimclfohbdfaa.Base

namespace ExactHexText
theorem toByteS_l (xs : List Int) (hn : xs.length ≤ 140737488355328) (d : Nat) : ∀ (k : Nat) (ys : List Int) (i : Int), 0 ≤ i → i + d = xs.length → d < k → ys.length = xs.length → (∀ j : Nat, (j : Int) < i → ys[j]? = xs[j]?) → laws_toByteS.l0 k xs ys i = some xs := by
  induction d with
  | zero =>
    intro k ys i h0 hi hk hl hj
    obtain ⟨k, rfl⟩ := pos_k hk
    simp only [laws_toByteS.l0]
    rw [if_neg (by omega)]
    congr 1
    apply List.ext_getElem?
    intro j
    by_cases h : (j : Int) < i
    · exact hj j h
    · rw [List.getElem?_eq_none (by omega), List.getElem?_eq_none (by omega)]
  | succ d ih =>
    intro k ys i h0 hi hk hl hj
    obtain ⟨k, rfl⟩ := pos_k hk
    simp only [laws_toByteS.l0]
    rw [if_pos (by omega), if_pos (by omega), if_pos (by omega), w64 (by omega) (by omega)]
    refine ih k _ (i + 1) (by omega) (by omega) (by omega) (by rw [List.length_set]; omega) ?_
    intro j hj'
    by_cases h : (j : Int) = i
    · have e : i.toNat = j := by omega
      rw [e, List.getElem?_set_self (by omega), ← h, ← rd_get? (by omega) (by omega)]
      rfl
    · rw [List.getElem?_set_ne (by omega)]
      exact hj j (by omega)
theorem toByteS {xs : List Int} (hn : xs.length ≤ 140737488355328) {k : Nat} (hk : xs.length < k) : laws_toByteS.f k xs = some xs := by
  unfold laws_toByteS.f
  rw [if_pos (by omega), if_pos (by omega)]
  exact toByteS_l xs hn xs.length k _ 0 (by omega) (by omega) hk (by simp) (fun j hj => by omega)

theorem eqByteS_l (xs : List Int) (hn : xs.length ≤ 140737488355328) (d : Nat) : ∀ (k : Nat) (i : Int), 0 ≤ i → i + d = xs.length → d < k → laws_eqByteS.l0 k xs xs i = some true := by
  induction d with
  | zero =>
    intro k i h0 hi hk
    obtain ⟨k, rfl⟩ := pos_k hk
    simp only [laws_eqByteS.l0]
    rw [if_neg (by omega)]
  | succ d ih =>
    intro k i h0 hi hk
    obtain ⟨k, rfl⟩ := pos_k hk
    simp only [laws_eqByteS.l0]
    rw [if_pos (by omega), if_pos (by omega), if_pos (by omega), if_pos (by first | rfl | trivial), w64 (by omega) (by omega)]
    exact ih k (i + 1) (by omega) (by omega) (by omega)
theorem eqByteS {xs : List Int} (hn : xs.length ≤ 140737488355328) {k : Nat} (hk : xs.length < k) : laws_eqByteS.f k xs xs = some true := by
  unfold laws_eqByteS.f
  rw [if_pos rfl]
  exact eqByteS_l xs hn xs.length k 0 (by omega) (by omega) hk

theorem specDigit {v : Int} (h0 : 0 ≤ v) (h1 : v < 16) : spec_l01Digit.f v = some (hexd v) := by
  unfold spec_l01Digit.f hexd
  by_cases h : v < 10
  · rw [if_pos h, if_pos h, w64 (by omega) (by omega)]
    congr 1
    omega
  · rw [if_neg h, if_neg h, w64 (by omega) (by omega)]
    congr 1
    omega

theorem specHexText_l (xs : List Int) (hx : U8 xs) (hn : xs.length ≤ 4000) (d : Nat) : ∀ (k : Nat) (acc : List Int) (i : Int), 0 ≤ i → i + d = xs.length → d < k → (acc.length : Int) = 2 * i → spec_HexText.l0 k xs acc i = some (strOfNums (acc ++ hexs (xs.drop i.toNat))) := by
  induction d with
  | zero =>
    intro k acc i h0 hi hk ha
    obtain ⟨k, rfl⟩ := pos_k hk
    simp only [spec_HexText.l0]
    rw [if_neg (by omega), List.drop_eq_nil_of_le (by omega)]
    simp [hexs]
  | succ d ih =>
    intro k acc i h0 hi hk ha
    obtain ⟨k, rfl⟩ := pos_k hk
    have hb := hx.byte i
    simp only [spec_HexText.l0]
    rw [if_pos (by omega), if_pos (by omega), w64 (n := rd xs i) (by omega) (by omega), tdiv_pos hb.1, tmod_pos hb.1, w64 (n := rd xs i / 16) (by omega) (by omega), specDigit (by omega) (by omega)]
    simp only [Option.bind_some]
    rw [specDigit (by omega) (by omega)]
    simp only [Option.bind_some]
    rw [if_pos (by simp; omega), w64 (by omega) (by omega), ih k _ (i + 1) (by omega) (by omega) (by omega) (by simp; omega), drop_rd h0 (by omega), hexs_cons, List.append_assoc]
theorem specHexText {xs : List Int} (hx : U8 xs) {k : Nat} (hk : xs.length < k) : spec_HexText.f k xs = some (if (xs.length : Int) > 4000 then ⟨#[]⟩ else strOfNums (hexs xs)) := by
  unfold spec_HexText.f
  by_cases h : (xs.length : Int) > 4000
  · rw [if_pos h, if_pos h]
  · rw [if_neg h, if_neg h, specHexText_l xs hx (by omega) xs.length k _ 0 (by omega) (by omega) hk (by simp)]
    rfl

theorem implHexText_l (xs : List Int) (hx : U8 xs) (hn : xs.length ≤ 4000) (d : Nat) : ∀ (k : Nat) (acc : List Int) (i : Int), 0 ≤ i → i + d = xs.length → d < k → (acc.length : Int) = 2 * i → impl_HexText.l0 k acc xs xs.length i = some (strOfNums (acc ++ hexs (xs.drop i.toNat))) := by
  induction d with
  | zero =>
    intro k acc i h0 hi hk ha
    obtain ⟨k, rfl⟩ := pos_k hk
    simp only [impl_HexText.l0]
    rw [if_neg (by omega), List.drop_eq_nil_of_le (by omega)]
    simp [hexs]
  | succ d ih =>
    intro k acc i h0 hi hk ha
    obtain ⟨k, rfl⟩ := pos_k hk
    have hb := hx.byte i
    simp only [impl_HexText.l0]
    rw [u8_and15 _ hb.1 (by omega), if_pos (by omega), if_pos (by omega), if_pos (by omega), if_pos (by omega), if_pos (by omega), if_pos (by omega), if_pos (by omega), bt_hex (by omega) (by omega), bt_hex (by omega) (by omega)]
    simp only [Option.bind_some]
    rw [if_pos (by simp; omega), w64 (by omega) (by omega), ih k _ (i + 1) (by omega) (by omega) (by omega) (by simp; omega), drop_rd h0 (by omega), hexs_cons, List.append_assoc]
theorem implHexText {xs : List Int} (hx : U8 xs) {k : Nat} (hk : xs.length < k) : impl_HexText.f k xs = some (if (xs.length : Int) > 4000 then ⟨#[]⟩ else strOfNums (hexs xs)) := by
  unfold impl_HexText.f
  by_cases h : (xs.length : Int) > 4000
  · rw [if_pos h, if_pos h]
  · rw [if_neg h, if_neg h, implHexText_l xs hx (by omega) xs.length k _ 0 (by omega) (by omega) hk (by simp)]
    rfl

end ExactHexText
open ExactHexText

theorem FnExactHexText : laws_FnExactHexText.Pure := by
  intro l0 _ hl hu
  have hx := U8.of_wf hu
  refine ⟨l0.length + 20, ?_⟩
  unfold laws_FnExactHexText.f
  by_cases h : (l0.length : Int) > 1048576
  · rw [if_pos h]
  · rw [if_neg h, toByteS (by omega) (by omega)]
    simp only [Option.bind_some]
    rw [specHexText hx (by omega), implHexText hx (by omega)]
    simp only [Option.bind_some]
    rw [if_pos (by first | rfl | trivial), eqByteS (by omega) (by omega)]
    simp only [Option.bind_some]
    rw [if_pos (by first | rfl | trivial)]

end Go.Proofs.Ytmeimclfohbdfaa.Pure
