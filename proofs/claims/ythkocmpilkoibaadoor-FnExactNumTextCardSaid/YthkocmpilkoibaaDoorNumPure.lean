/- What spec.NumText computes is the library's decimal numeral, for every int. Numbers and lists alone. No condition. -/
import Derived.Test.YthkocmpilkoibaaDoorNumSpec
import Derived.Lib.ItoaNum
namespace Go.Proofs.YthkocmpilkoibaaDoor.FnExactNumText
open Go.RowKit Go.Proofs.YthkocmpilkoibaaDoorW.PrintWords Go.Proofs.YthkocmpilkoibaaDoorW.PrintLast Go.Proofs.YthkocmpilkoibaaDoorW.PrintMore
theorem w64n {n : Int} (h0 : -9223372036854775808 ≤ n) (h1 : n ≤ 9223372036854775807) : wrap64 n = n := by unfold wrap64; omega
def digs (u : Nat) : List Int := if u = 0 then [] else (Lib.decDigits u).map fun b => (b.toNat : Int)
theorem digs_step {u : Nat} (h : u ≠ 0) : digs u = digs (u / 10) ++ [((48 + u % 10 : Nat) : Int)] := by
  have hb : ∀ d : Nat, d < 10 → (((UInt8.ofNat (48 + d)).toNat : Nat) : Int) = ((48 + d : Nat) : Int) := fun d hd => by
    rw [UInt8.toNat_ofNat']
    omega
  unfold digs
  rw [if_neg h]
  by_cases h10 : u < 10
  · rw [Lib.decDigits, dif_pos h10, if_pos (by omega)]
    simp only [List.map_cons, List.map_nil, List.nil_append]
    rw [hb u h10, show u % 10 = u by omega]
  · rw [Lib.decDigits, dif_neg h10, if_neg (by omega)]
    simp only [List.map_append, List.map_cons, List.map_nil]
    rw [hb _ (by omega)]
theorem digs_len (u j : Nat) (h : u < 10 ^ j) : (digs u).length ≤ j := by
  induction j generalizing u with
  | zero => have : u = 0 := by simpa using h
            subst this
            simp [digs]
  | succ j ih =>
    by_cases h0 : u = 0
    · subst h0
      simp [digs]
    · rw [digs_step h0, List.length_append]
      have := ih (u / 10) (by rw [Nat.pow_succ] at h; omega)
      simp
      omega
def fin (n : Int) (xs : List Int) : Option ByteArray := some (strOfNums (if n < 0 then 45 :: xs else xs))
theorem loop (n : Int) (j : Nat) : ∀ (k : Nat) (acc : List Int) (m : Int), m.natAbs < 10 ^ j → j ≤ 19 → -9223372036854775808 ≤ m → m ≤ 9223372036854775807 → acc.length + j ≤ 100 → j < k →
    spec_NumText.l0 k n acc m = fin n (digs m.natAbs ++ acc) := by
  induction j with
  | zero =>
    intro k acc m hm _ _ _ ha hk
    obtain ⟨k, rfl⟩ : ∃ q, k = q + 1 := ⟨k - 1, by omega⟩
    have : m = 0 := by
      have : m.natAbs = 0 := by simpa using hm
      omega
    subst this
    simp only [spec_NumText.l0]
    rw [if_pos (by first | rfl | trivial)]
    unfold fin
    simp only [Option.bind_some, List.length_cons, List.length_nil, Int.natAbs_zero]
    by_cases h : n < 0
    · rw [if_pos h, if_pos (by omega), if_pos h]
      rfl
    · rw [if_neg h, if_neg h]
      rfl
  | succ j ih =>
    intro k acc m hm hj hlo hhi ha hk
    obtain ⟨k, rfl⟩ : ∃ q, k = q + 1 := ⟨k - 1, by omega⟩
    simp only [spec_NumText.l0]
    by_cases h0 : m = 0
    · subst h0
      rw [if_pos (by first | rfl | trivial)]
      unfold fin
      simp only [Option.bind_some, List.length_cons, List.length_nil, Int.natAbs_zero]
      by_cases h : n < 0
      · rw [if_pos h, if_pos (by omega), if_pos h]
        rfl
      · rw [if_neg h, if_neg h]
        rfl
    · have hu : m.natAbs ≠ 0 := by omega
      have hd : (Int.tdiv m 10).natAbs = m.natAbs / 10 := by rw [Int.natAbs_tdiv]; rfl
      have ht : (Int.tmod m 10).natAbs = m.natAbs % 10 := by rw [Int.natAbs_tmod]; rfl
      have hw : wrap64 (Int.tdiv m 10) = Int.tdiv m 10 := w64n (by omega) (by omega)
      have key : ∀ v : Int, v = ((48 + m.natAbs % 10 : Nat) : Int) → (some [v] : Option (List Int)).bind (fun y => if y.length + acc.length < 140737488355328 then spec_NumText.l0 k n (y ++ acc) (wrap64 (Int.tdiv m 10)) else none) = fin n (digs m.natAbs ++ acc) := fun v hv => by
        rw [Option.bind_some, if_pos (by simp; omega), hw, ih k _ _ (by rw [hd]; rw [Nat.pow_succ] at hm; omega) (by omega) (by omega) (by omega) (by simp; omega) (by omega), hd, digs_step hu, hv, List.append_assoc]
      rw [if_neg h0]
      by_cases hn : Int.tmod m 10 < 0
      · rw [if_pos hn]
        refine key _ ?_
        rw [w64n (n := -(Int.tmod m 10)) (by omega) (by omega), w64n (by omega) (by omega)]
        omega
      · rw [if_neg hn]
        refine key _ ?_
        rw [w64n (n := 48 + Int.tmod m 10) (by omega) (by omega)]
        omega
theorem str_digs (l : List UInt8) : strOfNums (l.map fun b => (b.toNat : Int)) = ⟨l.toArray⟩ := by
  unfold strOfNums
  have e : ((fun n : Int => UInt8.ofNat n.toNat) ∘ fun b : UInt8 => (b.toNat : Int)) = id := by
    funext b
    simp
  rw [List.map_map, e, List.map_id]
theorem spec_is (n : Int) (h0 : -9223372036854775808 ≤ n) (h1 : n ≤ 9223372036854775807) : spec_NumText.f 30 n = some ⟨(Lib.itoa n).toArray⟩ := by
  unfold spec_NumText.f
  by_cases hz : n = 0
  · subst hz
    rw [if_pos rfl]
    have : Lib.itoa 0 = [48] := by
      unfold Lib.itoa
      rw [if_neg (by omega), Lib.decDigits, dif_pos (by decide)]
      rfl
    rw [this]
  · rw [if_neg hz, loop n 19 30 [] n (by omega) (by omega) h0 h1 (by simp) (by omega), List.append_nil]
    unfold fin
    refine congrArg some ?_
    have hu : n.natAbs ≠ 0 := by omega
    unfold digs Lib.itoa
    rw [if_neg hu]
    by_cases h : n < 0
    · rw [if_pos h, if_pos h, ← str_digs (45 :: Lib.decDigits n.natAbs)]
      rfl
    · rw [if_neg h, if_neg h, ← str_digs, show n.natAbs = n.toNat by omega]
end Go.Proofs.YthkocmpilkoibaaDoor.FnExactNumText
