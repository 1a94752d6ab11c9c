/- What spec.NumRead answers is what the walk of impl.NumRead gives, for every text. Numbers and lists alone. No condition. -/
import Derived.Test.YtdkaailcembhmaaDoorNumSpec
import Derived.Lib.ItoaNum
import Derived.Lib.AtoiTie
import Derived.Test.YtdkaailcembhmaaDoorNumWalk
namespace Go.Proofs.YtdkaailcembhmaaDoor.FnExactNumRead
open Go.RowKit Go.Proofs.YtdkaailcembhmaaDoorW.PrintWords Go.Proofs.YtdkaailcembhmaaDoorW.PrintLast Go.Proofs.YtdkaailcembhmaaDoorW.PrintMore
theorem w64n {n : Int} (h0 : -9223372036854775808 ≤ n) (h1 : n ≤ 9223372036854775807) : wrap64 n = n := by unfold wrap64; omega
def digs (u : Nat) : List Int := if u = 0 then [] else (Lib.decDigits u).map fun b => (b.toNat : Int)
theorem digs_step {u : Nat} (h : u ≠ 0) : digs u = digs (u / 10) ++ [((48 + u % 10 : Nat) : Int)] := by
  have hb : ∀ d : Nat, d < 10 → (((UInt8.ofNat (48 + d)).toNat : Nat) : Int) = ((48 + d : Nat) : Int) := fun d hd => by
    rw [UInt8.toNat_ofNat']
    omega
  unfold digs
  rw [if_neg h]
  by_cases h10 : u < 10
  · rw [Lib.decDigits, dif_pos h10, if_pos (by omega)]
    simp only [List.map_cons, List.map_nil, List.nil_append]
    rw [hb u h10, show u % 10 = u by omega]
  · rw [Lib.decDigits, dif_neg h10, if_neg (by omega)]
    simp only [List.map_append, List.map_cons, List.map_nil]
    rw [hb _ (by omega)]
theorem digs_len (u j : Nat) (h : u < 10 ^ j) : (digs u).length ≤ j := by
  induction j generalizing u with
  | zero => have : u = 0 := by simpa using h
            subst this
            simp [digs]
  | succ j ih =>
    by_cases h0 : u = 0
    · subst h0
      simp [digs]
    · rw [digs_step h0, List.length_append]
      have := ih (u / 10) (by rw [Nat.pow_succ] at h; omega)
      simp
      omega
def fin (n : Int) (xs : List Int) : Option ByteArray := some (strOfNums (if n < 0 then 45 :: xs else xs))
theorem loop (n : Int) (j : Nat) : ∀ (k : Nat) (acc : List Int) (m : Int), m.natAbs < 10 ^ j → j ≤ 19 → -9223372036854775808 ≤ m → m ≤ 9223372036854775807 → acc.length + j ≤ 100 → j < k →
    spec_NumText.l0 k n acc m = fin n (digs m.natAbs ++ acc) := by
  induction j with
  | zero =>
    intro k acc m hm _ _ _ ha hk
    obtain ⟨k, rfl⟩ : ∃ q, k = q + 1 := ⟨k - 1, by omega⟩
    have : m = 0 := by
      have : m.natAbs = 0 := by simpa using hm
      omega
    subst this
    simp only [spec_NumText.l0]
    rw [if_pos (by first | rfl | trivial)]
    unfold fin
    simp only [Option.bind_some, List.length_cons, List.length_nil, Int.natAbs_zero]
    by_cases h : n < 0
    · rw [if_pos h, if_pos (by omega), if_pos h]
      rfl
    · rw [if_neg h, if_neg h]
      rfl
  | succ j ih =>
    intro k acc m hm hj hlo hhi ha hk
    obtain ⟨k, rfl⟩ : ∃ q, k = q + 1 := ⟨k - 1, by omega⟩
    simp only [spec_NumText.l0]
    by_cases h0 : m = 0
    · subst h0
      rw [if_pos (by first | rfl | trivial)]
      unfold fin
      simp only [Option.bind_some, List.length_cons, List.length_nil, Int.natAbs_zero]
      by_cases h : n < 0
      · rw [if_pos h, if_pos (by omega), if_pos h]
        rfl
      · rw [if_neg h, if_neg h]
        rfl
    · have hu : m.natAbs ≠ 0 := by omega
      have hd : (Int.tdiv m 10).natAbs = m.natAbs / 10 := by rw [Int.natAbs_tdiv]; rfl
      have ht : (Int.tmod m 10).natAbs = m.natAbs % 10 := by rw [Int.natAbs_tmod]; rfl
      have hw : wrap64 (Int.tdiv m 10) = Int.tdiv m 10 := w64n (by omega) (by omega)
      have key : ∀ v : Int, v = ((48 + m.natAbs % 10 : Nat) : Int) → (some [v] : Option (List Int)).bind (fun y => if y.length + acc.length < 140737488355328 then spec_NumText.l0 k n (y ++ acc) (wrap64 (Int.tdiv m 10)) else none) = fin n (digs m.natAbs ++ acc) := fun v hv => by
        rw [Option.bind_some, if_pos (by simp; omega), hw, ih k _ _ (by rw [hd]; rw [Nat.pow_succ] at hm; omega) (by omega) (by omega) (by omega) (by simp; omega) (by omega), hd, digs_step hu, hv, List.append_assoc]
      rw [if_neg h0]
      by_cases hn : Int.tmod m 10 < 0
      · rw [if_pos hn]
        refine key _ ?_
        rw [w64n (n := -(Int.tmod m 10)) (by omega) (by omega), w64n (by omega) (by omega)]
        omega
      · rw [if_neg hn]
        refine key _ ?_
        rw [w64n (n := 48 + Int.tmod m 10) (by omega) (by omega)]
        omega
theorem str_digs (l : List UInt8) : strOfNums (l.map fun b => (b.toNat : Int)) = ⟨l.toArray⟩ := by
  unfold strOfNums
  have e : ((fun n : Int => UInt8.ofNat n.toNat) ∘ fun b : UInt8 => (b.toNat : Int)) = id := by
    funext b
    simp
  rw [List.map_map, e, List.map_id]
theorem spec_is {k : Nat} (hk : 20 ≤ k) (n : Int) (h0 : -9223372036854775808 ≤ n) (h1 : n ≤ 9223372036854775807) : spec_NumText.f k n = some (itoaS n) := by
  show _ = some (⟨(Lib.itoa n).toArray⟩ : ByteArray)
  unfold spec_NumText.f
  by_cases hz : n = 0
  · subst hz
    rw [if_pos rfl]
    have : Lib.itoa 0 = [48] := by
      unfold Lib.itoa
      rw [if_neg (by omega), Lib.decDigits, dif_pos (by decide)]
      rfl
    rw [this]
  · rw [if_neg hz, loop n 19 k [] n (by omega) (by omega) h0 h1 (by simp) (by omega), List.append_nil]
    unfold fin
    refine congrArg some ?_
    have hu : n.natAbs ≠ 0 := by omega
    unfold digs Lib.itoa
    rw [if_neg hu]
    by_cases h : n < 0
    · rw [if_pos h, if_pos h, ← str_digs (45 :: Lib.decDigits n.natAbs)]
      rfl
    · rw [if_neg h, if_neg h, ← str_digs, show n.natAbs = n.toNat by omega]
theorem bt_list (s : ByteArray) (A R : List UInt8) (b : UInt8) (h : A ++ b :: R = s.data.toList) {i : Int} (hi : i = A.length) : bt s i = (b.toNat : Int) := by
  have hlen : s.size = A.length + (R.length + 1) := by
    have := congrArg List.length h
    rw [List.length_append, List.length_cons, Array.length_toList] at this
    exact this.symm
  have hj : i.toNat < s.size := by omega
  rw [← bt_at s i hj]
  have e : s[i.toNat]'hj = b := by
    show s.data[i.toNat]'hj = b
    rw [← Array.getElem_toList]
    simp only [← h]
    rw [List.getElem_append_right (by omega)]
    simp [show i.toNat - A.length = 0 by omega]
  rw [e]
def after (s : ByteArray) : Option Nat → Option (Int × Bool)
  | none => some (0, false)
  | some u => if itoaS (u : Int) = s then some ((u : Int), true) else some (0, false)
theorem read_l0 (s : ByteArray) (hs : s.size ≤ 12) (R : List UInt8) : ∀ (A : List UInt8) (k u : Nat) (i : Int), A ++ R = s.data.toList → i = A.length → R.length + 25 < k → u < 10 ^ A.length →
    spec_NumRead.l0 k s (u : Int) i = after s (Lib.decFrom u R) := by
  induction R with
  | nil =>
    intro A k u i hA hi hk hu
    obtain ⟨k, rfl⟩ : ∃ q, k = q + 1 := ⟨k - 1, by omega⟩
    have hlen : s.size = A.length := by
      have := congrArg List.length hA
      rw [List.append_nil, Array.length_toList] at this
      exact this.symm
    have hu2 : 10 ^ A.length ≤ 10 ^ 12 := Nat.pow_le_pow_right (by decide) (by omega)
    simp only [spec_NumRead.l0]
    rw [if_neg (by omega), spec_is (by simp at hk; omega) (u : Int) (by omega) (by omega), Option.bind_some]
    simp only [Lib.decFrom, after]
    by_cases h : itoaS (u : Int) = s
    · rw [if_pos h, if_pos (by rw [h])]
    · rw [if_neg h, if_neg (fun e => h (toList_inj e))]
  | cons b R ih =>
    intro A k u i hA hi hk hu
    obtain ⟨k, rfl⟩ : ∃ q, k = q + 1 := ⟨k - 1, by omega⟩
    rw [List.length_cons] at hk
    have hlen : s.size = A.length + (R.length + 1) := by
      have := congrArg List.length hA
      rw [List.length_append, List.length_cons, Array.length_toList] at this
      exact this.symm
    have hb := bt_list s A R b hA hi
    have hr := b.toNat_lt
    have hu2 : 10 ^ A.length ≤ 10 ^ 12 := Nat.pow_le_pow_right (by decide) (by omega)
    simp only [spec_NumRead.l0]
    rw [if_pos (by omega), if_pos (by omega), hb]
    simp only [Lib.decFrom, Lib.digitVal]
    by_cases h1 : (b.toNat : Int) < 48
    · rw [if_pos h1, if_neg (by omega)]
      rfl
    · rw [if_neg h1]
      by_cases h2 : (b.toNat : Int) > 57
      · rw [if_pos h2, if_neg (by omega)]
        rfl
      · rw [if_neg h2, if_pos (by omega), w64n (n := 10 * (u : Int)) (by omega) (by omega), w64n (n := i + 1) (by omega) (by omega), w64n (by omega) (by omega)]
        have e : 10 * (u : Int) + ((b.toNat : Int) - 48) % 256 = ((u * 10 + (b.toNat - 48) : Nat) : Int) := by omega
        rw [e, ih (A ++ [b]) k _ (i + 1) (by rw [List.append_assoc]; exact hA) (by simp; omega) (by omega) (by rw [List.length_append, List.length_singleton, Nat.pow_succ]; omega)]
theorem decDigits_digit (u : Nat) : Lib.decDigits u ≠ [] ∧ ∀ b ∈ Lib.decDigits u, 48 ≤ b.toNat ∧ b.toNat ≤ 57 := by
  induction u using Nat.strongRecOn with
  | _ u ih =>
    rw [Lib.decDigits]
    by_cases h : u < 10
    · rw [dif_pos h]
      refine ⟨by simp, fun b hb => ?_⟩
      rw [List.mem_singleton] at hb
      subst hb
      rw [UInt8.toNat_ofNat']
      omega
    · rw [dif_neg h]
      refine ⟨by simp, fun b hb => ?_⟩
      rcases List.mem_append.1 hb with hb | hb
      · exact (ih (u / 10) (by omega)).2 b hb
      · rw [List.mem_singleton] at hb
        subst hb
        rw [UInt8.toNat_ofNat']
        omega
theorem itoa_head {n : Int} (h0 : 0 ≤ n) {s : ByteArray} {b : UInt8} {r : List UInt8} (hl : s.data.toList = b :: r) (h : itoaS n = s) : 48 ≤ b.toNat ∧ b.toNat ≤ 57 := by
  subst h
  have e : Lib.decDigits n.toNat = b :: r := by
    unfold itoaS Lib.itoa at hl
    rw [if_neg (by omega)] at hl
    simpa using hl
  exact (decDigits_digit n.toNat).2 b (by rw [e]; simp)
theorem spec_read (s : ByteArray) : spec_NumRead.f 60 s = some (implV s) := by
  unfold spec_NumRead.f
  have hsz : s.size = s.data.toList.length := by rw [Array.length_toList]; rfl
  by_cases h1 : (s.size : Int) < 1
  · rw [if_pos h1]
    have hl : s.data.toList = [] := List.eq_nil_of_length_eq_zero (by omega)
    unfold implV
    rw [hl]
    rfl
  · rw [if_neg h1]
    by_cases h2 : (s.size : Int) > 12
    · rw [decide_eq_true h2]
      have e : implV s = (0, false) := by
        unfold implV
        cases Lib.atoiAll s.data.toList with
        | ok n => simp only; rw [if_pos (.inr (.inl h2))]
        | «syntax» => rfl
        | range => rfl
      rw [e]
      simp only [spec_NumRead.j0]
      rw [if_pos (by first | rfl | trivial)]
    · rw [decide_eq_false h2]
      simp only [spec_NumRead.j0]
      rw [if_neg Bool.false_ne_true]
      have key := read_l0 s (by omega) s.data.toList [] 59 0 0 rfl rfl (by omega) (by decide)
      rw [show ((0 : Nat) : Int) = 0 from rfl] at key
      rw [key]
      unfold implV
      rw [Lib.atoiAll_short _ (by omega)]
      cases hl : s.data.toList with
      | nil =>
        have h0 : s.size = 0 := by rw [hsz, hl]; rfl
        omega
      | cons b r =>
        simp only [Lib.atoi, beq_iff_eq]
        by_cases c1 : b = 45
        · rw [if_pos c1]
          have e0 : Lib.decFrom 0 (b :: r) = none := by subst c1; rfl
          rw [e0]
          cases hd : Lib.decNat r with
          | none => rfl
          | some m =>
            simp only [Option.map_some, Lib.NumEnd.ofOption, after]
            rw [if_pos]
            by_cases hm : m = 0
            · subst hm
              refine .inr (.inr fun e => ?_)
              have := itoa_head (by omega) hl e
              subst c1
              exact absurd this.1 (by decide)
            · exact .inl (by omega)
        · rw [if_neg c1]
          by_cases c2 : b = 43
          · rw [if_pos c2]
            have e0 : Lib.decFrom 0 (b :: r) = none := by subst c2; rfl
            rw [e0]
            cases hd : Lib.decNat r with
            | none => rfl
            | some m =>
              simp only [Option.map_some, Lib.NumEnd.ofOption, after]
              rw [if_pos]
              refine .inr (.inr fun e => ?_)
              have := itoa_head (by omega) hl e
              subst c2
              exact absurd this.1 (by decide)
          · rw [if_neg c2]
            have e0 : Lib.decNat (b :: r) = Lib.decFrom 0 (b :: r) := rfl
            rw [e0]
            cases Lib.decFrom 0 (b :: r) with
            | none => rfl
            | some u =>
              simp only [Option.map_some, Lib.NumEnd.ofOption, after]
              by_cases hc : itoaS (u : Int) = s
              · rw [if_pos hc, if_neg]
                rintro (h | h | h)
                · omega
                · omega
                · exact h hc
              · rw [if_neg hc, if_pos (.inr (.inr hc))]
end Go.Proofs.YtdkaailcembhmaaDoor.FnExactNumRead
