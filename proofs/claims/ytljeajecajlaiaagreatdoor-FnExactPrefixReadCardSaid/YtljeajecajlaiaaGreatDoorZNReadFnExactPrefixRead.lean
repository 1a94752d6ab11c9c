/- NumRead: both sides read a number alike, told as one total function. Conditions: the table of powers of ten lies as its initialiser lays it, the error variables hold errors. -/
import Derived.Test.YtljeajecajlaiaaGreatDoorZSReadFnExactPrefixRead
import Derived.Test.YtljeajecajlaiaaGreatDoorGFnExactPrefixReadx8
import Derived.Lib.AtoiErrMem
import Derived.Lib.AtoiAllCases
namespace Go.Proofs.YtljeajecajlaiaaGreatDoor.NRead
open Go.RowKit Go.Lib Go.Shelf Go.Proofs.YtljeajecajlaiaaGreatDoorW.PrintWords Go.Proofs.YtljeajecajlaiaaGreatDoorW.PrintLast Go.Proofs.YtljeajecajlaiaaGreatDoorW.PrintMore Go.Proofs.YtljeajecajlaiaaGreatDoor.Frame Go.Proofs.YtljeajecajlaiaaGreatDoor.Base Go.Proofs.YtljeajecajlaiaaGreatDoor.Hex Go.Proofs.YtljeajecajlaiaaGreatDoor.Text Go.Proofs.YtljeajecajlaiaaGreatDoor.Spec Go.Proofs.YtljeajecajlaiaaGreatDoor.Pu Go.Proofs.YtljeajecajlaiaaGreatDoor.RPlain Go.Proofs.YtljeajecajlaiaaGreatDoor.Read Go.Proofs.YtljeajecajlaiaaGreatDoor.AddrLaw Go.Proofs.YtljeajecajlaiaaGreatDoor.FFnExactPrefixRead
set_option linter.unusedVariables false
set_option linter.unusedSimpArgs false
/-- What impl.NumRead answers. -/
def numR (s : ByteArray) : Int × Bool := match Lib.atoiAll s.data.toList with
  | .ok n => if n < 0 ∨ 12 < (s.size : Int) ∨ itoaS n ≠ s then (0, false) else (n, true)
  | _ => (0, false)
set_option maxRecDepth 100000 in
theorem impl_fail (s : ByteArray) (w : World) (m : Int) (te : TypeId)
    (hA : Calls Tryz.prog 31 #[.string s] w fun e w' => ∃ p, e = .returned (.tuple #[.int .i64 m, .iface te p]) ∧ Below w.heap.size w w') :
    Calls Tryz.prog 13 #[.string s] w fun e w' => e = .returned (.tuple #[.int .i64 0, .bool false]) ∧ Below w.heap.size w w' := by
  go_enter Tryz.func13, Tryz.ntmps13
  go_wp2_with (go_at_call 31; refine hA.mono ?_; rintro e w1 ⟨p, rfl, hb1⟩)
  go_ret2
  exact ⟨rfl, hb1⟩
set_option maxRecDepth 100000 in
theorem impl_ok (s t : ByteArray) (w : World) (n : Int)
    (hA : Calls Tryz.prog 31 #[.string s] w fun e w' => e = .returned (.tuple #[.int .i64 n, .nilIface]) ∧ Below w.heap.size w w')
    (hN : ∀ w1, Below w.heap.size w w1 → Calls Tryz.prog 32 #[.int .i64 n] w1 fun e w' => e = .returned (.string t) ∧ Below w1.heap.size w1 w') :
    Calls Tryz.prog 13 #[.string s] w fun e w' => e = .returned (.tuple #[.int .i64 (if n < 0 ∨ 12 < (s.size : Int) ∨ t ≠ s then 0 else n), .bool (if n < 0 ∨ 12 < (s.size : Int) ∨ t ≠ s then false else true)]) ∧ Below w.heap.size w w' := by
  by_cases h1 : n < 0
  · rw [if_pos (.inl h1), if_pos (.inl h1)]
    have f1 : decide (n < 0) = true := decide_eq_true h1
    clear hN h1
    go_enter Tryz.func13, Tryz.ntmps13
    go_wp2_with (go_at_call 31; refine hA.mono ?_; rintro e w1 ⟨rfl, hb1⟩)
    go_ret2
    exact ⟨rfl, hb1⟩
  · have f1 : decide (n < 0) = false := decide_eq_false h1
    by_cases h2 : 12 < (s.size : Int)
    · rw [if_pos (.inr (.inl h2)), if_pos (.inr (.inl h2))]
      have f2 : decide (12 < (s.size : Int)) = true := decide_eq_true h2
      clear hN h1 h2
      go_enter Tryz.func13, Tryz.ntmps13
      go_wp2_with (go_at_call 31; refine hA.mono ?_; rintro e w1 ⟨rfl, hb1⟩)
      go_ret2
      exact ⟨rfl, hb1⟩
    · have f2 : decide (12 < (s.size : Int)) = false := decide_eq_false h2
      by_cases h3 : t = s
      · subst h3
        rw [if_neg (by simp [h1, h2]), if_neg (by simp [h1, h2])]
        clear h1 h2
        go_enter Tryz.func13, Tryz.ntmps13
        go_wp2_with (first | (go_at_call 31; refine hA.mono ?_; rintro e w1 ⟨rfl, hb1⟩) | (go_at_call 32; refine (hN _ hb1).mono ?_; rintro e w2 ⟨rfl, hb2⟩))
        go_ret2
        exact ⟨rfl, below_step hb1 hb2⟩
      · rw [if_pos (.inr (.inr h3)), if_pos (.inr (.inr h3))]
        have h4 : t.toList ≠ s.toList := fun e => h3 (toList_inj e)
        have f3 : (t.toList == s.toList) = false := beq_eq_false_iff_ne.mpr h4
        have f4 : (t.toList != s.toList) = true := bne_iff_ne.mpr h4
        have f5 : decide (t.toList = s.toList) = false := decide_eq_false h4
        clear h1 h2
        go_enter Tryz.func13, Tryz.ntmps13
        go_wp2_with (first | (go_at_call 31; refine hA.mono ?_; rintro e w1 ⟨rfl, hb1⟩) | (go_at_call 32; refine (hN _ hb1).mono ?_; rintro e w2 ⟨rfl, hb2⟩))
        go_ret2
        exact ⟨rfl, below_step hb1 hb2⟩
theorem impl_is (s : ByteArray) (hs : s.size ≤ 1048576) (w : World) (htab : Lib.TabIs Tryz.prog w "internal/strconv.uint64pow10" .u64 Lib.pow10Tab) (hE : Errs w) :
    Calls Tryz.prog 13 #[.string s] w fun e w' => e = .returned (.tuple #[.int .i64 (numR s).1, .bool (numR s).2]) ∧ Below w.heap.size w w' := by
  obtain ⟨⟨e0, h1, h2⟩, e1, h3, h4⟩ := hE
  cases h : Lib.atoiAll s.data.toList with
  | ok n =>
    have hb := Lib.atoiAll_bounds h
    have hA : Calls Tryz.prog 31 #[.string s] w fun e w' => e = .returned (.tuple #[.int .i64 n, .nilIface]) ∧ Below w.heap.size w w' :=
      (Any.strconv_Atoi_ok Tryz.laysC172 s (by omega) n h w).mono fun e w' ⟨h1, h2⟩ => ⟨h1, by rcases h2 with rfl | ⟨t, rfl⟩; exact Below.refl _ _; exact Lib.bytesWorld_below _ _ _⟩
    have key := impl_ok s (itoaS n) w n hA (fun w1 hb1 => numText n hb.1 hb.2 w1 (Go.Joins.tab_stays gTab htab hb1 (Nat.le_refl _)))
    unfold numR
    rw [h]
    simp only
    by_cases hc : n < 0 ∨ 12 < (s.size : Int) ∨ itoaS n ≠ s
    · rw [if_pos hc, if_pos hc] at key
      rw [if_pos hc]
      exact key
    · rw [if_neg hc, if_neg hc] at key
      rw [if_neg hc]
      exact key
  | «syntax» =>
    have key := impl_fail s w 0 _ ((Any.strconv_Atoi_syntax Tryz.laysC172 s (by omega) h e0 w h1 h2).mono fun e w' ⟨N, h1, _, _, h2⟩ => ⟨_, h1, h2⟩)
    unfold numR
    rw [h]
    exact key
  | range =>
    have key := impl_fail s w (Lib.atoiSat s.data.toList) _ ((Any.strconv_Atoi_range Tryz.laysC172 s (by omega) h e1 w h3 h4).mono fun e w' ⟨N, h1, _, _, h2⟩ => ⟨_, h1, h2⟩)
    unfold numR
    rw [h]
    exact key
theorem spec_isk {k : Nat} (hk : 20 ≤ k) (n : Int) (h0 : -9223372036854775808 ≤ n) (h1 : n ≤ 9223372036854775807) : spec_NumText.f k n = some (itoaS n) := by
  show _ = some (⟨(Lib.itoa n).toArray⟩ : ByteArray)
  unfold spec_NumText.f
  by_cases hz : n = 0
  · subst hz
    rw [if_pos rfl]
    have : Lib.itoa 0 = [48] := by
      unfold Lib.itoa
      rw [if_neg (by omega), Lib.decDigits, dif_pos (by decide)]
      rfl
    rw [this]
  · rw [if_neg hz, loop n 19 k [] n (by omega) (by omega) h0 h1 (by simp) (by omega), List.append_nil]
    unfold fin
    refine congrArg some ?_
    have hu : n.natAbs ≠ 0 := by omega
    unfold digs Lib.itoa
    rw [if_neg hu]
    by_cases h : n < 0
    · rw [if_pos h, if_pos h, ← str_digs (45 :: Lib.decDigits n.natAbs)]
      rfl
    · rw [if_neg h, if_neg h, ← str_digs, show n.natAbs = n.toNat by omega]
theorem bt_list (s : ByteArray) (A R : List UInt8) (b : UInt8) (h : A ++ b :: R = s.data.toList) {i : Int} (hi : i = A.length) : bt s i = (b.toNat : Int) := by
  have hlen : s.size = A.length + (R.length + 1) := by
    have := congrArg List.length h
    rw [List.length_append, List.length_cons, Array.length_toList] at this
    exact this.symm
  have hj : i.toNat < s.size := by omega
  rw [← bt_at s i hj]
  have e : s[i.toNat]'hj = b := by
    show s.data[i.toNat]'hj = b
    rw [← Array.getElem_toList]
    simp only [← h]
    rw [List.getElem_append_right (by omega)]
    simp [show i.toNat - A.length = 0 by omega]
  rw [e]
def after (s : ByteArray) : Option Nat → Option (Int × Bool)
  | none => some (0, false)
  | some u => if itoaS (u : Int) = s then some ((u : Int), true) else some (0, false)
theorem read_l0 (s : ByteArray) (hs : s.size ≤ 12) (R : List UInt8) : ∀ (A : List UInt8) (k u : Nat) (i : Int), A ++ R = s.data.toList → i = A.length → R.length + 25 < k → u < 10 ^ A.length →
    spec_NumRead.l0 k s (u : Int) i = after s (Lib.decFrom u R) := by
  induction R with
  | nil =>
    intro A k u i hA hi hk hu
    obtain ⟨k, rfl⟩ : ∃ q, k = q + 1 := ⟨k - 1, by omega⟩
    have hlen : s.size = A.length := by
      have := congrArg List.length hA
      rw [List.append_nil, Array.length_toList] at this
      exact this.symm
    have hu2 : 10 ^ A.length ≤ 10 ^ 12 := Nat.pow_le_pow_right (by decide) (by omega)
    simp only [spec_NumRead.l0]
    rw [if_neg (by omega), spec_isk (by simp at hk; omega) (u : Int) (by omega) (by omega), Option.bind_some]
    simp only [Lib.decFrom, after]
    by_cases h : itoaS (u : Int) = s
    · rw [if_pos h, if_pos (by rw [h])]
    · rw [if_neg h, if_neg (fun e => h (toList_inj e))]
  | cons b R ih =>
    intro A k u i hA hi hk hu
    obtain ⟨k, rfl⟩ : ∃ q, k = q + 1 := ⟨k - 1, by omega⟩
    rw [List.length_cons] at hk
    have hlen : s.size = A.length + (R.length + 1) := by
      have := congrArg List.length hA
      rw [List.length_append, List.length_cons, Array.length_toList] at this
      exact this.symm
    have hb := bt_list s A R b hA hi
    have hr := b.toNat_lt
    have hu2 : 10 ^ A.length ≤ 10 ^ 12 := Nat.pow_le_pow_right (by decide) (by omega)
    simp only [spec_NumRead.l0]
    rw [if_pos (by omega), if_pos (by omega), hb]
    simp only [Lib.decFrom, Lib.digitVal]
    by_cases h1 : (b.toNat : Int) < 48
    · rw [if_pos h1, if_neg (by omega)]
      rfl
    · rw [if_neg h1]
      by_cases h2 : (b.toNat : Int) > 57
      · rw [if_pos h2, if_neg (by omega)]
        rfl
      · rw [if_neg h2, if_pos (by omega), w64n (n := 10 * (u : Int)) (by omega) (by omega), w64n (n := i + 1) (by omega) (by omega), w64n (by omega) (by omega)]
        have e : 10 * (u : Int) + ((b.toNat : Int) - 48) % 256 = ((u * 10 + (b.toNat - 48) : Nat) : Int) := by omega
        rw [e, ih (A ++ [b]) k _ (i + 1) (by rw [List.append_assoc]; exact hA) (by simp; omega) (by omega) (by rw [List.length_append, List.length_singleton, Nat.pow_succ]; omega)]
theorem decDigits_digit (u : Nat) : Lib.decDigits u ≠ [] ∧ ∀ b ∈ Lib.decDigits u, 48 ≤ b.toNat ∧ b.toNat ≤ 57 := by
  induction u using Nat.strongRecOn with
  | _ u ih =>
    rw [Lib.decDigits]
    by_cases h : u < 10
    · rw [dif_pos h]
      refine ⟨by simp, fun b hb => ?_⟩
      rw [List.mem_singleton] at hb
      subst hb
      rw [UInt8.toNat_ofNat']
      omega
    · rw [dif_neg h]
      refine ⟨by simp, fun b hb => ?_⟩
      rcases List.mem_append.1 hb with hb | hb
      · exact (ih (u / 10) (by omega)).2 b hb
      · rw [List.mem_singleton] at hb
        subst hb
        rw [UInt8.toNat_ofNat']
        omega
theorem itoa_head {n : Int} (h0 : 0 ≤ n) {s : ByteArray} {b : UInt8} {r : List UInt8} (hl : s.data.toList = b :: r) (h : itoaS n = s) : 48 ≤ b.toNat ∧ b.toNat ≤ 57 := by
  subst h
  have e : Lib.decDigits n.toNat = b :: r := by
    unfold itoaS Lib.itoa at hl
    rw [if_neg (by omega)] at hl
    simpa using hl
  exact (decDigits_digit n.toNat).2 b (by rw [e]; simp)
theorem spec_read (s : ByteArray) : spec_NumRead.f 60 s = some (numR s) := by
  unfold spec_NumRead.f
  have hsz : s.size = s.data.toList.length := by rw [Array.length_toList]; rfl
  by_cases h1 : (s.size : Int) < 1
  · rw [if_pos h1]
    have hl : s.data.toList = [] := List.eq_nil_of_length_eq_zero (by omega)
    unfold numR
    rw [hl]
    rfl
  · rw [if_neg h1]
    by_cases h2 : (s.size : Int) > 12
    · rw [if_pos h2]
      have e : numR s = (0, false) := by
        unfold numR
        cases Lib.atoiAll s.data.toList with
        | ok n => simp only; rw [if_pos (.inr (.inl h2))]
        | «syntax» => rfl
        | range => rfl
      rw [e]
    · rw [if_neg h2]
      have key := read_l0 s (by omega) s.data.toList [] 60 0 0 rfl rfl (by omega) (by decide)
      rw [show ((0 : Nat) : Int) = 0 from rfl] at key
      rw [key]
      unfold numR
      rw [Lib.atoiAll_short _ (by omega)]
      cases hl : s.data.toList with
      | nil =>
        have h0 : s.size = 0 := by rw [hsz, hl]; rfl
        omega
      | cons b r =>
        simp only [Lib.atoi, beq_iff_eq]
        by_cases c1 : b = 45
        · rw [if_pos c1]
          have e0 : Lib.decFrom 0 (b :: r) = none := by subst c1; rfl
          rw [e0]
          cases hd : Lib.decNat r with
          | none => rfl
          | some m =>
            simp only [Option.map_some, Lib.NumEnd.ofOption, after]
            rw [if_pos]
            by_cases hm : m = 0
            · subst hm
              refine .inr (.inr fun e => ?_)
              have := itoa_head (by omega) hl e
              subst c1
              exact absurd this.1 (by decide)
            · exact .inl (by omega)
        · rw [if_neg c1]
          by_cases c2 : b = 43
          · rw [if_pos c2]
            have e0 : Lib.decFrom 0 (b :: r) = none := by subst c2; rfl
            rw [e0]
            cases hd : Lib.decNat r with
            | none => rfl
            | some m =>
              simp only [Option.map_some, Lib.NumEnd.ofOption, after]
              rw [if_pos]
              refine .inr (.inr fun e => ?_)
              have := itoa_head (by omega) hl e
              subst c2
              exact absurd this.1 (by decide)
          · rw [if_neg c2]
            have e0 : Lib.decNat (b :: r) = Lib.decFrom 0 (b :: r) := rfl
            rw [e0]
            cases Lib.decFrom 0 (b :: r) with
            | none => rfl
            | some u =>
              simp only [Option.map_some, Lib.NumEnd.ofOption, after]
              by_cases hc : itoaS (u : Int) = s
              · rw [if_pos hc, if_neg]
                rintro (h | h | h)
                · omega
                · omega
                · exact h hc
              · rw [if_neg hc, if_pos (.inr (.inr hc))]
end Go.Proofs.YtljeajecajlaiaaGreatDoor.NRead
