/- impl.PrefixText: the text of a prefix. Conditions: the tables of powers of ten and of trailing zeros lie as their initialisers lay them. -/
import Derived.Test.YtljeajecajlaiaaGreatDoorGFnExactPrefixReadx9
import Derived.Test.YtljeajecajlaiaaGreatDoorGFnExactPrefixReadx14
import Derived.Test.YtljeajecajlaiaaGreatDoorGFnExactPrefixReadx15
import Derived.Test.YtljeajecajlaiaaGreatDoorZRWalkFnExactPrefixRead
namespace Go.Proofs.YtljeajecajlaiaaGreatDoor.PrefixLaw
open Go.RowKit Go.Shelf Go.Proofs.YtljeajecajlaiaaGreatDoorW.PrintWords Go.Proofs.YtljeajecajlaiaaGreatDoorW.PrintLast Go.Proofs.YtljeajecajlaiaaGreatDoorW.PrintMore Go.Proofs.YtljeajecajlaiaaGreatDoor.Frame Go.Proofs.YtljeajecajlaiaaGreatDoor.Base Go.Proofs.YtljeajecajlaiaaGreatDoor.FFnExactPrefixRead Go.Proofs.YtljeajecajlaiaaGreatDoor.Hex Go.Proofs.YtljeajecajlaiaaGreatDoor.Text Go.Proofs.YtljeajecajlaiaaGreatDoor.Spec Go.Proofs.YtljeajecajlaiaaGreatDoor.AddrLaw Go.Proofs.YtljeajecajlaiaaGreatDoor.RLaw Go.Proofs.YtljeajecajlaiaaGreatDoor.RWalk
set_option linter.unusedVariables false
set_option linter.unusedSimpArgs false
theorem within (n lo hi : Int) : impl_within.f n lo hi = some (decide (lo ≤ n ∧ n ≤ hi)) := by
  unfold impl_within.f
  by_cases h : n ≥ lo
  · rw [if_pos h]
    simp [h]
  · rw [if_neg h]
    simp [h]

def keepN (n : Int) : Nat := if n < 0 then 0 else if n > 8 then 8 else n.toNat
theorem keepN_le (n : Int) : keepN n ≤ 8 := by
  unfold keepN
  split
  · omega
  · split <;> omega
def maskB (b : Int) (j : Nat) : Int := b - b % 2 ^ (8 - j)
def midB (b : Int) (lo hi : Nat) : Int := b - b % 2 ^ (8 - lo) + b % 2 ^ (8 - hi)
def mk (n : Int) : List Int → List Int
  | [] => []
  | b :: r => maskB b (keepN n) :: mk (n - 8) r
def st (n i : Int) : List Int → List Int
  | [] => []
  | b :: r => midB b (keepN n) (max (keepN n) (keepN i)) :: st (n - 8) (i - 8) r
theorem mk_length (n : Int) (xs : List Int) : (mk n xs).length = xs.length := by
  induction xs generalizing n with
  | nil => rfl
  | cons b r ih => simp [mk, ih]
theorem st_length (n i : Int) (xs : List Int) : (st n i xs).length = xs.length := by
  induction xs generalizing n i with
  | nil => rfl
  | cons b r ih => simp [st, ih]
theorem maskB_u8 {b : Int} (h0 : 0 ≤ b) (h1 : b ≤ 255) (j : Nat) : 0 ≤ maskB b j ∧ maskB b j ≤ 255 := by
  unfold maskB
  have h2 : (0 : Int) < 2 ^ (8 - j) := Int.pow_pos (by decide)
  have h3 := Int.emod_nonneg b (show (2 : Int) ^ (8 - j) ≠ 0 by omega)
  have h4 : b % 2 ^ (8 - j) ≤ b := by
    have := Int.emod_def b (2 ^ (8 - j))
    have h5 : 0 ≤ 2 ^ (8 - j) * (b / 2 ^ (8 - j)) := Int.mul_nonneg (by omega) (Int.ediv_nonneg h0 (by omega))
    omega
  omega
theorem mk_u8 {n : Int} {xs : List Int} (h : U8 xs) : U8 (mk n xs) := by
  induction xs generalizing n with
  | nil => exact U8.nil
  | cons b r ih =>
    have hb := h b (by simp)
    have := maskB_u8 hb.1 hb.2 (keepN n)
    exact U8.cons this.1 this.2 (ih (fun x hx => h x (by simp [hx])))
theorem mid_all : ∀ (b : Fin 256) (lo : Fin 9), midB (b.val : Int) lo.val lo.val = b.val := by decide +kernel
theorem mid_end : ∀ (b : Fin 256) (lo : Fin 9), midB (b.val : Int) lo.val 8 = maskB b.val lo.val := by decide +kernel
theorem mid_step : ∀ (b : Fin 256) (lo : Fin 9) (i : Fin 8), lo.val ≤ i.val →
    midB (b.val : Int) lo.val (i.val + 1) = (if midB (b.val : Int) lo.val i.val / 2 ^ (7 - i.val) % 2 = 1 then (midB (b.val : Int) lo.val i.val - 2 ^ (7 - i.val)) % 256 else midB (b.val : Int) lo.val i.val) ∧ 0 ≤ midB (b.val : Int) lo.val i.val ∧ midB (b.val : Int) lo.val i.val ≤ 255 := by decide +kernel
theorem and_mask : ∀ (b : Fin 256) (t : Fin 9), Go.bits .and .u8 (b.val : Int) ((shr .u16 65280 (t.val : Int)) % 256) = maskB b.val t.val := by decide +kernel
theorem fin_byte {b : Int} (h0 : 0 ≤ b) (h1 : b ≤ 255) : ∃ f : Fin 256, (f.val : Int) = b := ⟨⟨b.toNat, by omega⟩, by simp; omega⟩
theorem st_self {n : Int} {xs : List Int} (h : U8 xs) : st n n xs = xs := by
  induction xs generalizing n with
  | nil => rfl
  | cons b r ih =>
    have hb := h b (by simp)
    obtain ⟨f, hf⟩ := fin_byte hb.1 hb.2
    have := mid_all f ⟨keepN n, by have := keepN_le n; omega⟩
    simp only [st, Nat.max_self]
    rw [ih (fun x hx => h x (by simp [hx])), ← hf, this]
theorem st_done {n i : Int} {xs : List Int} (h : U8 xs) (hi : 8 * (xs.length : Int) ≤ i) : st n i xs = mk n xs := by
  induction xs generalizing n i with
  | nil => rfl
  | cons b r ih =>
    have hb := h b (by simp)
    obtain ⟨f, hf⟩ := fin_byte hb.1 hb.2
    have hk := keepN_le n
    have := mid_end f ⟨keepN n, by omega⟩
    rw [List.length_cons] at hi
    have h8 : keepN i = 8 := by unfold keepN; rw [if_neg (by omega)]; split <;> omega
    simp only [st, mk]
    rw [ih (fun x hx => h x (by simp [hx])) (by omega), h8, Nat.max_eq_right hk, ← hf, this]
theorem st_step {n i : Int} {xs : List Int} (h : U8 xs) (hn : n ≤ i) (h0 : 0 ≤ i) (hi : i < 8 * (xs.length : Int)) :
    (st n (i + 1) xs = if rd (st n i xs) (i / 8) / 2 ^ (7 - (i % 8).toNat) % 2 = 1 then (st n i xs).set (i / 8).toNat ((rd (st n i xs) (i / 8) - 2 ^ (7 - (i % 8).toNat)) % 256) else st n i xs) ∧ 0 ≤ rd (st n i xs) (i / 8) ∧ rd (st n i xs) (i / 8) ≤ 255 := by
  induction xs generalizing n i with
  | nil => simp at hi; omega
  | cons b r ih =>
    have hb := h b (by simp)
    obtain ⟨f, hf⟩ := fin_byte hb.1 hb.2
    have hk := keepN_le n
    by_cases h8 : i < 8
    · have e0 : i / 8 = 0 := by omega
      have e1 : i % 8 = i := by omega
      have k0 : keepN i = i.toNat := by unfold keepN; rw [if_neg (by omega), if_neg (by omega)]
      have k1 : keepN (i + 1) = i.toNat + 1 := by unfold keepN; rw [if_neg (by omega), if_neg (by omega)]; omega
      have kn : keepN n ≤ i.toNat := by unfold keepN; split; omega; split <;> omega
      have t0 : keepN (i - 8) = 0 := by unfold keepN; rw [if_pos (by omega)]
      have ht : st (n - 8) (i + 1 - 8) r = st (n - 8) (i - 8) r := by
        have : ∀ (m : Int) (ys : List Int) (p q : Int), p ≤ 0 → q ≤ 0 → st m p ys = st m q ys := by
          intro m ys
          induction ys generalizing m with
          | nil => intro p q _ _; rfl
          | cons y ys ih2 =>
            intro p q hp hq
            have kp : keepN p = 0 := by unfold keepN; split; rfl; split <;> omega
            have kq : keepN q = 0 := by unfold keepN; split; rfl; split <;> omega
            simp only [st, kp, kq]
            rw [ih2 (m - 8) (p - 8) (q - 8) (by omega) (by omega)]
        exact this _ _ _ _ (by omega) (by omega)
      have hs := mid_step f ⟨keepN n, by omega⟩ ⟨i.toNat, by omega⟩ kn
      rw [hf] at hs
      simp only [st, e0, e1]
      rw [ht, k0, k1, Nat.max_eq_right kn, Nat.max_eq_right (by omega)]
      have hr : ∀ (y : Int) (ys : List Int), rd (y :: ys) 0 = y := fun _ _ => rfl
      rw [hr]
      refine ⟨?_, hs.2⟩
      rw [hs.1]
      simp only
      split
      · rfl
      · rfl
    · have e0 : i / 8 = (i - 8) / 8 + 1 := by omega
      have e1 : i % 8 = (i - 8) % 8 := by omega
      have k0 : keepN i = 8 := by unfold keepN; rw [if_neg (by omega)]; split <;> omega
      have k1 : keepN (i + 1) = 8 := by unfold keepN; rw [if_neg (by omega)]; split <;> omega
      rw [List.length_cons] at hi
      obtain ⟨i1, i2, i3⟩ := ih (n := n - 8) (i := i - 8) (fun x hx => h x (by simp [hx])) (by omega) (by omega) (by omega)
      have hr : ∀ (y : Int) (ys : List Int), rd (y :: ys) ((i - 8) / 8 + 1) = rd ys ((i - 8) / 8) := fun y ys => by
        unfold rd
        rw [show ((i - 8) / 8 + 1).toNat = ((i - 8) / 8).toNat + 1 by omega]
        rfl
      have hset : ∀ (y v : Int) (ys : List Int), (y :: ys).set ((i - 8) / 8 + 1).toNat v = y :: ys.set ((i - 8) / 8).toNat v := fun y v ys => by
        rw [show ((i - 8) / 8 + 1).toNat = ((i - 8) / 8).toNat + 1 by omega]
        rfl
      have s0 : st n i (b :: r) = midB b (keepN n) (max (keepN n) 8) :: st (n - 8) (i - 8) r := by simp only [st]; rw [k0]
      have s1 : st n (i + 1) (b :: r) = midB b (keepN n) (max (keepN n) 8) :: st (n - 8) (i - 8 + 1) r := by simp only [st]; rw [k1, show i + 1 - 8 = i - 8 + 1 by omega]
      rw [s0, s1, e0, e1, hr, hset, i1]
      refine ⟨?_, i2, i3⟩
      split <;> rfl
theorem addrBytes_bits {k a b c d : Int} (h : AddrOK k a b c d) : 8 * ((addrBytes k a b c d).length : Int) = if k = 4 then 32 else 128 := by
  unfold addrBytes
  rw [if_pos h]
  split
  · simp [b4]
  · simp [b4]
def first5 (v : Int × Int × Int × Int × Int × Bool) : Int × Int × Int × Int × Int := (v.1, v.2.1, v.2.2.1, v.2.2.2.1, v.2.2.2.2.1)
def cutV (k a b c d n : Int) : Int × Int × Int × Int × Int :=
  if AddrOK k a b c d ∧ 0 ≤ n ∧ n ≤ (if k = 4 then 32 else 128) then first5 (addrOf (mk n (addrBytes k a b c d))) else (0, 0, 0, 0, 0)

theorem specBits (k a b c d : Int) : spec_l03Bits.f k a b c d = some (if k = 4 then 32 else 128) := by
  unfold spec_l03Bits.f
  split <;> rfl
theorem spec_l1 (ys : List Int) (i k a b c d : Int) (p : Nat) : ∀ (q n : Nat), p + q ≤ 7 → spec_Cut.l1 (n + p) ys i (2 ^ (p + q)) p k a b c d = spec_Cut.l1 n ys i (2 ^ q) 0 k a b c d := by
  induction p with
  | zero => intro q n _; rw [Nat.zero_add]; rfl
  | succ p ih =>
    intro q n h
    have e : (2 : Int) ^ (p + 1 + q) = 2 * 2 ^ (p + q) := by rw [show p + 1 + q = (p + q) + 1 by omega, Int.pow_succ, Int.mul_comm]
    have hp : (0 : Int) < 2 ^ (p + q) := Int.pow_pos (by decide)
    have hb : (2 : Int) ^ (p + q) ≤ 2 ^ 7 := by exact_mod_cast Nat.pow_le_pow_right (by decide) (show p + q ≤ 7 by omega)
    rw [show n + (p + 1) = (n + p) + 1 by omega]
    simp only [spec_Cut.l1]
    rw [if_pos (by omega), e, tdiv_pos (by omega), Int.mul_ediv_cancel_left _ (by decide), w64 (by omega) (by omega), w64 (by omega) (by omega), show ((p + 1 : Nat) : Int) - 1 = (p : Int) by omega]
    exact ih q n (by omega)
theorem spec_l0 (xs : List Int) (hx : U8 xs) (hl : xs.length ≤ 16) (n k a b c d : Int) (hb : (if k = 4 then 32 else 128) = 8 * (xs.length : Int)) (e : Nat) : ∀ (m : Nat) (i : Int), 0 ≤ n → n ≤ i → i + e = 8 * xs.length → 10 * e + 30 < m → spec_Cut.l0 m (st n i xs) i k a b c d = some (first5 (addrOf (mk n xs))) := by
  induction e with
  | zero =>
    intro m i hn hi he hm
    obtain ⟨m, rfl⟩ := pos_k hm
    simp only [spec_Cut.l0]
    rw [specBits, hb]
    simp only [Option.bind_some]
    rw [if_neg (by omega), st_done hx (by omega), specAddrOf (mk_u8 hx) (by rw [mk_length]; omega) (by omega)]
    rfl
  | succ e ih =>
    intro m i hn hi he hm
    obtain ⟨m, rfl⟩ := pos_k hm
    obtain ⟨s1, s2, s3⟩ := st_step (n := n) (i := i) hx hi (by omega) (by omega)
    have hlen := st_length n i xs
    generalize hys : st n i xs = ys at s1 s2 s3 hlen
    have h8 : (i % 8).toNat ≤ 7 := by omega
    have hq : (2 : Int) ^ (7 - (i % 8).toNat) ≤ 2 ^ 7 := by exact_mod_cast Nat.pow_le_pow_right (by decide) (show 7 - (i % 8).toNat ≤ 7 by omega)
    have hp : (0 : Int) < 2 ^ (7 - (i % 8).toNat) := Int.pow_pos (by decide)
    simp only [spec_Cut.l0]
    rw [specBits, hb]
    simp only [Option.bind_some]
    rw [if_pos (by omega), tmod_pos (by omega)]
    have key := spec_l1 ys i k a b c d (i % 8).toNat (7 - (i % 8).toNat) (m - (i % 8).toNat) (by omega)
    rw [show m - (i % 8).toNat + (i % 8).toNat = m by omega, show (i % 8).toNat + (7 - (i % 8).toNat) = 7 by omega, show (((i % 8).toNat : Nat) : Int) = i % 8 by omega, show (2 : Int) ^ 7 = 128 by rfl] at key
    rw [key]
    obtain ⟨m', hm'⟩ : ∃ q, m - (i % 8).toNat = q + 1 := ⟨m - (i % 8).toNat - 1, by omega⟩
    rw [hm']
    simp only [spec_Cut.l1]
    rw [if_neg (by decide), tdiv_pos (show 0 ≤ i by omega), w64 (n := i / 8) (by omega) (by omega), if_pos (by omega), if_pos (by omega), if_neg (by omega), w64 (n := rd ys (i / 8)) (by omega) (by omega), tdiv_pos s2]
    have hd0 := Int.ediv_nonneg s2 (show (0 : Int) ≤ 2 ^ (7 - (i % 8).toNat) by omega)
    have hd1 : rd ys (i / 8) / 2 ^ (7 - (i % 8).toNat) ≤ rd ys (i / 8) := Int.ediv_le_self _ s2
    rw [w64 (by omega) (by omega), tmod_pos hd0, w64 (n := i + 1) (by omega) (by omega), Int.emod_eq_of_lt (a := 2 ^ (7 - (i % 8).toNat)) (by omega) (by omega)]
    split
    · rename_i hc
      rw [if_pos hc] at s1
      rw [← s1]
      exact ih m' (i + 1) hn (by omega) (by omega) (by omega)
    · rename_i hc
      rw [if_neg hc] at s1
      rw [← s1]
      exact ih m' (i + 1) hn (by omega) (by omega) (by omega)
theorem specCut {m : Nat} (hm : 2000 ≤ m) (k a b c d n : Int) : spec_Cut.f m k a b c d n = some (cutV k a b c d n) := by
  unfold spec_Cut.f cutV
  rw [specAddrOk]
  simp only [Option.bind_some]
  by_cases h : AddrOK k a b c d
  · rw [decide_eq_true h, if_pos rfl]
    by_cases h0 : n < 0
    · rw [if_pos h0, if_neg (by omega)]
    · rw [if_neg h0, specBits]
      simp only [Option.bind_some]
      have hbits := addrBytes_bits h
      by_cases h1 : n ≤ (if k = 4 then 32 else 128)
      · rw [if_pos (show AddrOK k a b c d ∧ 0 ≤ n ∧ n ≤ (if k = 4 then 32 else 128) from ⟨h, by omega, h1⟩), if_neg (by omega)]
        rw [specAddrBytes]
        simp only [Option.bind_some]
        have hx := addrBytes_u8 k a b c d
        have hl := addrBytes_len k a b c d
        generalize addrBytes k a b c d = xs at hx hl hbits
        have key := spec_l0 xs hx hl n k a b c d hbits.symm (8 * xs.length - n.toNat) m n (by omega) (by omega) (by omega) (by omega)
        rw [st_self hx] at key
        exact key
      · rw [if_neg (show ¬ (AddrOK k a b c d ∧ 0 ≤ n ∧ n ≤ (if k = 4 then 32 else 128)) from fun hh => h1 hh.2.2), if_pos (by omega)]
  · rw [decide_eq_false h, if_neg Bool.false_ne_true, if_neg (fun hh => h hh.1)]

theorem implClip8 (n : Int) : impl_Clip.f n 0 8 = some (keepN n : Int) := by
  unfold impl_Clip.f keepN
  by_cases h : n < 0
  · rw [if_pos h, if_pos h]; rfl
  · rw [if_neg h, if_neg h]
    by_cases h8 : n > 8
    · rw [if_pos h8, if_pos h8]; rfl
    · rw [if_neg h8, if_neg h8]
      congr 1
      omega
theorem impl_cut_l0 (n : Int) (hn : 0 ≤ n ∧ n ≤ 128) (R : List Int) : ∀ (A : List Int) (m : Nat) (L i : Int), U8 A → U8 R → A.length + R.length ≤ 16 → L = (A.length : Int) + R.length → i = A.length → R.length + 30 < m → impl_Cut.l0 m n (A ++ R) L i = some (first5 (addrOf (A ++ mk (n - 8 * i) R))) := by
  induction R with
  | nil =>
    intro A m L i hA hR hl hL hi hm
    obtain ⟨m, rfl⟩ := pos_k hm
    simp only [impl_Cut.l0]
    rw [List.length_nil] at hL
    rw [if_neg (by omega), List.append_nil, implAddrOf hA (by omega)]
    simp only [mk, List.append_nil]
    rfl
  | cons b R ih =>
    intro A m L i hA hR hl hL hi hm
    obtain ⟨m, rfl⟩ := pos_k hm
    rw [List.length_cons] at hl hL hm
    have hb := hR b (by simp)
    have hrd : rd (A ++ b :: R) i = b := by
      unfold rd
      rw [List.getD_eq_getElem?_getD, List.getElem?_append_right (by omega), show i.toNat - A.length = 0 by omega]
      rfl
    have hset : ∀ v, (A ++ b :: R).set i.toNat v = A ++ [v] ++ R := fun v => by
      rw [List.set_append_right _ _ (by omega), show i.toNat - A.length = 0 by omega]
      simp
    obtain ⟨f, hf⟩ := fin_byte hb.1 hb.2
    have hk := keepN_le (n - 8 * i)
    have hm2 := and_mask f ⟨keepN (n - 8 * i), by omega⟩
    rw [hf] at hm2
    simp only at hm2
    have hmb := maskB_u8 hb.1 hb.2 (keepN (n - 8 * i))
    simp only [impl_Cut.l0]
    rw [if_pos (by omega), w64 (n := 8 * i) (by omega) (by omega), w64 (n := n - 8 * i) (by omega) (by omega), implClip8]
    simp only [Option.bind_some]
    rw [if_pos (by omega), if_pos (by simp; omega), if_pos (by omega), hrd, hm2, hset, w64 (by omega) (by omega)]
    rw [ih (A ++ [maskB b (keepN (n - 8 * i))]) m L (i + 1) (hA.append (U8.cons hmb.1 hmb.2 U8.nil)) (fun x hx => hR x (by simp [hx])) (by simp; omega) (by simp; omega) (by simp; omega) (by omega)]
    simp only [mk]
    rw [show n - 8 * i - 8 = n - 8 * (i + 1) by omega, List.append_assoc]
    rfl
theorem implBits (k a b c d : Int) : impl_bitsOf.f k a b c d = some (if k = 4 then 32 else 128) := by
  unfold impl_bitsOf.f
  split <;> rfl
theorem implCut {m : Nat} (hm : 2000 ≤ m) (k a b c d n : Int) : impl_Cut.f m k a b c d n = some (cutV k a b c d n) := by
  unfold impl_Cut.f cutV
  rw [implAddrOk, implBits]
  simp only [Option.bind_some]
  rw [within]
  simp only [Option.bind_some]
  by_cases h : AddrOK k a b c d
  · rw [decide_eq_true h, if_pos rfl]
    by_cases h1 : 0 ≤ n ∧ n ≤ (if k = 4 then 32 else 128)
    · obtain ⟨m, rfl⟩ : ∃ q, m = q + 1 := ⟨m - 1, by omega⟩
      have hbits := addrBytes_bits h
      rw [if_pos (show AddrOK k a b c d ∧ 0 ≤ n ∧ n ≤ (if k = 4 then 32 else 128) from ⟨h, h1⟩), decide_eq_true h1, if_pos rfl]
      rw [implAddrBytes (by omega)]
      simp only [Option.bind_some]
      have hx := addrBytes_u8 k a b c d
      have hl := addrBytes_len k a b c d
      generalize addrBytes k a b c d = xs at hx hl hbits
      have key := impl_cut_l0 n ⟨h1.1, by have := h1.2; split at this <;> omega⟩ xs [] (m + 1) xs.length 0 U8.nil hx (by simp; omega) (by simp) (by simp) (by omega)
      simp only [List.nil_append, show n - 8 * 0 = n by omega] at key
      exact key
    · rw [decide_eq_false h1, if_neg Bool.false_ne_true, if_neg (show ¬ (AddrOK k a b c d ∧ 0 ≤ n ∧ n ≤ (if k = 4 then 32 else 128)) from fun hh => h1 hh.2)]
  · rw [decide_eq_false h, if_neg Bool.false_ne_true, if_neg (fun hh => h hh.1)]

def anyB (k a b c d n : Int) : Bool := (k == 0 && (a == 0 && (b == 0 && (c == 0 && (d == 0))))) && (n == 0)
def eqCut (v : Int × Int × Int × Int × Int) (k a b c d : Int) : Bool := v.1 == k && (v.2.1 == a && (v.2.2.1 == b && (v.2.2.2.1 == c && (v.2.2.2.2 == d))))
def prefixB (k a b c d n : Int) : Bool := anyB k a b c d n || (decide (AddrOK k a b c d) && decide (0 ≤ n) && decide (n ≤ (if k = 4 then 32 else 128)) && eqCut (cutV k a b c d n) k a b c d)
theorem specAny (k a b c d n : Int) : spec_l03Any.f k a b c d n = some (anyB k a b c d n) := rfl
theorem implAny (k a b c d n : Int) : impl_isAny.f k a b c d n = some (anyB k a b c d n) := rfl
theorem specPrefixOk {m : Nat} (hm : 2000 ≤ m) (k a b c d n : Int) : spec_PrefixOk.f m k a b c d n = some (prefixB k a b c d n) := by
  unfold spec_PrefixOk.f prefixB
  rw [specAny, Option.bind_some]
  cases anyB k a b c d n
  · rw [if_neg Bool.false_ne_true, specAddrOk, Option.bind_some, Bool.false_or]
    by_cases h : AddrOK k a b c d
    · rw [decide_eq_true h, if_pos rfl, Bool.true_and]
      by_cases h0 : n ≥ 0
      · rw [if_pos h0, decide_eq_true (show 0 ≤ n from h0), specBits, Option.bind_some, Bool.true_and]
        by_cases h1 : n ≤ (if k = 4 then 32 else 128)
        · rw [if_pos h1, decide_eq_true h1, specCut hm, Option.bind_some] <;> rfl
        · rw [if_neg h1, decide_eq_false h1] <;> rfl
      · rw [if_neg h0, decide_eq_false (show ¬ 0 ≤ n from h0)] <;> rfl
    · rw [decide_eq_false h, if_neg Bool.false_ne_true] <;> rfl
  · rw [if_pos rfl] <;> rfl
theorem implPrefixOk {m : Nat} (hm : 2000 ≤ m) (k a b c d n : Int) : impl_PrefixOk.f m k a b c d n = some (prefixB k a b c d n) := by
  unfold impl_PrefixOk.f prefixB
  rw [implAny, Option.bind_some]
  cases anyB k a b c d n
  · rw [if_neg Bool.false_ne_true, implAddrOk, Option.bind_some, Bool.false_or]
    by_cases h : AddrOK k a b c d
    · rw [decide_eq_true h, if_pos rfl, Bool.true_and, implBits, Option.bind_some, within, Option.bind_some]
      by_cases h1 : 0 ≤ n ∧ n ≤ (if k = 4 then 32 else 128)
      · rw [decide_eq_true h1, if_pos rfl, decide_eq_true h1.1, decide_eq_true h1.2, implCut hm, Option.bind_some] <;> rfl
      · rw [decide_eq_false h1, if_neg Bool.false_ne_true]
        by_cases h0 : 0 ≤ n
        · rw [decide_eq_false (show ¬ n ≤ (if k = 4 then 32 else 128) from fun h2 => h1 ⟨h0, h2⟩), Bool.and_false] <;> rfl
        · rw [decide_eq_false h0] <;> rfl
    · rw [decide_eq_false h, if_neg Bool.false_ne_true] <;> rfl
  · rw [if_pos rfl] <;> rfl
theorem prefix_addr {k a b c d n : Int} (hp : prefixB k a b c d n = true) (ha : anyB k a b c d n = false) : AddrOK k a b c d := by
  unfold prefixB at hp
  rw [ha] at hp
  simp only [Bool.false_or, Bool.and_eq_true, decide_eq_true_eq] at hp
  exact hp.1.1.1


/-- The text of an address, by both sides. -/
theorem itoaS_size2 {b : Int} (h : 0 ≤ b ∧ b ≤ 128) : (itoaS b).size ≤ 20 := itoaS_size h.1 (by omega)
/-- What PrefixText answers. -/
def textP (p a : Bool) (S : ByteArray) (n : Int) : ByteArray := if p = true then (if a = true then ⟨#[97, 110, 121]⟩ else (S ++ ⟨#[47]⟩) ++ itoaS n) else ⟨#[]⟩
set_option maxHeartbeats 8000000 in
set_option maxRecDepth 100000 in
theorem implPrefixText (p a : Bool) (S : ByteArray) (a0 : Int) (a1 : Int) (a2 : Int) (a3 : Int) (a4 : Int) (a5 : Int) (hS : S.size ≤ 1000) (hp : impl_PrefixOk.f 2000 a0 a1 a2 a3 a4 a5 = some p) (ha : impl_isAny.f a0 a1 a2 a3 a4 a5 = some a) (hn : p = true → a = false → 0 ≤ a5 ∧ a5 ≤ 128) (w : World)
    (htab : Lib.TabIs Tryz.prog w "internal/strconv.uint64pow10" .u64 Lib.pow10Tab)
    (h6 : ∀ w1, Below w.heap.size w w1 → Calls Tryz.prog 30 #[.agg #[.int .i64 a0, .int .i64 a1, .int .i64 a2, .int .i64 a3, .int .i64 a4]] w1 fun e w' => e = .returned (.string S) ∧ Below w1.heap.size w1 w') :
    Calls Tryz.prog 14 #[.agg #[.int .i64 a0, .int .i64 a1, .int .i64 a2, .int .i64 a3, .int .i64 a4, .int .i64 a5]] w fun e w' => e = .returned (.string (textP p a S a5)) ∧ Below w.heap.size w w' := by
  have hu32 := Tryz.underlying25
  have hu9 := Tryz.underlying9
  have hu25 := Tryz.underlying23
  have O3_ : IsOne Tryz.prog 3 := ⟨⟨_, Tryz.underlying3, rfl⟩, by kernel_rfl⟩
  have R25_ : IsRow Tryz.prog 23 5 := ⟨⟨_, Tryz.underlying23, rfl⟩, by kernel_rfl⟩
  have R32_ : IsRow Tryz.prog 25 6 := ⟨⟨_, Tryz.underlying25, rfl⟩, by kernel_rfl⟩
  have HF := Fr.start [25] w
  have HP := Aside0.mk hp
  have HA := Aside0.mk ha
  have HN := Aside0.mk hn
  have HS := Aside0.mk hS
  have HTB := Aside0.mk htab
  clear hp ha hn hS htab
  cases p <;> cases a
  all_goals go_enter Tryz.func14, Tryz.ntmps14
  all_goals (repeat' (first
      | ((with_reducible refine gate_region (id := 0) ?_); apply plain_region) <;>
        (((with_reducible apply Fr.lbox HF rfl rfl rfl); (go_simp; rfl); decide; clear HF; intro g_ w_ HF); (refine lnorm (a' := ?_) ?_ ?_; rotate_left; (simp only [Act.put, List.setIfInBounds_toArray, List.set_cons_zero, List.set_cons_succ, i64_w, i32_w, u8_wr, tmod_nat, Int.reduceToNat, e4, e16, e15, e15a]; rfl))) <;>
        (apply lpure rfl rfl; (go_simp; with_reducible rfl); (simp only [Act.put, List.setIfInBounds_toArray, List.set_cons_zero, List.set_cons_succ, i64_w, i32_w, u8_wr, tmod_nat, Int.reduceToNat, e4, e16, e15, e15a]; rfl)) <;>
        (apply lend)
      | ((with_reducible refine gate_region (id := 1) ?_); apply plain_region) <;>
        (apply HF.lrow rfl rfl rfl R32_ rfl; (repeat (first | exact At.head | apply At.tail)); (simp only [List.drop_succ_cons, List.drop_zero, List.take_succ_cons, List.take_zero]; rfl); rfl; (simp only [Act.put, List.setIfInBounds_toArray, List.set_cons_zero, List.set_cons_succ, i64_w, i32_w, u8_wr, tmod_nat, Int.reduceToNat, e4, e16, e15, e15a]; rfl)) <;>
        (apply lcall rfl rfl rfl Tryz.func33 (by kernel_rfl) rfl; (with_reducible apply Calls.mono); exact impl_PrefixOk.calls 2000 a0 a1 a2 a3 a4 a5 _ _ HP.out; rintro e w_ ⟨rfl, hb_⟩; refine ⟨_, rfl, ?_⟩; replace HF := HF.call hb_; clear hb_; rotate_left; (first | rfl | (simp only [List.map_toArray, List.map_cons, List.map_nil]; first | done | rfl)); (refine lnorm (a' := ?_) ?_ ?_; rotate_left; (simp only [Act.put, List.setIfInBounds_toArray, List.set_cons_zero, List.set_cons_succ, i64_w, i32_w, u8_wr, tmod_nat, Int.reduceToNat, e4, e16, e15, e15a]; rfl))) <;>
        (apply lpure rfl rfl; (go_simp; with_reducible rfl); (simp only [Act.put, List.setIfInBounds_toArray, List.set_cons_zero, List.set_cons_succ, i64_w, i32_w, u8_wr, tmod_nat, Int.reduceToNat, e4, e16, e15, e15a]; rfl)) <;>
        (apply lpure rfl rfl; (go_simp; with_reducible rfl); (simp only [Act.put, List.setIfInBounds_toArray, List.set_cons_zero, List.set_cons_succ, i64_w, i32_w, u8_wr, tmod_nat, Int.reduceToNat, e4, e16, e15, e15a]; rfl)) <;>
        (apply lend)
      | ((with_reducible refine gate_region (id := 2) ?_); apply plain_region) <;>
        (apply lpure rfl rfl; (go_simp; with_reducible rfl); (simp only [Act.put, List.setIfInBounds_toArray, List.set_cons_zero, List.set_cons_succ, i64_w, i32_w, u8_wr, tmod_nat, Int.reduceToNat, e4, e16, e15, e15a]; rfl)) <;>
        (apply lend)
      | ((with_reducible refine gate_region (id := 3) ?_); apply plain_region) <;>
        (apply HF.lrow rfl rfl rfl R32_ rfl; (repeat (first | exact At.head | apply At.tail)); (simp only [List.drop_succ_cons, List.drop_zero, List.take_succ_cons, List.take_zero]; rfl); rfl; (simp only [Act.put, List.setIfInBounds_toArray, List.set_cons_zero, List.set_cons_succ, i64_w, i32_w, u8_wr, tmod_nat, Int.reduceToNat, e4, e16, e15, e15a]; rfl)) <;>
        (apply lcall rfl rfl rfl Tryz.func34 (by kernel_rfl) rfl; (with_reducible apply Calls.mono); exact impl_isAny.calls a0 a1 a2 a3 a4 a5 _ _ HA.out; rintro e w_ ⟨rfl, hb_⟩; refine ⟨_, rfl, ?_⟩; replace HF := HF.call hb_; clear hb_; rotate_left; (first | rfl | (simp only [List.map_toArray, List.map_cons, List.map_nil]; first | done | rfl)); (refine lnorm (a' := ?_) ?_ ?_; rotate_left; (simp only [Act.put, List.setIfInBounds_toArray, List.set_cons_zero, List.set_cons_succ, i64_w, i32_w, u8_wr, tmod_nat, Int.reduceToNat, e4, e16, e15, e15a]; rfl))) <;>
        (apply lpure rfl rfl; (go_simp; with_reducible rfl); (simp only [Act.put, List.setIfInBounds_toArray, List.set_cons_zero, List.set_cons_succ, i64_w, i32_w, u8_wr, tmod_nat, Int.reduceToNat, e4, e16, e15, e15a]; rfl)) <;>
        (apply lend)
      | ((with_reducible refine gate_region (id := 4) ?_); apply plain_region) <;>
        (apply lpure rfl rfl; (go_simp; with_reducible rfl); (simp only [Act.put, List.setIfInBounds_toArray, List.set_cons_zero, List.set_cons_succ, i64_w, i32_w, u8_wr, tmod_nat, Int.reduceToNat, e4, e16, e15, e15a]; rfl)) <;>
        (apply lend)
      | ((with_reducible refine gate_region (id := 5) ?_); have HG := HF; refine HG.region2 HF (by kernel_rfl) rfl ?_; clear HF HG; intro w_ HF HG) <;>
        (apply Fr.rpure 0 rfl rfl rfl (by kernel_rfl) (fun _ _ _ h => h); (intro w_; go_simp; with_reducible rfl); (simp only [Act.put, List.setIfInBounds_toArray, List.set_cons_zero, List.set_cons_succ, i64_w, i32_w, u8_wr, tmod_nat, Int.reduceToNat, e4, e16, e15, e15a]; rfl)) <;>
        (apply Fr.rpure 4 rfl rfl rfl (by kernel_rfl) (fun _ _ _ h => h); (intro w_; go_simp; with_reducible rfl); (simp only [Act.put, List.setIfInBounds_toArray, List.set_cons_zero, List.set_cons_succ, i64_w, i32_w, u8_wr, tmod_nat, Int.reduceToNat, e4, e16, e15, e15a]; rfl)) <;>
        (apply HF.rrow 1 rfl rfl rfl rfl (by kernel_rfl) (fun _ _ _ h => h) R25_ rfl; (repeat (first | exact At.head | apply At.tail)); (simp only [List.drop_succ_cons, List.drop_zero, List.take_succ_cons, List.take_zero]; rfl); rfl; (simp only [Act.put, List.setIfInBounds_toArray, List.set_cons_zero, List.set_cons_succ, i64_w, i32_w, u8_wr, tmod_nat, Int.reduceToNat, e4, e16, e15, e15a]; rfl)) <;>
        (apply HF.rone 5 rfl rfl rfl rfl (by kernel_rfl) (fun _ _ _ h => h) O3_ rfl; (repeat (first | exact At.head | apply At.tail)); rfl; (simp only [Act.put, List.setIfInBounds_toArray, List.set_cons_zero, List.set_cons_succ, i64_w, i32_w, u8_wr, tmod_nat, Int.reduceToNat, e4, e16, e15, e15a]; rfl)) <;>
        (apply rcall 2 rfl rfl rfl rfl (by kernel_rfl) (by simp) Tryz.func30 (by kernel_rfl) rfl; (with_reducible apply Calls.mono); exact h6 _ HG.below; rintro e w_ ⟨rfl, hb_⟩; refine ⟨_, rfl, HF.call hb_, ?_⟩; replace HG := HG.call hb_; clear HF hb_; intro HF; rotate_left; (first | rfl | (simp only [List.map_toArray, List.map_cons, List.map_nil]; first | done | rfl)); (refine norm_ (a' := ?_) ?_ ?_; rotate_left; (simp only [Act.put, List.setIfInBounds_toArray, List.set_cons_zero, List.set_cons_succ, i64_w, i32_w, u8_wr, tmod_nat, Int.reduceToNat, e4, e16, e15, e15a]; rfl))) <;>
        (apply Fr.rpure 3 rfl rfl rfl (by kernel_rfl) (fun _ _ _ h => h); (intro w_; exact run_sadd rfl rfl rfl hu9 (by have := HS.out; show S.size + 1 ≤ _; omega)); (simp only [Act.put, List.setIfInBounds_toArray, List.set_cons_zero, List.set_cons_succ, i64_w, i32_w, u8_wr, tmod_nat, Int.reduceToNat, e4, e16, e15, e15a]; rfl)) <;>
        (apply rcall 6 rfl rfl rfl rfl (by kernel_rfl) (by simp) Tryz.func32 (by kernel_rfl) rfl; (with_reducible apply Calls.mono); exact numText a5 (by have := HN.out rfl rfl; omega) (by have := HN.out rfl rfl; omega) _ (Go.Joins.tab_stays gTab HTB.out HG.below (Nat.le_refl _)); rintro e w_ ⟨rfl, hb_⟩; refine ⟨_, rfl, HF.call hb_, ?_⟩; replace HG := HG.call hb_; clear HF hb_; intro HF; rotate_left; (first | rfl | (simp only [List.map_toArray, List.map_cons, List.map_nil]; first | done | rfl)); (refine norm_ (a' := ?_) ?_ ?_; rotate_left; (simp only [Act.put, List.setIfInBounds_toArray, List.set_cons_zero, List.set_cons_succ, i64_w, i32_w, u8_wr, tmod_nat, Int.reduceToNat, e4, e16, e15, e15a]; rfl))) <;>
        (apply Fr.rpure 7 rfl rfl rfl (by kernel_rfl) (fun _ _ _ h => h); (intro w_; exact run_sadd rfl rfl rfl hu9 (by have h1_ := HS.out; have h2_ := (itoaS_size2 (HN.out rfl rfl)); rw [ByteArray.size_append']; show (S.size + 1) + _ ≤ _; omega)); (simp only [Act.put, List.setIfInBounds_toArray, List.set_cons_zero, List.set_cons_succ, i64_w, i32_w, u8_wr, tmod_nat, Int.reduceToNat, e4, e16, e15, e15a]; rfl)) <;>
        (apply Fr.rpure 8 rfl rfl rfl (by kernel_rfl) (fun _ _ _ h => h); (intro w_; go_simp; with_reducible rfl); (simp only [Act.put, List.setIfInBounds_toArray, List.set_cons_zero, List.set_cons_succ, i64_w, i32_w, u8_wr, tmod_nat, Int.reduceToNat, e4, e16, e15, e15a]; rfl)) <;>
        (refine done_ (by kernel_rfl) ?_; clear HF; have HF := HG; clear HG)
      | go_step | fail))
  all_goals (go_ret; exact ⟨rfl, HF.below⟩)
end Go.Proofs.YtljeajecajlaiaaGreatDoor.PrefixLaw
