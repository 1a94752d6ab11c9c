/- AddrRead: what the reference reads is what the program reads, for every text: plain facts over the printed functions. -/
import Derived.Test.YtljeajecajlaiaaGreatDoorZRPlainFnExactPrefixRead
import Derived.Test.YtljeajecajlaiaaGreatDoorZReadFnExactPrefixRead
namespace Go.Proofs.YtljeajecajlaiaaGreatDoor.RLaw
open Go.RowKit Go.Lib Go.Shelf Go.Proofs.YtljeajecajlaiaaGreatDoorW.PrintWords Go.Proofs.YtljeajecajlaiaaGreatDoorW.PrintLast Go.Proofs.YtljeajecajlaiaaGreatDoorW.PrintMore Go.Proofs.YtljeajecajlaiaaGreatDoor.Frame Go.Proofs.YtljeajecajlaiaaGreatDoor.Base Go.Proofs.YtljeajecajlaiaaGreatDoor.Hex Go.Proofs.YtljeajecajlaiaaGreatDoor.Text Go.Proofs.YtljeajecajlaiaaGreatDoor.Spec Go.Proofs.YtljeajecajlaiaaGreatDoor.Pu Go.Proofs.YtljeajecajlaiaaGreatDoor.RPlain Go.Proofs.YtljeajecajlaiaaGreatDoor.Read Go.Proofs.YtljeajecajlaiaaGreatDoor.AddrLaw Go.Proofs.YtljeajecajlaiaaGreatDoor.FFnExactPrefixRead
set_option linter.unusedVariables false
set_option linter.unusedSimpArgs false
theorem at_byte (s : ByteArray) {x : Int} (h0 : 0 ≤ x) (h1 : x < s.size) : ∃ u : UInt8, s.data.toList.drop x.toNat = u :: s.data.toList.drop (x + 1).toNat ∧ bt s x = u.toNat ∧ s.extract x.toNat (x + 1).toNat = ofL [u] := by
  have hx : x.toNat < s.size := by omega
  have hl : x.toNat < s.data.toList.length := by rw [← Lib.size_eq]; exact hx
  have e1 : (x + 1).toNat = x.toNat + 1 := by omega
  refine ⟨s.data.toList[x.toNat], ?_, ?_, ?_⟩
  · rw [e1, List.drop_eq_getElem_cons hl]
  · unfold bt
    rw [dif_pos hx]
    rfl
  · apply ByteArray.ext
    apply Array.toList_inj.mp
    rw [e1, Lib.extract_data]
    unfold ofL
    rw [show x.toNat + 1 - x.toNat = 1 by omega, List.drop_eq_getElem_cons hl]
    rfl
theorem app_nil (p : ByteArray) : p ++ ofL [] = p := ByteArray.ext (by simp [ByteArray.data_append, ofL])
theorem app_cons (p : ByteArray) (u : UInt8) (q : List UInt8) : p ++ ofL (u :: q) = (p ++ ofL [u]) ++ ofL q := ByteArray.ext (by simp [ByteArray.data_append, ofL])
theorem rdOf_last (ds : List ByteArray) (p : ByteArray) : rdOf ByteArray.empty (ds ++ [p]) ((ds.length : Nat) : Int) = p := by
  unfold rdOf
  rw [Int.toNat_natCast, List.getD_eq_getElem?_getD, List.getElem?_append_right (Nat.le_refl _), Nat.sub_self]
  rfl
theorem set_last (ds : List ByteArray) (p q : ByteArray) : (ds ++ [p]).set ds.length q = ds ++ [q] := by
  rw [List.set_append_right _ _ (Nat.le_refl _), Nat.sub_self]
  rfl
theorem grp_loop (s : ByteArray) (c : UInt8) (hs : s.size ≤ 1000) : ∀ (d k : Nat) (x : Int) (ds : List ByteArray) (p : ByteArray) (q : List UInt8) (qs : List (List UInt8)), 0 ≤ x → x + d = s.size → ds.length ≤ x → p.size ≤ x → d < k → grp c (s.data.toList.drop x.toNat) = q :: qs →
    spec_l03Group.l0 k s c.toNat (ds ++ [p]) x = some (ds ++ (p ++ ofL q) :: qs.map ofL) := by
  intro d
  induction d with
  | zero =>
    intro k x ds p q qs h0 hx hd hp hk hg
    obtain ⟨k, rfl⟩ := pos_k hk
    rw [List.drop_of_length_le (by rw [← Lib.size_eq]; omega)] at hg
    injection hg with h1 h2
    subst h1
    subst h2
    simp only [spec_l03Group.l0]
    rw [if_neg (by omega), app_nil]
    rfl
  | succ d ih =>
    intro k x ds p q qs h0 hx hd hp hk hg
    obtain ⟨k, rfl⟩ : ∃ m, k = m + 1 := ⟨k - 1, by omega⟩
    obtain ⟨u, e1, e2, e3⟩ := at_byte s h0 (by omega)
    obtain ⟨p', ps', e4⟩ := grp_ex c (s.data.toList.drop (x + 1).toNat)
    rw [e1] at hg
    simp only [spec_l03Group.l0]
    rw [if_pos (by omega), if_pos h0, e2, w64 (n := x + 1) (by omega) (by omega)]
    by_cases hu : u = c
    · subst hu
      rw [grp_hit, e4] at hg
      injection hg with h1 h2
      subst h1
      subst h2
      rw [if_pos rfl, if_pos (by simp only [List.length_append, List.length_cons, List.length_nil]; omega)]
      rw [ih k (x + 1) (ds ++ [p]) ⟨#[]⟩ p' ps' (by omega) (by omega) (by simp only [List.length_append, List.length_cons, List.length_nil]; omega) (by show (0 : Nat) ≤ x + 1; omega) (by omega) e4, app_nil, nil_app]
      simp
    · rw [grp_cons hu e4] at hg
      injection hg with h1 h2
      subst h1
      subst h2
      have hl : (ds ++ [p]).length = ds.length + 1 := by simp
      rw [if_neg (fun e => hu (UInt8.toNat_inj.1 (by omega)))]
      rw [show wrap64 (((ds ++ [p]).length : Int) - 1) = ((ds.length : Nat) : Int) by rw [hl, w64 (by omega) (by omega)]; omega]
      rw [if_pos (by omega), if_pos (by omega), if_pos (by omega), if_pos (by omega), rdOf_last, e3, if_pos (by show p.size + 1 ≤ _; omega), Int.toNat_natCast, set_last]
      rw [ih k (x + 1) ds (p ++ ofL [u]) p' ps' (by omega) (by omega) (by omega) (by rw [ByteArray.size_append]; show ((p.size + 1 : Nat) : Int) ≤ _; omega) (by omega) e4, app_cons p u p']
theorem group (s : ByteArray) (c : UInt8) (hs : s.size ≤ 1000) {k : Nat} (hk : 1001 ≤ k) : spec_l03Group.f k s c.toNat = some ((grp c s.data.toList).map ofL) := by
  obtain ⟨q, qs, e⟩ := grp_ex c s.data.toList
  have := grp_loop s c hs s.size k 0 [] ⟨#[]⟩ q qs (by omega) (by omega) (by simp) (show (0 : Int) ≤ 0 by omega) (by omega) (by rw [Int.toNat_zero, List.drop_zero]; exact e)
  rw [nil_app] at this
  rw [e]
  exact this
theorem l1_loop (s : ByteArray) (b n i : Int) (hb : b ≤ 16) (h0 : 0 ≤ i) (h1 : i < s.size) : ∀ (d k : Nat) (x : Int), x + d = b → 0 ≤ x →
    spec_l03Value.l1 (k + d + 1) s b n i (if dgv b (bt s i) < x then dgv b (bt s i) else -1) x = if dgv b (bt s i) < 0 then some (-1) else spec_l03Value.l0 k s b (wrap64 (wrap64 (b * n) + dgv b (bt s i))) (wrap64 (i + 1)) := by
  intro d
  induction d with
  | zero =>
    intro k x hx hx0
    have hd := dgv_le (b := b) (c := bt s i) hb
    simp only [spec_l03Value.l1, Nat.add_zero]
    rw [if_neg (by omega)]
    by_cases c : dgv b (bt s i) < x
    · rw [if_pos c]
    · exfalso
      apply c
      unfold dgv
      split
      · omega
      · split <;> omega
  | succ d ih =>
    intro k x hx hx0
    have hd := dgv_le (b := b) (c := bt s i) hb
    have ih2 := ih k (x + 1) (by omega) (by omega)
    rw [show k + (d + 1) + 1 = (k + d + 1) + 1 by omega]
    obtain ⟨m, hm⟩ : ∃ m, m = k + d + 1 := ⟨_, rfl⟩
    rw [← hm] at ih2 ⊢
    simp only [spec_l03Value.l1]
    rw [if_pos (by omega), if_pos h0, if_pos h1, digitIs hx0 (by omega), w64 (n := x + 1) (by omega) (by omega)]
    rw [Option.bind_some]
    have hh := dgv_hex (b := b) (c := bt s i) hb hx0 (by omega)
    by_cases c : bt s i = hexd x
    · rw [if_pos c]
      have e := hh.1 c
      rw [if_pos (by omega)] at ih2
      rw [← ih2, e]
    · rw [if_neg c]
      have e : dgv b (bt s i) ≠ x := fun h => c (hh.2 h)
      rw [← ih2]
      congr 1
      by_cases c2 : dgv b (bt s i) < x
      · rw [if_pos c2, if_pos (by omega)]
      · rw [if_neg c2, if_neg (by omega)]
theorem l0_loop (s : ByteArray) (b : Int) (hb0 : 0 ≤ b) (hb : b ≤ 16) (hs : s.size ≤ 4) : ∀ (d k j : Nat) (n i : Int), i + d = s.size → i = j → 0 ≤ n → n < 16 ^ j → 20 * d + 1 ≤ k →
    spec_l03Value.l0 k s b n i = some (val b (s.data.toList.drop i.toNat) n) := by
  intro d
  induction d with
  | zero =>
    intro k j n i hi hj h0 hn hk
    obtain ⟨k, rfl⟩ : ∃ m, k = m + 1 := ⟨k - 1, by omega⟩
    simp only [spec_l03Value.l0]
    rw [if_neg (by omega), List.drop_of_length_le (by rw [← Lib.size_eq]; omega)]
    rfl
  | succ d ih =>
    intro k j n i hi hj h0 hn hk
    obtain ⟨k, rfl⟩ : ∃ m, k = m + b.toNat + 1 + 1 := ⟨k - b.toNat - 2, by omega⟩
    obtain ⟨u, e1, e2, e3⟩ := at_byte s (x := i) (by omega) (by omega)
    have hd := dgv_le (b := b) (c := bt s i) hb
    have hl := l1_loop s b n i hb (by omega) (by omega) b.toNat k 0 (by omega) (by omega)
    have hX : (if dgv b (bt s i) < 0 then dgv b (bt s i) else -1) = -1 := by
      split <;> omega
    rw [hX] at hl
    simp only [spec_l03Value.l0]
    rw [if_pos (by omega), hl, e1]
    show _ = some (if dgv b u.toNat < 0 then -1 else val b _ (b * n + dgv b u.toNat))
    rw [← e2]
    by_cases c : dgv b (bt s i) < 0
    · rw [if_pos c, if_pos c]
    · rw [if_neg c, if_neg c]
      have hp : (16 : Int) ^ (j + 1) = 16 * 16 ^ j := by rw [Int.pow_succ, Int.mul_comm]
      have hj4 : j ≤ 3 := by omega
      have h16 : (16 : Int) ^ j ≤ 4096 := by
        have : ∀ j : Fin 4, (16 : Int) ^ j.val ≤ 4096 := by decide
        exact this ⟨j, by omega⟩
      have hm : 0 ≤ b * n ∧ b * n ≤ 16 * n := ⟨Int.mul_nonneg hb0 h0, Int.mul_le_mul_of_nonneg_right hb h0⟩
      rw [w64 (n := b * n) (by omega) (by omega), w64 (n := i + 1) (by omega) (by omega), w64 (by omega) (by omega)]
      exact ih k (j + 1) _ (i + 1) (by omega) (by omega) (by omega) (by omega) (by omega)
theorem value (s : ByteArray) (b : Int) (hb0 : 0 ≤ b) (hb : b ≤ 16) {k : Nat} (hk : 100 ≤ k) : spec_l03Value.f k s b = some (valS b s) := by
  unfold spec_l03Value.f valS
  by_cases c1 : (s.size : Int) < 1
  · rw [if_pos c1, if_pos c1]
  · rw [if_neg c1, if_neg c1]
    by_cases c2 : (s.size : Int) > 4
    · rw [if_pos c2, if_pos c2]
    · rw [if_neg c2, if_neg c2]
      have := l0_loop s b hb0 hb (by omega) s.size k 0 0 0 (by omega) (by omega) (by omega) (by omega) (by omega)
      rw [Int.toNat_zero, List.drop_zero] at this
      exact this
theorem val_le (b : Int) (hb0 : 0 ≤ b) (hb : b ≤ 16) : ∀ (l : List UInt8) (n : Int) (j : Nat), 0 ≤ n → n < 16 ^ j → -1 ≤ val b l n ∧ val b l n < 16 ^ (j + l.length)
  | [], n, j, h0, h1 => ⟨by show -1 ≤ n; omega, h1⟩
  | c :: r, n, j, h0, h1 => by
    have hd := dgv_le (b := b) (c := c.toNat) hb
    show -1 ≤ (if dgv b c.toNat < 0 then -1 else val b r (b * n + dgv b c.toNat)) ∧ (if dgv b c.toNat < 0 then -1 else val b r (b * n + dgv b c.toNat)) < _
    by_cases hc : dgv b c.toNat < 0
    · rw [if_pos hc]
      exact ⟨by omega, Int.lt_of_lt_of_le (by decide : (-1 : Int) < 0) (Int.le_of_lt (Int.pow_pos (by decide)))⟩
    · rw [if_neg hc]
      have hp : (16 : Int) ^ (j + 1) = 16 * 16 ^ j := by rw [Int.pow_succ, Int.mul_comm]
      have hm : 0 ≤ b * n ∧ b * n ≤ 16 * n := ⟨Int.mul_nonneg hb0 h0, Int.mul_le_mul_of_nonneg_right hb h0⟩
      have := val_le b hb0 hb r (b * n + dgv b c.toNat) (j + 1) (by omega) (by omega)
      rw [show j + 1 + r.length = j + (c :: r).length by simp only [List.length_cons]; omega] at this
      exact this
theorem valS_le (b : Int) (hb0 : 0 ≤ b) (hb : b ≤ 16) (s : ByteArray) : -1 ≤ valS b s ∧ valS b s ≤ 65535 := by
  unfold valS
  split
  · omega
  · split
    · omega
    · have := val_le b hb0 hb s.data.toList 0 0 (by omega) (by decide)
      rw [← Lib.size_eq, Nat.zero_add] at this
      have h4 : ∀ j : Fin 5, (16 : Int) ^ j.val ≤ 65536 := by decide
      have := h4 ⟨s.size, by omega⟩
      simp only at this
      omega
def Z : Int × Int × Int × Int × Int × Bool := (0, 0, 0, 0, 0, false)
def finR (s : ByteArray) (d : List Int) : Int × Int × Int × Int × Int × Bool :=
  if (addrOf d).2.2.2.2.2 = true then (if (textOf (addrBytes (addrOf d).1 (addrOf d).2.1 (addrOf d).2.2.1 (addrOf d).2.2.2.1 (addrOf d).2.2.2.2.1)).toList = s.toList then ((addrOf d).1, (addrOf d).2.1, (addrOf d).2.2.1, (addrOf d).2.2.2.1, (addrOf d).2.2.2.2.1, true) else Z) else Z
def go10 : List ByteArray → List Int → Option (List Int)
  | [], acc => some acc
  | p :: r, acc => if valS 10 p < 0 then none else if valS 10 p > 255 then none else go10 r (acc ++ [valS 10 p % 256])
def go16 : List ByteArray → List Int → Option (List Int)
  | [], acc => some acc
  | p :: r, acc => if valS 16 p < 0 then none else go16 r (acc ++ b2 (valS 16 p))
def end16 (s : ByteArray) (S : List ByteArray) (acc : List Int) : Int × Int × Int × Int × Int × Bool := match go16 S acc with | none => Z | some d => finR s d
def tail16 (s : ByteArray) (S : List ByteArray) (acc : List Int) : Int × Int × Int × Int × Int × Bool := if (S.length : Int) = 8 then end16 s S acc else finR s acc
def end10 (s : ByteArray) (F S : List ByteArray) (acc : List Int) : Int × Int × Int × Int × Int × Bool := match go10 F acc with | none => Z | some d => tail16 s S d
def specRead (s : ByteArray) : Int × Int × Int × Int × Int × Bool :=
  if (s.size : Int) > 39 then Z else if ((((grp 46 s.data.toList).map ofL).length : Nat) : Int) = 4 then end10 s ((grp 46 s.data.toList).map ofL) ((grp 58 s.data.toList).map ofL) [] else tail16 s ((grp 58 s.data.toList).map ofL) []
theorem specBe32_step (k : Nat) (xs : List Int) (hx : U8 xs) (a n i : Int) (h0 : 0 ≤ a) (hi : 0 ≤ i) (hi4 : i < 4) (h : a + 4 ≤ xs.length) (hn : xs.length ≤ 140737488355328) (hn0 : 0 ≤ n) (hn1 : n < 36028797018963968) :
    spec_Be32.l0 (k + 1) xs a n i = spec_Be32.l0 k xs a (n * 256 + rd xs (a + i)) (i + 1) := by
  have hb := hx.byte (a + i)
  simp only [spec_Be32.l0]
  rw [if_pos hi4, w64 (n := a + i) (by omega) (by omega), if_pos (by omega), if_pos (by omega), w64 (n := i + 1) (by omega) (by omega), w64 (n := rd xs (a + i)) (by omega) (by omega), w64 (n := 256 * n) (by omega) (by omega), w64 (by omega) (by omega), Int.mul_comm 256 n]
theorem specBe32 {xs : List Int} (hx : U8 xs) (hn : xs.length ≤ 140737488355328) (a : Int) (_ha : -9223372036854775808 ≤ a ∧ a ≤ 9223372036854775807) {k : Nat} (hk : 10 ≤ k) :
    spec_Be32.f k xs a = some (if 0 ≤ a ∧ a + 4 ≤ xs.length then (((rd xs a * 256 + rd xs (a + 1)) * 256 + rd xs (a + 2)) * 256 + rd xs (a + 3), true) else (0, false)) := by
  obtain ⟨k, rfl⟩ : ∃ m, k = m + 6 := ⟨k - 6, by omega⟩
  unfold spec_Be32.f
  rw [w64 (by omega) (by omega)]
  by_cases h : 0 ≤ a ∧ a + 4 ≤ xs.length
  · have h1 := hx.byte a
    have h2 := hx.byte (a + 1)
    have h3 := hx.byte (a + 2)
    have h4 := hx.byte (a + 3)
    rw [if_pos h, if_neg (by omega), if_neg (by omega)]
    rw [specBe32_step _ _ hx _ _ _ h.1 (by omega) (by omega) h.2 hn (by omega) (by omega), show a + 0 = a by omega, show (0 : Int) + 1 = 1 by rfl]
    rw [specBe32_step _ _ hx _ _ _ h.1 (by omega) (by omega) h.2 hn (by omega) (by omega), show (1 : Int) + 1 = 2 by rfl]
    rw [specBe32_step _ _ hx _ _ _ h.1 (by omega) (by omega) h.2 hn (by omega) (by omega), show (2 : Int) + 1 = 3 by rfl]
    rw [specBe32_step _ _ hx _ _ _ h.1 (by omega) (by omega) h.2 hn (by omega) (by omega), show (3 : Int) + 1 = 4 by rfl]
    simp only [spec_Be32.l0]
    rw [if_neg (by decide), show (0 : Int) * 256 + rd xs a = rd xs a by omega]
  · rw [if_neg h]
    by_cases h0 : a < 0
    · rw [if_pos h0]
    · rw [if_neg h0, if_pos (by omega)]
theorem specAddrOf {xs : List Int} (hx : U8 xs) (hn : xs.length ≤ 140737488355328) {k : Nat} (hk : 10 ≤ k) : spec_AddrOf.f k xs = some (addrOf xs) := by
  unfold spec_AddrOf.f addrOf be4
  by_cases h4 : (xs.length : Int) = 4
  · rw [if_pos h4, if_pos h4, specBe32 hx hn 0 (by omega) hk, if_pos (by omega)]
    rfl
  · rw [if_neg h4, if_neg h4]
    by_cases h16 : (xs.length : Int) = 16
    · rw [if_pos h16, if_pos h16, specBe32 hx hn 0 (by omega) hk, if_pos (by omega), specBe32 hx hn 4 (by omega) hk, if_pos (by omega), specBe32 hx hn 8 (by omega) hk, if_pos (by omega), specBe32 hx hn 12 (by omega) hk, if_pos (by omega)]
      rfl
    · rw [if_neg h16, if_neg h16]
theorem U8.two (n : Int) : U8 (b2 n) := fun x hx => by
  unfold b2 at hx
  simp only [List.mem_cons, List.not_mem_nil, or_false] at hx
  omega
theorem U8.app {a b : List Int} (ha : U8 a) (hb : U8 b) : U8 (a ++ b) := fun x hx => by
  rcases List.mem_append.1 hx with h | h
  · exact ha x h
  · exact hb x h
end Go.Proofs.YtljeajecajlaiaaGreatDoor.RLaw
