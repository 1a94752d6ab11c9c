/- The program's HexRead returns what the reference's returns, for all arguments. No condition. -/
import Derived.Test.YtgkfgichilclgaaDoorFFnExactHexReadx
import Derived.Test.YtgkfgichilclgaaDoorBase
namespace Go.Proofs.YtgkfgichilclgaaDoor.Pure
open Go.RowKit Go.Proofs.YtgkfgichilclgaaDoor.FFnExactHexRead Go.Proofs.YtgkfgichilclgaaDoorW.PrintWords Go.Proofs.YtgkfgichilclgaaDoorW.PrintLast Go.Proofs.YtgkfgichilclgaaDoorW.PrintMore Go.Proofs.YtgkfgichilclgaaDoor.Base

set_option linter.unusedVariables false
set_option linter.unusedSimpArgs false
namespace ExactHexRead
theorem eqByteS_l (xs : List Int) (hn : xs.length ≤ 140737488355328) (d : Nat) : ∀ (k : Nat) (i : Int), 0 ≤ i → i + d = xs.length → d < k → laws_eqByteS.l0 k xs xs i = some true := by
  induction d with
  | zero =>
    intro k i h0 hi hk
    obtain ⟨k, rfl⟩ := pos_k hk
    simp only [laws_eqByteS.l0]
    rw [if_neg (by omega)]
  | succ d ih =>
    intro k i h0 hi hk
    obtain ⟨k, rfl⟩ := pos_k hk
    simp only [laws_eqByteS.l0]
    rw [if_pos (by omega), if_pos (by omega), if_pos (by omega), if_pos (by first | rfl | trivial), w64 (by omega) (by omega)]
    exact ih k (i + 1) (by omega) (by omega) (by omega)
theorem eqByteS {xs : List Int} (hn : xs.length ≤ 140737488355328) {k : Nat} (hk : xs.length < k) : laws_eqByteS.f k xs xs = some true := by
  unfold laws_eqByteS.f
  rw [if_pos rfl]
  exact eqByteS_l xs hn xs.length k 0 (by omega) (by omega) hk

theorem markByteS_l (d : Nat) : ∀ (k : Nat) (ys : List Int) (m i : Int), 0 ≤ i → i + d = ys.length → d < k → 0 ≤ m → ys.length ≤ 140737488355328 → m + d ≤ 281474976710656 →
    ∃ zs, laws_markByteS.l0 k ys m i = some (m + d, zs) ∧ zs.length = ys.length ∧ (∀ j : Nat, (j : Int) < i → zs[j]? = ys[j]?) ∧ (∀ j : Nat, i ≤ j → j < ys.length → zs[j]? = some ((m + (j - i)) % 256)) := by
  induction d with
  | zero =>
    intro k ys m i h0 hi hk hm hl hb
    obtain ⟨k, rfl⟩ := pos_k hk
    refine ⟨ys, ?_, rfl, fun _ _ => rfl, fun j h1 h2 => by omega⟩
    simp only [laws_markByteS.l0]
    rw [if_neg (by omega), show m + ((0 : Nat) : Int) = m by omega]
  | succ d ih =>
    intro k ys m i h0 hi hk hm hl hb
    obtain ⟨k, rfl⟩ := pos_k hk
    obtain ⟨zs, h1, h2, h3, h4⟩ := ih k (ys.set i.toNat (m % 256)) (m + 1) (i + 1) (by omega) (by rw [List.length_set]; omega) (by omega) (by omega) (by rw [List.length_set]; omega) (by omega)
    rw [List.length_set] at h2 h4
    refine ⟨zs, ?_, h2, ?_, ?_⟩
    · simp only [laws_markByteS.l0]
      rw [if_pos (by omega), if_pos (by omega), w64 (by omega) (by omega), w64 (by omega) (by omega), h1]
      congr 2
      omega
    · intro j hj
      rw [h3 j (by omega), List.getElem?_set_ne (by omega)]
    · intro j hj hj'
      by_cases h : (j : Int) = i
      · rw [h3 j (by omega), show i.toNat = j by omega, List.getElem?_set_self (by omega), h, show m + (i - i) = m by omega]
      · rw [h4 j (by omega) hj', show m + 1 + ((j : Int) - (i + 1)) = m + (j - i) by omega]
/-- What marking leaves reads as marked. -/
def Marked (zs : List Int) (m : Int) : Prop := ∀ j : Nat, j < zs.length → zs[j]? = some ((m + j) % 256)
theorem markByteS (ys : List Int) (hl : ys.length ≤ 140737488355328) {m : Int} (h0 : 0 ≤ m) (h1 : m ≤ 140737488355328) {k : Nat} (hk : ys.length < k) :
    ∃ zs, laws_markByteS.f k ys m = some (m + ys.length, zs) ∧ zs.length = ys.length ∧ Marked zs m := by
  obtain ⟨zs, h1, h2, h3, h4⟩ := markByteS_l ys.length k ys m 0 (by omega) (by omega) hk h0 hl (by omega)
  refine ⟨zs, h1, h2, fun j hj => ?_⟩
  rw [h4 j (by omega) (by omega), show m + ((j : Int) - 0) = m + j by omega]

theorem heldByteS_l (d : Nat) (zs : List Int) (m0 : Int) (hz : Marked zs m0) : ∀ (k : Nat) (m i : Int), 0 ≤ i → i + d = zs.length → d < k → 0 ≤ m → m = m0 + i → zs.length ≤ 140737488355328 → m + d ≤ 281474976710656 →
    laws_heldByteS.l0 k zs m i = some (m + d) := by
  induction d with
  | zero =>
    intro k m i h0 hi hk hm he hl hb
    obtain ⟨k, rfl⟩ := pos_k hk
    simp only [laws_heldByteS.l0]
    rw [if_neg (by omega), show m + ((0 : Nat) : Int) = m by omega]
  | succ d ih =>
    intro k m i h0 hi hk hm he hl hb
    obtain ⟨k, rfl⟩ := pos_k hk
    have hr : rd zs i = m % 256 := by
      have h1 := rd_get? h0 (show i < zs.length by omega)
      rw [hz i.toNat (by omega)] at h1
      rw [← Option.some.inj h1, he, show ((i.toNat : Nat) : Int) = i by omega]
    simp only [laws_heldByteS.l0]
    rw [if_pos (by omega), if_pos (by omega), if_pos hr, w64 (by omega) (by omega), w64 (by omega) (by omega), ih k (m + 1) (i + 1) (by omega) (by omega) (by omega) (by omega) (by omega) (by omega) (by omega)]
    congr 1
    omega
theorem heldByteS {zs : List Int} {m : Int} (hz : Marked zs m) (hl : zs.length ≤ 140737488355328) (h0 : 0 ≤ m) (h1 : m ≤ 140737488355328) {k : Nat} (hk : zs.length < k) : laws_heldByteS.f k zs m = some (m + zs.length) :=
  heldByteS_l zs.length zs m hz k m 0 (by omega) (by omega) hk h0 (by omega) hl (by omega)

/-! The value of a hex digit (lower case), -1 for any other byte. -/
def val (c : Int) : Int := if 48 ≤ c ∧ c ≤ 57 then c - 48 else if 97 ≤ c ∧ c ≤ 102 then c - 87 else -1
theorem val_range (c : Int) : -1 ≤ val c ∧ val c ≤ 15 := by
  unfold val
  split
  · omega
  · split <;> omega
theorem digit_val (v c : Int) (h0 : 0 ≤ v) (h1 : v ≤ 15) (hc : 0 ≤ c ∧ c ≤ 255) : ∃ t, spec_l01Digit.f v = some t ∧ (c = t ↔ val c = v) := by
  unfold spec_l01Digit.f
  by_cases h : v < 10
  · rw [if_pos h, w64 (n := 48 + v) (by omega) (by omega)]
    refine ⟨_, rfl, ?_⟩
    unfold val
    split
    · omega
    · split <;> omega
  · rw [if_neg h, w64 (n := 87 + v) (by omega) (by omega)]
    refine ⟨_, rfl, ?_⟩
    unfold val
    split
    · omega
    · split <;> omega
def hp (a b : Int) : Int := if val a < 0 ∨ val b < 0 then -1 else 16 * val a + val b
theorem hp_range (a b : Int) : -1 ≤ hp a b ∧ hp a b ≤ 255 := by
  have := val_range a
  have := val_range b
  unfold hp
  split <;> omega
theorem spec_l1 (x0 : ByteArray) (hs : x0.size ≤ 8000) (acc : List Int) (i : Int) (h0 : 0 ≤ i) (h1 : i + 1 < (x0.size : Int)) (d : Nat) : ∀ (m : Nat) (x6 x7 : Int), 0 ≤ x7 → x7 + d = 256 →
    spec_HexRead.l1 (d + (m + 1)) x0 acc i x6 x7 = (if (if x7 ≤ hp (bt x0 i) (bt x0 (i + 1)) then hp (bt x0 i) (bt x0 (i + 1)) else x6) < 0 then some ([], false) else (if acc.length < 140737488355328 then spec_HexRead.l0 m x0 (acc ++ [(if x7 ≤ hp (bt x0 i) (bt x0 (i + 1)) then hp (bt x0 i) (bt x0 (i + 1)) else x6) % 256]) (i + 2) else none)) := by
  have r1 := bt_range x0 i
  have r2 := bt_range x0 (i + 1)
  have hr := hp_range (bt x0 i) (bt x0 (i + 1))
  induction d with
  | zero =>
    intro m x6 x7 h7 hd
    rw [show 0 + (m + 1) = m + 1 by omega]
    simp only [spec_HexRead.l1]
    rw [if_neg (by omega), w64 (n := i + 2) (by omega) (by omega), if_neg (show ¬ x7 ≤ hp (bt x0 i) (bt x0 (i + 1)) by omega)]
  | succ d ih =>
    intro m x6 x7 h7 hd
    rw [show d + 1 + (m + 1) = (d + (m + 1)) + 1 by omega]
    have ih' := fun x6 x7 => ih m x6 x7
    clear ih
    generalize d + (m + 1) = k at ih' ⊢
    simp only [spec_HexRead.l1]
    have hq : wrap64 (Int.tdiv x7 16) = x7 / 16 := by rw [Int.tdiv_eq_ediv_of_nonneg h7, w64 (by omega) (by omega)]
    have hm : Int.tmod x7 16 = x7 % 16 := Int.tmod_eq_emod_of_nonneg h7
    obtain ⟨t1, e1, k1⟩ := digit_val (x7 / 16) (bt x0 i) (by omega) (by omega) r1
    obtain ⟨t2, e2, k2⟩ := digit_val (x7 % 16) (bt x0 (i + 1)) (by omega) (by omega) r2
    rw [if_pos (by omega), if_pos h0, if_pos (by omega), hq, hm, e1, Option.bind_some, w64 (n := i + 1) (by omega) (by omega), w64 (n := x7 + 1) (by omega) (by omega), if_pos (show 0 ≤ i + 1 by omega), if_pos h1, e2]
    simp only [Option.bind_some]
    have v1 := val_range (bt x0 i)
    have v2 := val_range (bt x0 (i + 1))
    have hit : (bt x0 i = t1 ∧ bt x0 (i + 1) = t2) ↔ hp (bt x0 i) (bt x0 (i + 1)) = x7 := by
      rw [k1, k2]
      unfold hp
      split
      · omega
      · omega
    by_cases c1 : bt x0 i = t1
    · rw [if_pos c1]
      by_cases c2 : bt x0 (i + 1) = t2
      · have he := hit.1 ⟨c1, c2⟩
        rw [if_pos c2, ih' x7 (x7 + 1) (by omega) (by omega), if_neg (show ¬ x7 + 1 ≤ hp (bt x0 i) (bt x0 (i + 1)) by omega), if_pos (show x7 ≤ hp (bt x0 i) (bt x0 (i + 1)) by omega), he]
      · have he : hp (bt x0 i) (bt x0 (i + 1)) ≠ x7 := fun hh => c2 (hit.2 hh).2
        rw [if_neg c2, ih' x6 (x7 + 1) (by omega) (by omega)]
        have e : (x7 + 1 ≤ hp (bt x0 i) (bt x0 (i + 1))) ↔ (x7 ≤ hp (bt x0 i) (bt x0 (i + 1))) := by omega
        simp only [e]
    · have he : hp (bt x0 i) (bt x0 (i + 1)) ≠ x7 := fun hh => c1 (hit.2 hh).1
      rw [if_neg c1, ih' x6 (x7 + 1) (by omega) (by omega)]
      have e : (x7 + 1 ≤ hp (bt x0 i) (bt x0 (i + 1))) ↔ (x7 ≤ hp (bt x0 i) (bt x0 (i + 1))) := by omega
      simp only [e]
def hexAt (x0 : ByteArray) : Nat → Int → Option (List Int)
  | 0, _ => some []
  | p + 1, i => if hp (bt x0 i) (bt x0 (i + 1)) < 0 then none else (hexAt x0 p (i + 2)).map (hp (bt x0 i) (bt x0 (i + 1)) :: ·)
def fin (acc : List Int) : Option (List Int) → Option (List Int × Bool)
  | some xs => some (acc ++ xs, true)
  | none => some ([], false)
theorem hexAt_len (x0 : ByteArray) (p : Nat) : ∀ (i : Int) (xs : List Int), hexAt x0 p i = some xs → xs.length = p := by
  induction p with
  | zero =>
    intro i xs h
    simp only [hexAt, Option.some.injEq] at h
    subst h
    rfl
  | succ p ih =>
    intro i xs h
    simp only [hexAt] at h
    split at h
    · cases h
    · obtain ⟨ys, hy, rfl⟩ := Option.map_eq_some_iff.1 h
      rw [List.length_cons, ih _ _ hy]
theorem spec_l0 (x0 : ByteArray) (hs : x0.size ≤ 8000) (p : Nat) : ∀ (m : Nat) (acc : List Int) (i : Int), 0 ≤ i → i + 2 * p = (x0.size : Int) → acc.length + p ≤ 8000 →
    spec_HexRead.l0 (258 * p + 1 + m) x0 acc i = fin acc (hexAt x0 p i) := by
  induction p with
  | zero =>
    intro m acc i h0 hi ha
    rw [show 258 * 0 + 1 + m = m + 1 by omega]
    simp only [spec_HexRead.l0]
    rw [w64 (n := i + 1) (by omega) (by omega), if_neg (by omega)]
    simp only [hexAt, fin, List.append_nil]
  | succ p ih =>
    intro m acc i h0 hi ha
    rw [show 258 * (p + 1) + 1 + m = (256 + (258 * p + 1 + m + 1)) + 1 by omega]
    simp only [spec_HexRead.l0]
    have hr := hp_range (bt x0 i) (bt x0 (i + 1))
    rw [w64 (n := i + 1) (by omega) (by omega), if_pos (by omega), spec_l1 x0 hs acc i h0 (by omega) 256 _ (-1) 0 (by omega) (by omega)]
    simp only [hexAt]
    by_cases h : hp (bt x0 i) (bt x0 (i + 1)) < 0
    · rw [if_neg (show ¬ 0 ≤ hp (bt x0 i) (bt x0 (i + 1)) by omega), if_pos (show (-1 : Int) < 0 by decide), if_pos h]
      rfl
    · rw [if_pos (show 0 ≤ hp (bt x0 i) (bt x0 (i + 1)) by omega), if_neg h, if_neg h, if_pos (by omega), ih m _ (i + 2) (by omega) (by omega) (by simp; omega), Int.emod_eq_of_lt (by omega) (by omega)]
      cases hexAt x0 p (i + 2) with
      | none => rfl
      | some xs => simp [fin]
def hexRead (x0 : ByteArray) : List Int × Bool := if (x0.size : Int) % 2 = 0 ∧ (x0.size : Int) ≤ 8000 then ((hexAt x0 (x0.size / 2) 0).map fun xs => (xs, true)).getD ([], false) else ([], false)
theorem fin_nil (o : Option (List Int)) : fin [] o = some ((o.map fun xs => (xs, true)).getD ([], false)) := by cases o <;> rfl
theorem specHexRead (x0 : ByteArray) {k : Nat} (hk : 2000000 ≤ k) : spec_HexRead.f k x0 = some (hexRead x0) := by
  unfold spec_HexRead.f hexRead
  by_cases h1 : (x0.size : Int) % 2 = 0
  · rw [if_pos h1]
    by_cases h2 : (x0.size : Int) > 8000
    · rw [if_pos h2, if_neg (by omega)]
    · rw [if_neg h2, if_pos ⟨h1, by omega⟩, show k = 258 * (x0.size / 2) + 1 + (k - (258 * (x0.size / 2) + 1)) by omega, spec_l0 x0 (by omega) (x0.size / 2) _ [] 0 (by omega) (by omega) (by simp; omega), fin_nil]
  · rw [if_neg h1, if_neg (fun hh => h1 hh.1)]
theorem indexVal : ∀ b : Fin 256, Lib.indexByte ([48, 49, 50, 51, 52, 53, 54, 55, 56, 57, 97, 98, 99, 100, 101, 102] : List UInt8) ((b.val : Int).toNat.toUInt8) = val b.val := by decide +kernel
theorem implIndex (c : Int) (h0 : 0 ≤ c) (h1 : c ≤ 255) : strings_IndexByte.f (⟨#[48, 49, 50, 51, 52, 53, 54, 55, 56, 57, 97, 98, 99, 100, 101, 102]⟩ : ByteArray) c = some (val c) := by
  have := indexVal ⟨c.toNat, by omega⟩
  simp only [show ((c.toNat : Nat) : Int) = c by omega] at this
  unfold strings_IndexByte.f
  rw [← this]
theorem impl_l0 (x0 : ByteArray) (hs : x0.size ≤ 8000) (hv : ∀ j : Int, 0 ≤ j → j < (x0.size : Int) → 0 ≤ val (bt x0 j)) (p : Nat) : ∀ (k : Nat) (acc : List Int) (i : Int), 0 ≤ i → i + 2 * p = (x0.size : Int) → acc.length + p ≤ 8000 → p < k →
    impl_HexRead.l0 k x0 acc i = fin acc (hexAt x0 p i) := by
  induction p with
  | zero =>
    intro k acc i h0 hi ha hk
    obtain ⟨k, rfl⟩ := pos_k hk
    simp only [impl_HexRead.l0]
    rw [if_neg (by omega)]
    simp only [hexAt, fin, List.append_nil]
  | succ p ih =>
    intro k acc i h0 hi ha hk
    obtain ⟨k, rfl⟩ := pos_k hk
    have r1 := bt_range x0 i
    have r2 := bt_range x0 (i + 1)
    have v1 := hv i h0 (by omega)
    have v2 := hv (i + 1) (by omega) (by omega)
    have u1 := val_range (bt x0 i)
    have u2 := val_range (bt x0 (i + 1))
    have e : hp (bt x0 i) (bt x0 (i + 1)) = 16 * val (bt x0 i) + val (bt x0 (i + 1)) := by
      unfold hp
      rw [if_neg (by omega)]
    simp only [impl_HexRead.l0]
    rw [if_pos (by omega), if_pos h0, w64 (n := i + 1) (by omega) (by omega), implIndex _ r1.1 r1.2, Option.bind_some, if_pos (show 0 ≤ i + 1 by omega), if_pos (show i + 1 < (x0.size : Int) by omega), implIndex _ r2.1 r2.2, Option.bind_some, if_pos (by omega), w64 (n := i + 2) (by omega) (by omega), w64 (n := val (bt x0 i) * 16) (by omega) (by omega), w64 (by omega) (by omega),
      ih k _ (i + 2) (by omega) (by omega) (by simp; omega) (by omega), Int.emod_eq_of_lt (by omega) (by omega)]
    simp only [hexAt]
    rw [if_neg (by omega), e, Int.mul_comm (val (bt x0 i)) 16]
    cases hexAt x0 p (i + 2) with
    | none => rfl
    | some xs => simp [fin]
theorem hexAt_none (x0 : ByteArray) (p : Nat) : ∀ (i j : Int), 0 ≤ i → i ≤ j → j < i + 2 * p → val (bt x0 j) < 0 → hexAt x0 p i = none := by
  induction p with
  | zero => intro i j h0 h1 h2 hv; omega
  | succ p ih =>
    intro i j h0 h1 h2 hv
    simp only [hexAt]
    by_cases h : j < i + 2
    · have : hp (bt x0 i) (bt x0 (i + 1)) < 0 := by
        unfold hp
        by_cases e : j = i
        · subst e
          rw [if_pos (.inl hv)]
          decide
        · have e2 : j = i + 1 := by omega
          subst e2
          rw [if_pos (.inr hv)]
          decide
      rw [if_pos this]
    · rw [ih (i + 2) j (by omega) (by omega) (by omega) hv]
      split <;> rfl
theorem dropWhile_nil {α : Type} (P : α → Bool) (l : List α) (h : ∀ x ∈ l.dropWhile P, P x = true) : l.dropWhile P = [] := by
  induction l with
  | nil => rfl
  | cons a r ih =>
    rw [List.dropWhile_cons] at h ⊢
    by_cases ha : P a = true
    · rw [if_pos ha] at h ⊢
      exact ih h
    · rw [if_neg ha] at h
      exact absurd (h a (by simp)) ha
theorem dropWhile_iff {α : Type} (P : α → Bool) (l : List α) : l.dropWhile P = [] ↔ ∀ x ∈ l, P x = true := by
  induction l with
  | nil => simp
  | cons a r ih =>
    rw [List.dropWhile_cons]
    by_cases ha : P a = true
    · rw [if_pos ha, ih]
      constructor
      · intro h x hx
        rcases List.mem_cons.1 hx with rfl | hx
        · exact ha
        · exact h x hx
      · exact fun h x hx => h x (List.mem_cons_of_mem _ hx)
    · rw [if_neg ha]
      constructor
      · intro h
        cases h
      · exact fun h => absurd (h a (by simp)) ha
theorem trim_nil (l cs : List UInt8) : Lib.trimS l cs = [] ↔ ∀ b ∈ l, cs.contains b = true := by
  unfold Lib.trimS Lib.trimLeftS Lib.trimRightS
  rw [dropWhile_iff]
  constructor
  · intro h b hb
    have h1 : l.reverse.dropWhile (cs.contains ·) = [] := dropWhile_nil _ _ (fun x hx => h x (by simpa using hx))
    rw [dropWhile_iff] at h1
    exact h1 b (by simpa using hb)
  · intro h x hx
    have h1 : l.reverse.dropWhile (cs.contains ·) = [] := by
      rw [dropWhile_iff]
      intro y hy
      exact h y (by simpa using hy)
    rw [h1] at hx
    simp at hx
theorem setVal : ∀ b : Fin 256, (([48, 49, 50, 51, 52, 53, 54, 55, 56, 57, 97, 98, 99, 100, 101, 102] : List UInt8).contains (UInt8.ofNat b.val) = true) ↔ 0 ≤ val b.val := by decide +kernel
theorem set_val (b : UInt8) : (([48, 49, 50, 51, 52, 53, 54, 55, 56, 57, 97, 98, 99, 100, 101, 102] : List UInt8).contains b = true) ↔ 0 ≤ val (b.toNat : Int) := by
  have := setVal ⟨b.toNat, b.toNat_lt⟩
  simpa using this
theorem all_vals (x0 : ByteArray) : (∀ b ∈ x0.data.toList, ([48, 49, 50, 51, 52, 53, 54, 55, 56, 57, 97, 98, 99, 100, 101, 102] : List UInt8).contains b = true) ↔ ∀ j : Int, 0 ≤ j → j < (x0.size : Int) → 0 ≤ val (bt x0 j) := by
  constructor
  · intro h j h0 h1
    have hj : j.toNat < x0.size := by omega
    have e : bt x0 j = ((x0[j.toNat]'hj).toNat : Int) := (bt_at x0 j hj).symm
    rw [e, ← set_val]
    exact h _ (Array.mem_toList_iff.2 (Array.getElem_mem (xs := x0.data) hj))
  · intro h b hb
    obtain ⟨n, hn, rfl⟩ := List.getElem_of_mem hb
    have hn' : n < x0.size := by simpa using hn
    rw [set_val]
    have h1 := h (n : Int) (by omega) (by omega)
    have e := (bt_at x0 (n : Int) (by simpa using hn')).symm
    rw [e] at h1
    exact h1
theorem implHexRead (x0 : ByteArray) {k : Nat} (hk : 2000000 ≤ k) : impl_HexRead.f k x0 = some (hexRead x0) := by
  unfold impl_HexRead.f hexRead
  by_cases h1 : (x0.size : Int) % 2 = 0
  · rw [if_pos h1]
    by_cases h2 : (x0.size : Int) > 8000
    · rw [if_pos h2, if_neg (by omega)]
    · rw [if_neg h2, if_pos (show (x0.size : Int) % 2 = 0 ∧ (x0.size : Int) ≤ 8000 from ⟨h1, by omega⟩)]
      unfold strings_Trim.f
      rw [if_pos (show x0.size ≤ 9223372036854775807 ∧ _ from ⟨by omega, by decide, by decide⟩), Option.bind_some, Lib.toList_data]
      simp only
      by_cases hv : ∀ j : Int, 0 ≤ j → j < (x0.size : Int) → 0 ≤ val (bt x0 j)
      · rw [if_pos ((trim_nil _ _).2 ((all_vals x0).2 hv)), impl_l0 x0 (by omega) hv (x0.size / 2) k [] 0 (by omega) (by omega) (by simp; omega) (by omega), fin_nil]
      · rw [if_neg (fun hh => hv ((all_vals x0).1 ((trim_nil _ _).1 hh)))]
        have : ∃ j : Int, 0 ≤ j ∧ j < (x0.size : Int) ∧ val (bt x0 j) < 0 := by
          refine Classical.byContradiction fun hn => hv fun j a b => ?_
          refine Classical.byContradiction fun hh => hn ⟨j, a, b, by omega⟩
        obtain ⟨j, a, b, c⟩ := this
        rw [hexAt_none x0 (x0.size / 2) 0 j (by omega) (by omega) (by omega) c]
        rfl
  · rw [if_neg h1, if_neg (fun hh => h1 hh.1)]
theorem hexRead_len (x0 : ByteArray) : (hexRead x0).1.length ≤ 8000 := by
  unfold hexRead
  split
  · cases h : hexAt x0 (x0.size / 2) 0 with
    | none => simp
    | some xs =>
      have := hexAt_len x0 _ _ _ h
      simp
      omega
  · simp

theorem readAll (s : ByteArray) : ∃ k, laws_FnExactHexRead.f k s = some true := by
  refine ⟨2000000, ?_⟩
  unfold laws_FnExactHexRead.f
  by_cases hs : (s.size : Int) > 1048576
  · rw [if_pos hs]
  · rw [if_neg hs, specHexRead s (Nat.le_refl _), implHexRead s (Nat.le_refl _)]
    have hl := hexRead_len s
    generalize hexRead s = v at hl
    obtain ⟨r, b⟩ := v
    obtain ⟨zs, hm, hlz, hz⟩ := markByteS r (by simp only at hl; omega) (m := 1) (by omega) (by omega) (k := 2000000) (by simp only at hl; omega)
    have hh := heldByteS hz (by simp only at hl; omega) (by omega) (by omega) (k := 2000000) (by simp only at hl; omega)
    have he := eqByteS (xs := r) (by simp only at hl; omega) (k := 2000000) (by simp only at hl; omega)
    rw [hlz] at hh
    have hp : ¬ ((1 : Int) + r.length < 0) := by omega
    simp only [Option.bind_some, he, if_true, bne_self_eq_false, Bool.false_eq_true, if_false, hm, hh, if_neg hp]
end ExactHexRead
open ExactHexRead

theorem FnExactHexRead : laws_FnExactHexRead.Pure := fun s _ => readAll s

end Go.Proofs.YtgkfgichilclgaaDoor.Pure
