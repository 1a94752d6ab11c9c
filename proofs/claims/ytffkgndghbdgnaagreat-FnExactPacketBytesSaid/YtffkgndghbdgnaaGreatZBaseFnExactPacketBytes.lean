/- Plain lemmas on wrapped numbers and lists of bytes, used by the pure statements of this seat. No program is in sight here. -/
import Derived.OpenShut
import Derived.Laws.BitsLemmas
import Derived.Laws.BytesArg
import Derived.Test.YtffkgndghbdgnaaGreatVFnExactPacketBytes
namespace Go.Proofs.YtffkgndghbdgnaaGreat.Base
open Go.RowKit Go.Proofs.YtffkgndghbdgnaaGreatW.PrintWords Go.Proofs.YtffkgndghbdgnaaGreatW.PrintLast Go.Proofs.YtffkgndghbdgnaaGreatW.PrintMore

theorem w64 {n : Int} (h1 : -9223372036854775808 ≤ n) (h2 : n ≤ 9223372036854775807) : wrap64 n = n := by unfold wrap64; omega
theorem pos_k {k n : Nat} (h : n < k) : ∃ m, k = m + 1 := ⟨k - 1, by omega⟩
theorem tdiv_pos {a b : Int} (h : 0 ≤ a) : Int.tdiv a b = a / b := Int.tdiv_eq_ediv_of_nonneg h
theorem tmod_pos {a b : Int} (h : 0 ≤ a) : Int.tmod a b = a % b := Int.tmod_eq_emod_of_nonneg h

/-! reads -/
theorem rd_getD (xs : List Int) (i : Nat) : rd xs (i : Int) = xs.getD i 0 := by simp [rd]
theorem rd_get? {xs : List Int} {i : Int} (h0 : 0 ≤ i) (h : i < xs.length) : xs[i.toNat]? = some (rd xs i) := by
  unfold rd
  rw [List.getD_eq_getElem?_getD, List.getElem?_eq_getElem (by omega)]
  rfl
theorem rd_mem {xs : List Int} {i : Int} (h0 : 0 ≤ i) (h : i < xs.length) : rd xs i ∈ xs := List.mem_of_getElem? (rd_get? h0 h)
/-- Every element is a byte. -/
def U8 (xs : List Int) : Prop := ∀ x ∈ xs, 0 ≤ x ∧ x ≤ 255
theorem U8.of_wf {xs : List Int} (h : ∀ x ∈ xs, (Lit.int .u8 x).wf = true) : U8 xs := fun x hx => bounds_u8 (h x hx)
theorem U8.byte {xs : List Int} (h : U8 xs) (i : Int) : 0 ≤ rd xs i ∧ rd xs i ≤ 255 := by
  unfold rd
  by_cases hi : i.toNat < xs.length
  · rw [List.getD_eq_getElem?_getD, List.getElem?_eq_getElem hi]
    exact h _ (List.getElem_mem hi)
  · rw [List.getD_eq_getElem?_getD, List.getElem?_eq_none (by omega)]
    exact ⟨by decide, by decide⟩
theorem U8.nil : U8 [] := fun x hx => by simp at hx
theorem U8.cons {a : Int} {xs : List Int} (h0 : 0 ≤ a) (h1 : a ≤ 255) (h : U8 xs) : U8 (a :: xs) := fun x hx => by
  rcases List.mem_cons.1 hx with rfl | hx
  · exact ⟨h0, h1⟩
  · exact h x hx
theorem U8.append {xs ys : List Int} (h : U8 xs) (h' : U8 ys) : U8 (xs ++ ys) := fun x hx => by
  rcases List.mem_append.1 hx with hx | hx
  · exact h x hx
  · exact h' x hx
theorem U8.take {xs : List Int} (h : U8 xs) (n : Nat) : U8 (xs.take n) := fun x hx => h x (List.mem_of_mem_take hx)
theorem U8.drop {xs : List Int} (h : U8 xs) (n : Nat) : U8 (xs.drop n) := fun x hx => h x (List.mem_of_mem_drop hx)

theorem drop_rd {xs : List Int} {i : Int} (h0 : 0 ≤ i) (h : i < xs.length) : xs.drop i.toNat = rd xs i :: xs.drop (i + 1).toNat := by
  have hi : i.toNat < xs.length := by omega
  have e : (i + 1).toNat = i.toNat + 1 := by omega
  rw [List.drop_eq_getElem_cons hi, e]
  congr 1
  have := rd_get? h0 h
  rw [List.getElem?_eq_getElem hi] at this
  exact Option.some.inj this
theorem slice_rd {xs : List Int} {i j : Int} (h0 : 0 ≤ i) (h : i < j) (hj : j ≤ xs.length) : (xs.take j.toNat).drop i.toNat = rd xs i :: (xs.take j.toNat).drop (i + 1).toNat := by
  have hi : i.toNat < (xs.take j.toNat).length := by rw [List.length_take]; omega
  have e : (i + 1).toNat = i.toNat + 1 := by omega
  rw [List.drop_eq_getElem_cons hi, e]
  congr 1
  rw [List.getElem_take]
  have := rd_get? h0 (by omega : i < xs.length)
  rw [List.getElem?_eq_getElem (by omega)] at this
  exact Option.some.inj this
theorem slice_end {xs : List Int} {i j : Int} (h : j ≤ i) : (xs.take j.toNat).drop i.toNat = [] := by
  apply List.drop_eq_nil_of_le
  rw [List.length_take]
  omega
theorem slice2 {xs : List Int} {i : Int} (h0 : 0 ≤ i) (h : i + 2 ≤ xs.length) : (xs.take (i + 2).toNat).drop i.toNat = [rd xs i, rd xs (i + 1)] := by
  rw [slice_rd h0 (by omega) h, slice_rd (by omega) (by omega) h, slice_end (by omega)]
theorem slice4 {xs : List Int} {i : Int} (h0 : 0 ≤ i) (h : i + 4 ≤ xs.length) : (xs.take (i + 4).toNat).drop i.toNat = [rd xs i, rd xs (i + 1), rd xs (i + 2), rd xs (i + 3)] := by
  rw [slice_rd h0 (by omega) h, slice_rd (by omega) (by omega) h, slice_rd (by omega) (by omega) h, slice_rd (by omega) (by omega) h, slice_end (by omega)]
  rw [show i + 1 + 1 = i + 2 by omega, show i + 2 + 1 = i + 3 by omega]
theorem slice6 {xs : List Int} {i : Int} (h0 : 0 ≤ i) (h : i + 6 ≤ xs.length) : (xs.take (i + 6).toNat).drop i.toNat = [rd xs i, rd xs (i + 1), rd xs (i + 2), rd xs (i + 3), rd xs (i + 4), rd xs (i + 5)] := by
  rw [slice_rd h0 (by omega) h, slice_rd (by omega) (by omega) h, slice_rd (by omega) (by omega) h, slice_rd (by omega) (by omega) h, slice_rd (by omega) (by omega) h, slice_rd (by omega) (by omega) h, slice_end (by omega)]
  rw [show i + 1 + 1 = i + 2 by omega, show i + 2 + 1 = i + 3 by omega, show i + 3 + 1 = i + 4 by omega, show i + 4 + 1 = i + 5 by omega]

/-! big-endian numbers -/
theorem wraps_i64 (n : Int) (h₀ : 0 ≤ n) (h₁ : n < 2 ^ 63) : IntKind.i64.wrap n = n := by rw [IntKind.wrap_i64]; omega
theorem or_be {n b : Int} (h0 : 0 ≤ n) (h1 : n < 36028797018963968) (hb0 : 0 ≤ b) (hb1 : b ≤ 255) : Go.bits .or .i64 (wrap64 (n * 256)) (wrap64 b) = n * 256 + b := by
  rw [w64 (by omega) (by omega), w64 (by omega) (by omega)]
  exact bits_join .i64 63 (by decide) wraps_i64 8 (n * 256) b (by omega) (by omega) (by omega) hb0 (by omega) (by omega)

/-! the ones' complement sum of two words -/
def osum (a b : Int) : Int := if a + b > 65535 then a + b - 65535 else a + b
theorem osum_word {a b : Int} (h0 : 0 ≤ a) (h1 : a ≤ 65535) (h2 : 0 ≤ b) (h3 : b ≤ 65535) : 0 ≤ osum a b ∧ osum a b ≤ 65535 := by
  unfold osum
  split <;> omega

/-! hexadecimal digits -/
def hexd (v : Int) : Int := if v < 10 then 48 + v else 87 + v
def hexs (xs : List Int) : List Int := xs.flatMap fun b => [hexd (b / 16), hexd (b % 16)]
theorem hexs_cons (b : Int) (xs : List Int) : hexs (b :: xs) = [hexd (b / 16), hexd (b % 16)] ++ hexs xs := by simp [hexs]
theorem bt_hex {v : Int} (h0 : 0 ≤ v) (h1 : v < 16) : bt (⟨#[48, 49, 50, 51, 52, 53, 54, 55, 56, 57, 97, 98, 99, 100, 101, 102]⟩ : ByteArray) v = hexd v := by
  have h : v = 0 ∨ v = 1 ∨ v = 2 ∨ v = 3 ∨ v = 4 ∨ v = 5 ∨ v = 6 ∨ v = 7 ∨ v = 8 ∨ v = 9 ∨ v = 10 ∨ v = 11 ∨ v = 12 ∨ v = 13 ∨ v = 14 ∨ v = 15 := by omega
  rcases h with rfl | rfl | rfl | rfl | rfl | rfl | rfl | rfl | rfl | rfl | rfl | rfl | rfl | rfl | rfl | rfl <;> rfl

/-! addresses -/
def Half (n : Int) : Prop := 0 ≤ n ∧ n ≤ 4294967295
instance (n : Int) : Decidable (Half n) := by unfold Half; infer_instance
def AddrOK (k a b c d : Int) : Prop := (k = 4 ∧ a = 0 ∧ b = 0 ∧ c = 0 ∧ Half d) ∨ (k = 6 ∧ Half a ∧ Half b ∧ Half c ∧ Half d)
instance (k a b c d : Int) : Decidable (AddrOK k a b c d) := by unfold AddrOK; infer_instance

def pairB (k a b c d k' a' b' c' d' : Int) : Bool := decide (AddrOK k a b c d) && (decide (AddrOK k' a' b' c' d') && (k == k'))
def inB (n lo hi : Int) : Bool := decide (lo ≤ n ∧ n ≤ hi)
theorem ite_goal {α : Type} {c : Prop} [Decidable c] {x y r : α} (h1 : c → x = r) (h2 : ¬ c → y = r) : (if c then x else y) = r := by
  by_cases h : c
  · rw [if_pos h]; exact h1 h
  · rw [if_neg h]; exact h2 h
theorem some_decide {b : Bool} {P : Prop} [Decidable P] (h : b = true ↔ P) : some b = some (decide P) := by
  congr 1
  rw [Bool.eq_iff_iff, h, decide_eq_true_eq]
/-! four bytes, two bytes -/
def be4 (xs : List Int) (i : Int) : Int := ((rd xs i * 256 + rd xs (i + 1)) * 256 + rd xs (i + 2)) * 256 + rd xs (i + 3)
def be2 (xs : List Int) (i : Int) : Int := rd xs i * 256 + rd xs (i + 1)
def addrOf (xs : List Int) : Int × Int × Int × Int × Int × Bool :=
  if (xs.length : Int) = 4 then (4, 0, 0, 0, be4 xs 0, true) else if (xs.length : Int) = 16 then (6, be4 xs 0, be4 xs 4, be4 xs 8, be4 xs 12, true) else (0, 0, 0, 0, 0, false)
theorem list4 {xs : List Int} (h : (xs.length : Int) = 4) : xs = [rd xs 0, rd xs 1, rd xs 2, rd xs 3] := by
  have h1 := slice4 (xs := xs) (i := 0) (by omega) (by omega)
  rw [List.take_of_length_le (by omega)] at h1
  exact h1

/-! the ones' complement sum of bytes in pairs -/
def ones : List Int → Int → Int
  | [], s => s
  | [a], s => osum s (a * 256)
  | a :: b :: r, s => ones r (osum s (a * 256 + b))
theorem ones_word : ∀ (n : Nat) (xs : List Int) (s : Int), xs.length ≤ n → U8 xs → 0 ≤ s → s ≤ 65535 → 0 ≤ ones xs s ∧ ones xs s ≤ 65535
  | _, [], s, _, _, h0, h1 => ⟨h0, h1⟩
  | _, [a], s, _, hx, h0, h1 => by
    have ha := hx a (by simp)
    exact osum_word h0 h1 (by omega) (by omega)
  | 0, a :: b :: r, s, hn, _, _, _ => absurd hn (by simp)
  | n + 1, a :: b :: r, s, hn, hx, h0, h1 => by
    have ha := hx a (by simp)
    have hb := hx b (by simp)
    have h2 := osum_word h0 h1 (show 0 ≤ a * 256 + b by omega) (by omega)
    exact ones_word n r _ (by simp only [List.length_cons] at hn; omega) (fun x h => hx x (by simp [h])) h2.1 h2.2

/-! numbers as bytes -/
def b2 (n : Int) : List Int := [n / 256 % 256, n % 256]
def b4 (n : Int) : List Int := [n / 16777216 % 256, n / 65536 % 256, n / 256 % 256, n % 256]
def b6 (n : Int) : List Int := [n / 1099511627776 % 256, n / 4294967296 % 256, n / 16777216 % 256, n / 65536 % 256, n / 256 % 256, n % 256]
theorem U8.b2 (n : Int) : U8 (b2 n) := U8.cons (by omega) (by omega) (U8.cons (by omega) (by omega) U8.nil)
theorem U8.b4 (n : Int) : U8 (b4 n) := U8.cons (by omega) (by omega) (U8.cons (by omega) (by omega) (U8.cons (by omega) (by omega) (U8.cons (by omega) (by omega) U8.nil)))
theorem U8.b6 (n : Int) : U8 (b6 n) := U8.cons (by omega) (by omega) (U8.cons (by omega) (by omega) (U8.cons (by omega) (by omega) (U8.cons (by omega) (by omega) (U8.cons (by omega) (by omega) (U8.cons (by omega) (by omega) U8.nil)))))
def addrBytes (k a b c d : Int) : List Int := if AddrOK k a b c d then (if k = 4 then b4 d else b4 a ++ (b4 b ++ (b4 c ++ b4 d))) else []
def be6 (xs : List Int) (i : Int) : Int := be2 xs i * 4294967296 + be4 xs (i + 2)
def etherRead (xs : List Int) : Int × Int × Int × Int × List Int × Int :=
  if (xs.length : Int) > 1600 then (0, 0, 0, 0, [], 1) else if (xs.length : Int) < 14 then (0, 0, 0, 0, [], 2) else
  if be2 xs 12 = 33024 then (if (xs.length : Int) < 18 then (0, 0, 0, 0, [], 3) else if be2 xs 16 < 1536 then (0, 0, 0, 0, [], 4) else if be2 xs 16 = 33024 then (0, 0, 0, 0, [], 4) else (be6 xs 0, be6 xs 6, be2 xs 14, be2 xs 16, xs.drop 18, 0))
  else if be2 xs 12 < 1536 then (0, 0, 0, 0, [], 4) else (be6 xs 0, be6 xs 6, -1, be2 xs 12, xs.drop 14, 0)
theorem be2_word {xs : List Int} (h : U8 xs) (i : Int) : 0 ≤ be2 xs i ∧ be2 xs i ≤ 65535 := by
  have h1 := h.byte i
  have h2 := h.byte (i + 1)
  unfold be2
  omega
theorem be4_half {xs : List Int} (h : U8 xs) (i : Int) : 0 ≤ be4 xs i ∧ be4 xs i ≤ 4294967295 := by
  have h1 := h.byte i
  have h2 := h.byte (i + 1)
  have h3 := h.byte (i + 2)
  have h4 := h.byte (i + 3)
  unfold be4
  omega
theorem dropG {α : Type} (z : α) {xs : List α} {i : Int} (h0 : 0 ≤ i) (h : i < xs.length) : xs.drop i.toNat = xs.getD i.toNat z :: xs.drop (i + 1).toNat := by
  have hi : i.toNat < xs.length := by omega
  have e : (i + 1).toNat = i.toNat + 1 := by omega
  rw [List.drop_eq_getElem_cons hi, e]
  congr 1
  rw [List.getD_eq_getElem?_getD, List.getElem?_eq_getElem hi]
  rfl

end Go.Proofs.YtffkgndghbdgnaaGreat.Base
