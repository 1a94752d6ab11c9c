/- Pieces of a text between separators, and numbers read back out of their digits: plain facts, no program in sight. -/
import Derived.Test.YtljeajecajlaiaaGreatDoorZSpecFnExactPrefixRead
import Derived.Test.YtljeajecajlaiaaGreatDoorZPuFnExactPrefixRead
import Derived.Lib.SplitLaws
import Derived.Lib.IndexBytes
namespace Go.Proofs.YtljeajecajlaiaaGreatDoor.RPlain
open Go.RowKit Go.Lib Go.Shelf Go.Proofs.YtljeajecajlaiaaGreatDoorW.PrintWords Go.Proofs.YtljeajecajlaiaaGreatDoorW.PrintLast Go.Proofs.YtljeajecajlaiaaGreatDoorW.PrintMore Go.Proofs.YtljeajecajlaiaaGreatDoor.Frame Go.Proofs.YtljeajecajlaiaaGreatDoor.Base Go.Proofs.YtljeajecajlaiaaGreatDoor.Hex Go.Proofs.YtljeajecajlaiaaGreatDoor.Text Go.Proofs.YtljeajecajlaiaaGreatDoor.Spec Go.Proofs.YtljeajecajlaiaaGreatDoor.Pu
set_option linter.unusedVariables false
set_option linter.unusedSimpArgs false
/-- The pieces between the bytes c. -/
def grp (c : UInt8) : List UInt8 → List (List UInt8)
  | [] => [[]]
  | x :: r => if x = c then [] :: grp c r else (match grp c r with | [] => [[x]] | p :: ps => (x :: p) :: ps)
theorem grp_hit (c : UInt8) (r : List UInt8) : grp c (c :: r) = [] :: grp c r := if_pos rfl
theorem grp_cons {c x : UInt8} {r p : List UInt8} {ps : List (List UInt8)} (h : x ≠ c) (e : grp c r = p :: ps) : grp c (x :: r) = (x :: p) :: ps := by
  show (if x = c then [] :: grp c r else (match grp c r with | [] => [[x]] | p :: ps => (x :: p) :: ps)) = _
  rw [if_neg h, e]
theorem grp_ex (c : UInt8) : ∀ l : List UInt8, ∃ p ps, grp c l = p :: ps
  | [] => ⟨_, _, rfl⟩
  | x :: r => by
    obtain ⟨p, ps, e⟩ := grp_ex c r
    by_cases h : x = c
    · subst h
      exact ⟨_, _, grp_hit _ _⟩
    · exact ⟨_, _, grp_cons h e⟩
theorem grp_one {c : UInt8} : ∀ l : List UInt8, c ∉ l → grp c l = [l]
  | [], _ => rfl
  | x :: r, h => by
    simp only [List.mem_cons, not_or] at h
    exact grp_cons (fun e => h.1 e.symm) (grp_one r h.2)
theorem grp_cat {c : UInt8} (b : List UInt8) : ∀ a : List UInt8, c ∉ a → grp c (a ++ c :: b) = a :: grp c b
  | [], _ => grp_hit _ _
  | x :: r, h => by
    simp only [List.mem_cons, not_or] at h
    exact grp_cons (fun e => h.1 e.symm) (grp_cat b r h.2)
theorem grp_join {c : UInt8} : ∀ (ps : List (List UInt8)) (p : List UInt8), (∀ q ∈ p :: ps, c ∉ q) → grp c (p ++ Lib.joinTail [c] ps) = p :: ps
  | [], p, h => by
    rw [show Lib.joinTail [c] [] = [] from rfl, List.append_nil]
    exact grp_one p (h p (List.mem_cons_self ..))
  | q :: qs, p, h => by
    rw [show Lib.joinTail [c] (q :: qs) = c :: (q ++ Lib.joinTail [c] qs) from rfl, grp_cat _ p (h p (List.mem_cons_self ..)), grp_join qs q (fun x hx => h x (List.mem_cons_of_mem _ hx))]
theorem splitK_grp (c : UInt8) : ∀ (k : Nat) (s : List UInt8), Lib.count s [c] = k → Lib.splitK [c] 0 k s = grp c s := by
  intro k
  induction k with
  | zero =>
    intro s hk
    refine (grp_one s fun hm => ?_).symm
    rw [Lib.count_one] at hk
    have := List.count_pos_iff.2 hm
    omega
  | succ k ih =>
    intro s hk
    rcases Lib.index_spec s [c] with ⟨h1, _⟩ | ⟨i, h1, _⟩
    · rw [Lib.count_miss h1] at hk
      omega
    · have h2 := Lib.count_hit (by simp) h1
      simp only [List.length_cons, List.length_nil, Nat.zero_add] at h2
      have h3 : Lib.count (s.drop (i + 1)) [c] = k := by omega
      unfold Lib.splitK
      rw [h1, if_neg (by simp)]
      simp only [Int.toNat_natCast, Nat.add_zero, List.length_cons, List.length_nil, Nat.zero_add]
      rw [ih _ h3]
      rw [Lib.index_one] at h1
      obtain ⟨h4, h5⟩ := Lib.indexByte_some h1
      have hi := (List.getElem?_eq_some_iff.1 h4).1
      have hd : s.drop i = c :: s.drop (i + 1) := by
        rw [List.drop_eq_getElem_cons hi, (List.getElem?_eq_some_iff.1 h4).2]
      conv => rhs; rw [← List.take_append_drop i s, hd]
      refine (grp_cat _ _ fun hm => ?_).symm
      obtain ⟨j, hj⟩ := List.mem_iff_getElem?.1 hm
      have hji : j < i := by
        have := (List.getElem?_eq_some_iff.1 hj).1
        rw [List.length_take] at this
        omega
      rw [List.getElem?_take_of_lt hji] at hj
      exact h5 j hji hj
def ofL (p : List UInt8) : ByteArray := ⟨p.toArray⟩
theorem ofL_eta (p : ByteArray) : ofL p.data.toList = p := rfl
theorem of_map {l : List ByteArray} {m : List (List UInt8)} (h : l.map (·.data.toList) = m) : l = m.map ofL := by
  subst h
  rw [List.map_map]
  conv => lhs; rw [← List.map_id l]
  rfl
theorem splitB_grp (c : UInt8) (s : ByteArray) : Lib.splitB ⟨#[c]⟩ 0 (Lib.countB s ⟨#[c]⟩) s = (grp c s.data.toList).map ofL := by
  apply of_map
  rw [Lib.splitB_data]
  exact splitK_grp c _ _ rfl
theorem joined (c : UInt8) (p : ByteArray) (ws : List ByteArray) : (strJ c (p :: ws)).data.toList = p.data.toList ++ Lib.joinTail [c] (ws.map (·.data.toList)) := by
  unfold strJ
  rw [List.map_cons, Lib.join_cons]
theorem grp_str {c : UInt8} {ws : List ByteArray} (hne : ws ≠ []) (h : ∀ p ∈ ws, c ∉ p.data.toList) : (grp c (strJ c ws).data.toList).map ofL = ws := by
  obtain ⟨p, ps, rfl⟩ := List.exists_cons_of_ne_nil hne
  rw [joined, grp_join _ _ (fun q hq => by
    rw [← List.map_cons (f := fun b : ByteArray => b.data.toList)] at hq
    obtain ⟨b, hb, rfl⟩ := List.mem_map.1 hq
    exact h b hb)]
  rw [← List.map_cons (f := fun b : ByteArray => b.data.toList), List.map_map]
  conv => rhs; rw [← List.map_id (p :: ps)]
  rfl
theorem mem_tail {c x : UInt8} : ∀ {ws : List (List UInt8)}, x ∈ Lib.joinTail [c] ws → x = c ∨ ∃ p ∈ ws, x ∈ p
  | [], h => by cases h
  | q :: qs, h => by
    rw [show Lib.joinTail [c] (q :: qs) = c :: (q ++ Lib.joinTail [c] qs) from rfl, List.mem_cons, List.mem_append] at h
    rcases h with h | h | h
    · exact Or.inl h
    · exact Or.inr ⟨q, List.mem_cons_self .., h⟩
    · rcases mem_tail h with h | ⟨p, hp, h⟩
      · exact Or.inl h
      · exact Or.inr ⟨p, List.mem_cons_of_mem _ hp, h⟩
theorem mem_str {c x : UInt8} {ws : List ByteArray} (h : x ∈ (strJ c ws).data.toList) : x = c ∨ ∃ p ∈ ws, x ∈ p.data.toList := by
  cases ws with
  | nil => cases h
  | cons p ps =>
    rw [joined, List.mem_append] at h
    rcases h with h | h
    · exact Or.inr ⟨p, List.mem_cons_self .., h⟩
    · rcases mem_tail h with h | ⟨q, hq, h⟩
      · exact Or.inl h
      · obtain ⟨b, hb, rfl⟩ := List.mem_map.1 hq
        exact Or.inr ⟨b, List.mem_cons_of_mem _ hb, h⟩
/-! digits -/
def dgt (v : Nat) : UInt8 := UInt8.ofNat (48 + v)
theorem dgt_nat {v : Nat} (h : v < 10) : (dgt v).toNat = 48 + v := by
  unfold dgt
  rw [UInt8.toNat_ofNat']
  omega
theorem itoa_255 {n : Nat} (h : n ≤ 255) : (n < 10 ∧ Lib.itoa n = [dgt n]) ∨ (10 ≤ n ∧ n < 100 ∧ Lib.itoa n = [dgt (n / 10), dgt (n % 10)]) ∨ (100 ≤ n ∧ Lib.itoa n = [dgt (n / 100), dgt (n / 10 % 10), dgt (n % 10)]) := by
  have e : Lib.itoa n = Lib.decDigits n := by
    unfold Lib.itoa
    rw [if_neg (by omega), Int.toNat_natCast]
  rw [e]
  by_cases h1 : n < 10
  · exact Or.inl ⟨h1, Lib.decDigits_one h1⟩
  · by_cases h2 : n < 100
    · exact Or.inr (Or.inl ⟨by omega, h2, Lib.decDigits_two h1 h2⟩)
    · refine Or.inr (Or.inr ⟨by omega, ?_⟩)
      rw [Lib.decDigits, dif_neg h1, Lib.decDigits_two (by omega) (by omega), show n / 10 / 10 = n / 100 by omega]
      rfl
theorem parse_dgt {acc v : Nat} (r : List UInt8) (hv : v < 10) (ha : acc ≤ 100) : Lib.parseUintM 4294967295 acc (dgt v :: r) = Lib.parseUintM 4294967295 (acc * 10 + v) r := by
  show (if 48 ≤ (dgt v).toNat ∧ (dgt v).toNat ≤ 57 then _ else _) = _
  rw [dgt_nat hv, if_pos (by omega), if_neg (by omega), if_neg (by omega), show 48 + v - 48 = v by omega]
theorem pv10_itoa {n : Nat} (h : n ≤ 255) : pv10 (itoaS n) = n := by
  unfold pv10 itoaS Lib.parseUintB
  have e32 : (2 : Nat) ^ 32 - 1 = 4294967295 := by decide
  show numOf (if Lib.itoa n = [] then _ else Lib.parseUintM (2 ^ 32 - 1) 0 (Lib.itoa n)) = _
  rw [e32]
  rcases itoa_255 h with ⟨h1, e⟩ | ⟨h1, h2, e⟩ | ⟨h1, e⟩ <;> rw [e, if_neg (by simp)]
  · rw [parse_dgt _ h1 (by omega)]
    show ((0 * 10 + n : Nat) : Int) = n
    omega
  · rw [parse_dgt _ (by omega) (by omega), parse_dgt _ (by omega) (by omega)]
    show (((0 * 10 + n / 10) * 10 + n % 10 : Nat) : Int) = n
    omega
  · rw [parse_dgt _ (by omega) (by omega), parse_dgt _ (by omega) (by omega), parse_dgt _ (by omega) (by omega)]
    show ((((0 * 10 + n / 100) * 10 + n / 10 % 10) * 10 + n % 10 : Nat) : Int) = n
    omega
def hx (v : Int) : UInt8 := UInt8.ofNat (hexd v).toNat
theorem hexS_data (u : Int) : (hexS u).data.toList = (hexN 4 u).map fun n => UInt8.ofNat n.toNat := by
  unfold hexS strOfNums
  simp
theorem hex4 {u : Int} (h0 : 0 ≤ u) (h1 : u ≤ 65535) : (u < 16 ∧ (hexS u).data.toList = [hx u]) ∨ (16 ≤ u ∧ u < 256 ∧ (hexS u).data.toList = [hx (u / 16), hx (u % 16)]) ∨ (256 ≤ u ∧ u < 4096 ∧ (hexS u).data.toList = [hx (u / 16 / 16), hx (u / 16 % 16), hx (u % 16)]) ∨ (4096 ≤ u ∧ (hexS u).data.toList = [hx (u / 16 / 16 / 16), hx (u / 16 / 16 % 16), hx (u / 16 % 16), hx (u % 16)]) := by
  rw [hexS_data]
  unfold hexN
  by_cases c1 : u < 16
  · rw [if_pos c1]
    exact Or.inl ⟨c1, rfl⟩
  · rw [if_neg c1]
    unfold hexN
    by_cases c2 : u / 16 < 16
    · rw [if_pos c2]
      exact Or.inr (Or.inl ⟨by omega, by omega, rfl⟩)
    · rw [if_neg c2]
      unfold hexN
      by_cases c3 : u / 16 / 16 < 16
      · rw [if_pos c3]
        exact Or.inr (Or.inr (Or.inl ⟨by omega, by omega, rfl⟩))
      · rw [if_neg c3]
        unfold hexN
        rw [if_pos (show u / 16 / 16 / 16 < 16 by omega)]
        exact Or.inr (Or.inr (Or.inr ⟨by omega, rfl⟩))
theorem hx_all : ∀ v : Fin 16, dig16 (hx (v.val : Int)) = some v.val ∧ hx (v.val : Int) ≠ 46 ∧ hx (v.val : Int) ≠ 58 ∧ ((hx (v.val : Int)).toNat : Int) = hexd v.val := by decide +kernel
theorem hx_dig {v : Int} (h0 : 0 ≤ v) (h1 : v < 16) : dig16 (hx v) = some v.toNat ∧ hx v ≠ 46 ∧ hx v ≠ 58 ∧ ((hx v).toNat : Int) = hexd v := by
  have := hx_all ⟨v.toNat, by omega⟩
  rw [show (((⟨v.toNat, by omega⟩ : Fin 16).val : Nat) : Int) = v from Int.toNat_of_nonneg h0] at this
  exact this
theorem pu_hx {acc : Nat} {v : Int} (r : List UInt8) (h0 : 0 ≤ v) (h1 : v < 16) (ha : acc ≤ 100000) : pu16 acc (hx v :: r) = pu16 (acc * 16 + v.toNat) r := by
  show (match dig16 (hx v) with | none => _ | some d => _) = _
  rw [(hx_dig h0 h1).1]
  exact if_neg (by omega)
theorem pv16_hex {u : Int} (h0 : 0 ≤ u) (h1 : u ≤ 65535) : pv16 (hexS u) = u := by
  unfold pv16 pu16B
  rcases hex4 h0 h1 with ⟨c, e⟩ | ⟨c, c', e⟩ | ⟨c, c', e⟩ | ⟨c, e⟩ <;> rw [e, if_neg (by simp)]
  · rw [pu_hx _ (by omega) (by omega) (by omega)]
    show ((0 * 16 + u.toNat : Nat) : Int) = u
    omega
  · rw [pu_hx _ (by omega) (by omega) (by omega), pu_hx _ (by omega) (by omega) (by omega)]
    show (((0 * 16 + (u / 16).toNat) * 16 + (u % 16).toNat : Nat) : Int) = u
    omega
  · rw [pu_hx _ (by omega) (by omega) (by omega), pu_hx _ (by omega) (by omega) (by omega), pu_hx _ (by omega) (by omega) (by omega)]
    show ((((0 * 16 + (u / 16 / 16).toNat) * 16 + (u / 16 % 16).toNat) * 16 + (u % 16).toNat : Nat) : Int) = u
    omega
  · rw [pu_hx _ (by omega) (by omega) (by omega), pu_hx _ (by omega) (by omega) (by omega), pu_hx _ (by omega) (by omega) (by omega), pu_hx _ (by omega) (by omega) (by omega)]
    show (((((0 * 16 + (u / 16 / 16 / 16).toNat) * 16 + (u / 16 / 16 % 16).toNat) * 16 + (u / 16 % 16).toNat) * 16 + (u % 16).toNat : Nat) : Int) = u
    omega
theorem dgt_sep {v : Nat} (h : v < 10) : dgt v ≠ 46 ∧ dgt v ≠ 58 := by
  have := dgt_nat h
  constructor <;> intro e <;> rw [e] at this <;> simp at this <;> omega
theorem itoa_sep {n : Nat} (h : n ≤ 255) : (46 : UInt8) ∉ Lib.itoa n ∧ (58 : UInt8) ∉ Lib.itoa n := by
  rcases itoa_255 h with ⟨h1, e⟩ | ⟨h1, h2, e⟩ | ⟨h1, e⟩ <;> rw [e] <;> simp only [List.mem_cons, List.not_mem_nil, or_false, not_or]
  · exact ⟨(dgt_sep h1).1.symm, (dgt_sep h1).2.symm⟩
  · have a := dgt_sep (v := n / 10) (by omega)
    have b := dgt_sep (v := n % 10) (by omega)
    exact ⟨⟨a.1.symm, b.1.symm⟩, a.2.symm, b.2.symm⟩
  · have a := dgt_sep (v := n / 100) (by omega)
    have b := dgt_sep (v := n / 10 % 10) (by omega)
    have d := dgt_sep (v := n % 10) (by omega)
    exact ⟨⟨a.1.symm, b.1.symm, d.1.symm⟩, a.2.symm, b.2.symm, d.2.symm⟩
theorem hex_sep {u : Int} (h0 : 0 ≤ u) (h1 : u ≤ 65535) : (46 : UInt8) ∉ (hexS u).data.toList ∧ (58 : UInt8) ∉ (hexS u).data.toList := by
  rcases hex4 h0 h1 with ⟨c, e⟩ | ⟨c, c', e⟩ | ⟨c, c', e⟩ | ⟨c, e⟩ <;> rw [e] <;> simp only [List.mem_cons, List.not_mem_nil, or_false, not_or]
  · have a := hx_dig (v := u) (by omega) (by omega)
    exact ⟨a.2.1.symm, a.2.2.1.symm⟩
  · have a := hx_dig (v := u / 16) (by omega) (by omega)
    have b := hx_dig (v := u % 16) (by omega) (by omega)
    exact ⟨⟨a.2.1.symm, b.2.1.symm⟩, a.2.2.1.symm, b.2.2.1.symm⟩
  · have a := hx_dig (v := u / 16 / 16) (by omega) (by omega)
    have b := hx_dig (v := u / 16 % 16) (by omega) (by omega)
    have d := hx_dig (v := u % 16) (by omega) (by omega)
    exact ⟨⟨a.2.1.symm, b.2.1.symm, d.2.1.symm⟩, a.2.2.1.symm, b.2.2.1.symm, d.2.2.1.symm⟩
  · have a := hx_dig (v := u / 16 / 16 / 16) (by omega) (by omega)
    have b := hx_dig (v := u / 16 / 16 % 16) (by omega) (by omega)
    have d := hx_dig (v := u / 16 % 16) (by omega) (by omega)
    have f := hx_dig (v := u % 16) (by omega) (by omega)
    exact ⟨⟨a.2.1.symm, b.2.1.symm, d.2.1.symm, f.2.1.symm⟩, a.2.2.1.symm, b.2.2.1.symm, d.2.2.1.symm, f.2.2.1.symm⟩
/-! what the reference reads -/
def dgv (b c : Int) : Int := if 48 ≤ c ∧ c ≤ 57 ∧ c < 48 + b then c - 48 else if 97 ≤ c ∧ c < 87 + b then c - 87 else -1
def val (b : Int) : List UInt8 → Int → Int
  | [], n => n
  | c :: r, n => if dgv b c.toNat < 0 then -1 else val b r (b * n + dgv b c.toNat)
def valS (b : Int) (s : ByteArray) : Int := if (s.size : Int) < 1 then -1 else if (s.size : Int) > 4 then -1 else val b s.data.toList 0
theorem dgv_le {b c : Int} (hb : b ≤ 16) : -1 ≤ dgv b c ∧ dgv b c ≤ 15 := by
  unfold dgv
  split
  · omega
  · split <;> omega
theorem dgv_hex {b c x : Int} (hb : b ≤ 16) (h0 : 0 ≤ x) (h1 : x < b) : c = hexd x ↔ dgv b c = x := by
  unfold dgv hexd
  split <;> split <;> (try split) <;> omega
theorem val_hit {b x : Int} {c : UInt8} (r : List UInt8) (n : Int) (hb : b ≤ 16) (h0 : 0 ≤ x) (h1 : x < b) (hc : (c.toNat : Int) = hexd x) : val b (c :: r) n = val b r (b * n + x) := by
  show (if dgv b c.toNat < 0 then -1 else val b r (b * n + dgv b c.toNat)) = _
  rw [(dgv_hex hb h0 h1).1 hc, if_neg (by omega)]
theorem dgt_hex {v : Nat} (h : v < 10) : ((dgt v).toNat : Int) = hexd v := by
  rw [dgt_nat h]
  unfold hexd
  rw [if_pos (by omega)]
  omega
theorem val_itoa {n : Nat} (h : n ≤ 255) : valS 10 (itoaS n) = n := by
  unfold valS itoaS
  show (if ((Lib.itoa n).length : Int) < 1 then -1 else if ((Lib.itoa n).length : Int) > 4 then -1 else val 10 (Lib.itoa n) 0) = _
  rcases itoa_255 h with ⟨h1, e⟩ | ⟨h1, h2, e⟩ | ⟨h1, e⟩ <;> rw [e, if_neg (by simp), if_neg (by simp)]
  · rw [val_hit _ _ (by omega) (by omega) (by omega) (dgt_hex h1)]
    show 10 * 0 + (n : Int) = n
    omega
  · rw [val_hit _ _ (by omega) (by omega) (by omega) (dgt_hex (by omega)), val_hit _ _ (by omega) (by omega) (by omega) (dgt_hex (by omega))]
    show 10 * (10 * 0 + ((n / 10 : Nat) : Int)) + ((n % 10 : Nat) : Int) = n
    omega
  · rw [val_hit _ _ (by omega) (by omega) (by omega) (dgt_hex (by omega)), val_hit _ _ (by omega) (by omega) (by omega) (dgt_hex (by omega)), val_hit _ _ (by omega) (by omega) (by omega) (dgt_hex (by omega))]
    show 10 * (10 * (10 * 0 + ((n / 100 : Nat) : Int)) + ((n / 10 % 10 : Nat) : Int)) + ((n % 10 : Nat) : Int) = n
    omega
theorem val_hex {u : Int} (h0 : 0 ≤ u) (h1 : u ≤ 65535) : valS 16 (hexS u) = u := by
  unfold valS
  rw [Lib.size_eq]
  rcases hex4 h0 h1 with ⟨c, e⟩ | ⟨c, c', e⟩ | ⟨c, c', e⟩ | ⟨c, e⟩ <;> rw [e, if_neg (by simp), if_neg (by simp)]
  · rw [val_hit _ _ (by omega) h0 (by omega) (hx_dig (by omega) (by omega)).2.2.2]
    show 16 * 0 + u = u
    omega
  · rw [val_hit (x := u / 16) _ _ (by omega) (by omega) (by omega) (hx_dig (by omega) (by omega)).2.2.2, val_hit (x := u % 16) _ _ (by omega) (by omega) (by omega) (hx_dig (by omega) (by omega)).2.2.2]
    show 16 * (16 * 0 + u / 16) + u % 16 = u
    omega
  · rw [val_hit (x := u / 16 / 16) _ _ (by omega) (by omega) (by omega) (hx_dig (by omega) (by omega)).2.2.2, val_hit (x := u / 16 % 16) _ _ (by omega) (by omega) (by omega) (hx_dig (by omega) (by omega)).2.2.2, val_hit (x := u % 16) _ _ (by omega) (by omega) (by omega) (hx_dig (by omega) (by omega)).2.2.2]
    show 16 * (16 * (16 * 0 + u / 16 / 16) + u / 16 % 16) + u % 16 = u
    omega
  · rw [val_hit (x := u / 16 / 16 / 16) _ _ (by omega) (by omega) (by omega) (hx_dig (by omega) (by omega)).2.2.2, val_hit (x := u / 16 / 16 % 16) _ _ (by omega) (by omega) (by omega) (hx_dig (by omega) (by omega)).2.2.2, val_hit (x := u / 16 % 16) _ _ (by omega) (by omega) (by omega) (hx_dig (by omega) (by omega)).2.2.2, val_hit (x := u % 16) _ _ (by omega) (by omega) (by omega) (hx_dig (by omega) (by omega)).2.2.2]
    show 16 * (16 * (16 * (16 * 0 + u / 16 / 16 / 16) + u / 16 / 16 % 16) + u / 16 % 16) + u % 16 = u
    omega
end Go.Proofs.YtljeajecajlaiaaGreatDoor.RPlain
