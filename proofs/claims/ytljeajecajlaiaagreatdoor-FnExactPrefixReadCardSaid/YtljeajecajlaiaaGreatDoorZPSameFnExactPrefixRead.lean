/- PrefixRead: what the program reads is what the reference reads, for every text: plain facts over the two readers' total functions. -/
import Derived.Test.YtljeajecajlaiaaGreatDoorZNReadFnExactPrefixRead
import Derived.Test.YtljeajecajlaiaaGreatDoorZPTextFnExactPrefixRead
namespace Go.Proofs.YtljeajecajlaiaaGreatDoor.PSame
open Go.RowKit Go.Lib Go.Shelf Go.Proofs.YtljeajecajlaiaaGreatDoorW.PrintWords Go.Proofs.YtljeajecajlaiaaGreatDoorW.PrintLast Go.Proofs.YtljeajecajlaiaaGreatDoorW.PrintMore Go.Proofs.YtljeajecajlaiaaGreatDoor.Frame Go.Proofs.YtljeajecajlaiaaGreatDoor.Base Go.Proofs.YtljeajecajlaiaaGreatDoor.Hex Go.Proofs.YtljeajecajlaiaaGreatDoor.Text Go.Proofs.YtljeajecajlaiaaGreatDoor.Spec Go.Proofs.YtljeajecajlaiaaGreatDoor.Pu Go.Proofs.YtljeajecajlaiaaGreatDoor.RPlain Go.Proofs.YtljeajecajlaiaaGreatDoor.Read Go.Proofs.YtljeajecajlaiaaGreatDoor.AddrLaw Go.Proofs.YtljeajecajlaiaaGreatDoor.RLaw Go.Proofs.YtljeajecajlaiaaGreatDoor.RSame Go.Proofs.YtljeajecajlaiaaGreatDoor.NRead Go.Proofs.YtljeajecajlaiaaGreatDoor.PrefixLaw
set_option linter.unusedVariables false
set_option linter.unusedSimpArgs false
theorem idx {z : List UInt8} : ∀ b : List UInt8, (47 : UInt8) ∉ b → Lib.indexByte (b ++ 47 :: z) 47 = b.length
  | [], _ => rfl
  | x :: r, h => by
    simp only [List.mem_cons, not_or] at h
    have e := idx (z := z) r h.2
    show (if x == 47 then 0 else if Lib.indexByte (r ++ 47 :: z) 47 == -1 then -1 else Lib.indexByte (r ++ 47 :: z) 47 + 1) = _
    rw [e, if_neg (by simp only [beq_iff_eq]; exact fun e => h.1 e.symm), if_neg (by simp only [beq_iff_eq]; omega)]
    simp
theorem cut_hit {b z : List UInt8} (h : (47 : UInt8) ∉ b) : Lib.cut (b ++ 47 :: z) [47] = (b, z, true) := by
  unfold Lib.cut
  rw [Lib.index_one, idx b h, if_pos (by omega), Int.toNat_natCast]
  simp
theorem grp_back {c : UInt8} : ∀ (l p : List UInt8) (ps : List (List UInt8)), grp c l = p :: ps → l = p ++ Lib.joinTail [c] ps ∧ ∀ q ∈ p :: ps, c ∉ q
  | [], p, ps, h => by
    injection h with h1 h2
    subst h1
    subst h2
    exact ⟨rfl, fun q hq => by
      rw [List.mem_singleton] at hq
      subst hq
      simp⟩
  | x :: r, p, ps, h => by
    obtain ⟨p', ps', e⟩ := grp_ex c r
    obtain ⟨h1, h2⟩ := grp_back r p' ps' e
    by_cases hx : x = c
    · subst hx
      rw [grp_hit, e] at h
      injection h with h3 h4
      subst h3
      subst h4
      refine ⟨by rw [List.nil_append, h1]; rfl, fun q hq => ?_⟩
      rcases List.mem_cons.1 hq with rfl | hq
      · simp
      · exact h2 q hq
    · rw [grp_cons hx e] at h
      injection h with h3 h4
      subst h3
      subst h4
      refine ⟨by rw [h1]; rfl, fun q hq => ?_⟩
      rcases List.mem_cons.1 hq with rfl | hq
      · rw [List.mem_cons]
        rintro (e' | e')
        · exact hx e'.symm
        · exact h2 p' (List.mem_cons_self ..) e'
      · exact h2 q (List.mem_cons_of_mem _ hq)
theorem grp_two {c : UInt8} {l b z : List UInt8} (h : grp c l = [b, z]) : l = b ++ c :: z ∧ c ∉ b ∧ c ∉ z := by
  obtain ⟨h1, h2⟩ := grp_back l b [z] h
  refine ⟨by rw [h1]; show b ++ (([c] ++ z) ++ []) = _; simp, h2 b (by simp), h2 z (by simp)⟩
theorem two_grp {c : UInt8} {b z : List UInt8} (hb : c ∉ b) (hz : c ∉ z) : grp c (b ++ c :: z) = [b, z] := by rw [grp_cat _ _ hb, grp_one _ hz]
/-! no slash in what AddrText and NumText write -/
theorem ge48 {l : List UInt8} (h : ∀ x ∈ l, 48 ≤ x.toNat) : (47 : UInt8) ∉ l := fun hm => by
  have := h _ hm
  exact absurd this (by decide)
theorem itoa47 {n : Int} (h : 0 ≤ n) : (47 : UInt8) ∉ (itoaS n).data.toList := by
  refine ge48 fun x hx => ?_
  have e : (itoaS n).data.toList = Lib.decDigits n.toNat := by
    unfold itoaS Lib.itoa
    rw [if_neg (by omega)]
  rw [e] at hx
  exact ((decDigits_digit n.toNat).2 x hx).1
theorem hx48 {v : Int} (h0 : 0 ≤ v) (h1 : v < 16) : 48 ≤ (hx v).toNat := by
  have := (hx_dig h0 h1).2.2.2
  unfold hexd at this
  split at this <;> omega
theorem hex47 {u : Int} (h0 : 0 ≤ u) (h1 : u ≤ 65535) : (47 : UInt8) ∉ (hexS u).data.toList := by
  refine ge48 fun x hx => ?_
  rcases hex4 h0 h1 with ⟨c, e⟩ | ⟨c, c', e⟩ | ⟨c, c', e⟩ | ⟨c, e⟩ <;> rw [e] at hx <;> simp only [List.mem_cons, List.not_mem_nil, or_false] at hx
  · subst hx
    exact hx48 (by omega) (by omega)
  · rcases hx with rfl | rfl <;> exact hx48 (by omega) (by omega)
  · rcases hx with rfl | rfl | rfl <;> exact hx48 (by omega) (by omega)
  · rcases hx with rfl | rfl | rfl | rfl <;> exact hx48 (by omega) (by omega)
theorem text47_4 {b0 b1 b2 b3 : Int} (h : U8 [b0, b1, b2, b3]) : (47 : UInt8) ∉ (textOf [b0, b1, b2, b3]).data.toList := by
  rw [text4 h]
  intro hm
  rcases mem_str hm with e | ⟨p, hp, e⟩
  · exact absurd e (by decide)
  · obtain ⟨b, hb, rfl⟩ := List.mem_map.1 hp
    exact itoa47 (h b hb).1 e
theorem text47_16 {b0 b1 b2 b3 b4 b5 b6 b7 b8 b9 b10 b11 b12 b13 b14 b15 : Int} (h : U8 [b0, b1, b2, b3, b4, b5, b6, b7, b8, b9, b10, b11, b12, b13, b14, b15]) : (47 : UInt8) ∉ (textOf [b0, b1, b2, b3, b4, b5, b6, b7, b8, b9, b10, b11, b12, b13, b14, b15]).data.toList := by
  rw [text16 h]
  intro hm
  rcases mem_str hm with e | ⟨p, hp, e⟩
  · exact absurd e (by decide)
  · obtain ⟨w, hw, rfl⟩ := List.mem_map.1 hp
    exact hex47 (ws_word h w hw).1 (ws_word h w hw).2 e
/-- What is told of an address that was read. -/
theorem read_ok {g : ByteArray} {a0 a1 a2 a3 a4 : Int} (h : specRead g = (a0, a1, a2, a3, a4, true)) : textOf (addrBytes a0 a1 a2 a3 a4) = g ∧ (47 : UInt8) ∉ g.data.toList ∧ g.size ≤ 39 ∧ a0 ≠ 0 ∧ 1 ≤ (addrBytes a0 a1 a2 a3 a4).length := by
  rw [← same, implRead] at h
  have hd := data_u8 g
  generalize implData g = d at h hd
  unfold finR at h
  by_cases h4 : d.length = 4
  · match d, h4 with
    | [b0, b1, b2, b3], _ =>
      obtain ⟨e1, e2⟩ := addr4 hd
      rw [e1] at h
      simp only [if_true] at h
      rw [e2] at h
      by_cases ht : (textOf [b0, b1, b2, b3]).toList = g.toList
      · rw [if_pos ht] at h
        obtain rfl := toList_inj ht
        cases h
        rw [e2]
        exact ⟨rfl, text47_4 hd, size4 hd, by decide, by simp⟩
      · rw [if_neg ht] at h
        cases h
  · by_cases h16 : d.length = 16
    · match d, h16 with
      | [b0, b1, b2, b3, b4, b5, b6, b7, b8, b9, b10, b11, b12, b13, b14, b15], _ =>
        obtain ⟨e1, e2⟩ := addr16 hd
        rw [e1] at h
        simp only [if_true] at h
        rw [e2] at h
        by_cases ht : (textOf [b0, b1, b2, b3, b4, b5, b6, b7, b8, b9, b10, b11, b12, b13, b14, b15]).toList = g.toList
        · rw [if_pos ht] at h
          obtain rfl := toList_inj ht
          cases h
          rw [e2]
          exact ⟨rfl, text47_16 hd, size16 hd, by decide, by simp⟩
        · rw [if_neg ht] at h
          cases h
    · have e : addrOf d = Z := by
        unfold addrOf
        rw [if_neg (by omega), if_neg (by omega)]
        rfl
      rw [e] at h
      replace h := (if_neg Bool.false_ne_true).symm.trans h
      cases h
theorem num_ok {g : ByteArray} {n : Int} (h : numR g = (n, true)) : itoaS n = g ∧ 0 ≤ n := by
  unfold numR at h
  cases e : Lib.atoiAll g.data.toList with
  | ok m =>
    rw [e] at h
    simp only at h
    by_cases c : m < 0 ∨ 12 < (g.size : Int) ∨ itoaS m ≠ g
    · rw [if_pos c] at h
      cases h
    · rw [if_neg c] at h
      cases h
      exact ⟨Decidable.byContradiction fun q => c (Or.inr (Or.inr q)), by omega⟩
  | «syntax» =>
    rw [e] at h
    cases h
  | range =>
    rw [e] at h
    cases h
abbrev Six := Int × Int × Int × Int × Int × Int × Bool
def Z6 : Six := (0, 0, 0, 0, 0, 0, false)
def A6 : Six := (0, 0, 0, 0, 0, 0, true)
def ANY : ByteArray := ⟨#[97, 110, 121]⟩
def cutA (s : ByteArray) : ByteArray := ofL (Lib.cut s.data.toList [47]).1
def cutB (s : ByteArray) : ByteArray := ofL (Lib.cut s.data.toList [47]).2.1
def got (A : Int × Int × Int × Int × Int × Bool) (n : Int) : Six := (A.1, A.2.1, A.2.2.1, A.2.2.2.1, A.2.2.2.2.1, n, true)
def okP (A : Int × Int × Int × Int × Int × Bool) (n : Int) : Bool := prefixB A.1 A.2.1 A.2.2.1 A.2.2.2.1 A.2.2.2.2.1 n
def implT (A : Int × Int × Int × Int × Int × Bool) (n : Int) : ByteArray := textP (okP A n) (PrefixLaw.anyB A.1 A.2.1 A.2.2.1 A.2.2.2.1 A.2.2.2.2.1 n) (textOf (addrBytes A.1 A.2.1 A.2.2.1 A.2.2.2.1 A.2.2.2.2.1)) n
def endI (s : ByteArray) (A : Int × Int × Int × Int × Int × Bool) (n : Int × Bool) : Six := if A.2.2.2.2.2 = true ∧ n.2 = true ∧ implT A n.1 = s then got A n.1 else Z6
def endS (A : Int × Int × Int × Int × Int × Bool) (n : Int × Bool) : Six := if A.2.2.2.2.2 = true ∧ n.2 = true ∧ okP A n.1 = true then got A n.1 else Z6
def implP (s : ByteArray) : Six := if s = ANY then A6 else endI s (specRead (cutA s)) (numR (cutB s))
def grpS (G : List ByteArray) : Six := match G with
  | [b, z] => endS (specRead b) (numR z)
  | _ => Z6
def specP (s : ByteArray) : Six := if s = ANY then A6 else if (s.size : Int) > 43 then Z6 else grpS ((grp 47 s.data.toList).map ofL)
theorem prefix_len {k a b c d n : Int} (h1 : prefixB k a b c d n = true) (h2 : PrefixLaw.anyB k a b c d n = false) : 0 ≤ n ∧ n ≤ 128 := by
  unfold prefixB at h1
  rw [h2, Bool.false_or] at h1
  simp only [Bool.and_eq_true, decide_eq_true_eq] at h1
  have h3 := h1.1.2
  split at h3 <;> omega
theorem any_no {k a b c d n : Int} (h : k ≠ 0) : PrefixLaw.anyB k a b c d n = false := by
  unfold PrefixLaw.anyB
  rw [show (k == 0) = false from beq_eq_false_iff_ne.mpr h]
  rfl
theorem str_of {s : ByteArray} {b z : List UInt8} (e : s.data.toList = b ++ 47 :: z) : (ofL b ++ ⟨#[47]⟩) ++ ofL z = s := by
  apply ByteArray.ext
  apply Array.toList_inj.mp
  rw [e]
  simp [ByteArray.data_append, ofL]
theorem size_of {s : ByteArray} {b z : List UInt8} (e : s.data.toList = b ++ 47 :: z) : s.size = (ofL b).size + 1 + (ofL z).size := by
  rw [Lib.size_eq, e]
  show _ = b.length + 1 + z.length
  simp only [List.length_append, List.length_cons]
  omega
theorem sameP (s : ByteArray) : implP s = specP s := by
  unfold implP specP
  by_cases ha : s = ANY
  · rw [if_pos ha, if_pos ha]
  · rw [if_neg ha, if_neg ha]
    by_cases hf : ∃ b z, (47 : UInt8) ∉ b ∧ (47 : UInt8) ∉ z ∧ s.data.toList = b ++ 47 :: z
    · obtain ⟨b, z, hb, hz, e⟩ := hf
      have e1 : cutA s = ofL b := by unfold cutA; rw [e, cut_hit hb]
      have e2 : cutB s = ofL z := by unfold cutB; rw [e, cut_hit hb]
      have e3 : (grp 47 s.data.toList).map ofL = [ofL b, ofL z] := by rw [e, two_grp hb hz]; rfl
      rw [e1, e2, e3]
      show endI s (specRead (ofL b)) (numR (ofL z)) = if (s.size : Int) > 43 then Z6 else endS (specRead (ofL b)) (numR (ofL z))
      obtain ⟨⟨a0, a1, a2, a3, a4, ok⟩, hA⟩ : ∃ A, specRead (ofL b) = A := ⟨_, rfl⟩
      obtain ⟨⟨n, fine⟩, hn⟩ : ∃ n, numR (ofL z) = n := ⟨_, rfl⟩
      rw [hA, hn]
      unfold endI
      by_cases h1 : ok = true
      · by_cases h2 : fine = true
        · subst h1
          subst h2
          obtain ⟨r1, r2, r3, r4, _⟩ := read_ok hA
          obtain ⟨n1, n2⟩ := num_ok hn
          have hany := any_no (k := a0) (a := a1) (b := a2) (c := a3) (d := a4) (n := n) r4
          have hT : implT (a0, a1, a2, a3, a4, true) n = textP (okP (a0, a1, a2, a3, a4, true) n) false (ofL b) (n) := by
            unfold implT
            simp only
            rw [hany, r1]
          rw [hT]
          cases hp : okP (a0, a1, a2, a3, a4, true) n with
          | true =>
            have hl := prefix_len (show prefixB a0 a1 a2 a3 a4 n = true from hp) hany
            have hsz : (itoaS n).size ≤ 3 := by
              obtain ⟨m, rfl⟩ : ∃ m : Nat, n = m := ⟨n.toNat, by omega⟩
              show (Lib.itoa m).length ≤ 3
              rcases itoa_255 (show m ≤ 255 by omega) with ⟨_, e⟩ | ⟨_, _, e⟩ | ⟨_, e⟩ <;> rw [e] <;> simp
            have hs := size_of e
            rw [← n1] at hs
            have ht : textP true false (ofL b) n = s := by
              show (ofL b ++ ⟨#[47]⟩) ++ itoaS n = s
              rw [n1]
              exact str_of e
            rw [if_pos ⟨rfl, rfl, ht⟩, if_neg (by omega)]
            exact (if_pos ⟨rfl, rfl, hp⟩).symm
          | false =>
            have ht : textP false false (ofL b) n ≠ s := fun q => by
              have : s.data.toList = [] := by rw [← q]; rfl
              rw [this] at e
              cases b <;> cases e
            rw [if_neg (fun q => ht q.2.2), show endS (a0, a1, a2, a3, a4, true) (n, true) = Z6 from if_neg (fun q => by have := hp.symm.trans q.2.2; cases this)]
            split <;> rfl
        · rw [if_neg (fun q => h2 q.2.1), show endS (a0, a1, a2, a3, a4, ok) (n, fine) = Z6 from if_neg (fun q => h2 q.2.1)]
          split <;> rfl
      · rw [if_neg (fun q => h1 q.1), show endS (a0, a1, a2, a3, a4, ok) (n, fine) = Z6 from if_neg (fun q => h1 q.1)]
        split <;> rfl
    · have hg : ∀ b z, grp 47 s.data.toList ≠ [b, z] := fun b z h => hf ⟨b, z, (grp_two h).2.1, (grp_two h).2.2, (grp_two h).1⟩
      have hS : grpS ((grp 47 s.data.toList).map ofL) = Z6 := by
        generalize grp 47 s.data.toList = G at hg
        match G, hg with
        | [], _ => rfl
        | [_], _ => rfl
        | [b, z], hg => exact absurd rfl (hg b z)
        | _ :: _ :: _ :: _, _ => rfl
      rw [hS]
      have hI : endI s (specRead (cutA s)) (numR (cutB s)) = Z6 := by
        unfold endI
        refine if_neg fun h => ?_
        obtain ⟨⟨a0, a1, a2, a3, a4, ok⟩, hA⟩ : ∃ A, specRead (cutA s) = A := ⟨_, rfl⟩
        obtain ⟨⟨n, fine⟩, hn⟩ : ∃ n, numR (cutB s) = n := ⟨_, rfl⟩
        rw [hA, hn] at h
        obtain ⟨h1, h2, h3⟩ := h
        simp only at h1 h2 h3
        subst h1
        subst h2
        obtain ⟨r1, r2, r3, r4, r5⟩ := read_ok hA
        obtain ⟨n1, n2⟩ := num_ok hn
        have hany := any_no (k := a0) (a := a1) (b := a2) (c := a3) (d := a4) (n := n) r4
        unfold implT at h3
        simp only at h3
        rw [hany, r1] at h3
        cases hp : okP (a0, a1, a2, a3, a4, true) n with
        | true =>
          rw [hp] at h3
          replace h3 : (cutA s ++ ⟨#[47]⟩) ++ itoaS n = s := h3
          refine hf ⟨(cutA s).data.toList, (itoaS n).data.toList, r2, itoa47 n2, ?_⟩
          conv => lhs; rw [← h3]
          simp [ByteArray.data_append]
        | false =>
          rw [hp] at h3
          have h4 : s = ⟨#[]⟩ := h3.symm
          subst h4
          have h5 : cutA ⟨#[]⟩ = ⟨#[]⟩ := rfl
          rw [h5] at hA
          rw [← same, implRead] at hA
          have h6 : addrOf (implData ⟨#[]⟩) = Z := by
            unfold implData
            rw [hasCol_no (by simp), if_neg Bool.false_ne_true, split_dot]
            rfl
          unfold finR at hA
          rw [h6] at hA
          replace hA := (if_neg Bool.false_ne_true).symm.trans hA
          cases hA
      rw [hI]
      split <;> rfl
end Go.Proofs.YtljeajecajlaiaaGreatDoor.PSame
